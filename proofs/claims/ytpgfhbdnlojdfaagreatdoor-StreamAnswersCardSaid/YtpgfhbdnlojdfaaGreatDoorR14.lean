/- Packed by wip/tools/pack.py out of MNums. -/
import Derived.Laws.EntriesVeiled
import Derived.Test.YtpgfhbdnlojdfaaGreatDoorR12
namespace Go.Proofs.YtpgfhbdnlojdfaaGreatDoor.P
open Go.RowKit Go.Shelf Go.Proofs.YtpgfhbdnlojdfaaGreatDoorW.PrintWords Go.Proofs.YtpgfhbdnlojdfaaGreatDoorW.PrintLast Go.Proofs.YtpgfhbdnlojdfaaGreatDoorW.PrintMore Go.Proofs.YtpgfhbdnlojdfaaGreatDoor.Seq
set_option linter.unusedVariables false
set_option linter.unusedSimpArgs false
def nstep (x b : Int) : Int := Go.bits .or .u32 ((x * 256) % 4294967296) (b % 4294967296)
def numB (l : List Int) : Int := l.foldl nstep 0
theorem numB_snoc (l : List Int) (b : Int) : numB (l ++ [b]) = nstep (numB l) b := by simp [numB]
def chunkB (l : List Int) (k j : Nat) : List Int := (l.drop (j * k)).take k
def numsB (k : Nat) (l : List Int) : List Int := (List.range (l.length / k)).map fun j => numB (chunkB l k j)
theorem numsB_take (k : Nat) (l : List Int) (j : Nat) (h : j < l.length / k) : (numsB k l).take (j + 1) = (numsB k l).take j ++ [numB (chunkB l k j)] := by
  have h1 : j < (numsB k l).length := by simpa [numsB] using h
  rw [List.take_succ_eq_append_getElem h1]
  simp [numsB]
theorem numsB_at (k : Nat) (l : List Int) (j : Nat) (h : j < l.length / k) : ∃ rest, numsB k l = (numsB k l).take j ++ numB (chunkB l k j) :: rest := by
  refine ⟨(numsB k l).drop (j + 1), ?_⟩
  have h1 : j < (numsB k l).length := by simpa [numsB] using h
  have h2 := List.take_append_drop j (numsB k l)
  rw [List.drop_eq_getElem_cons h1] at h2
  have e : (numsB k l)[j] = numB (chunkB l k j) := by simp [numsB]
  rw [e] at h2
  exact h2.symm
set_option maxHeartbeats 1000000 in
theorem numbers.any (A : Option Addr) (n c : Nat) (k : Int) (w : World) :
    Calls Tryz.prog 59 #[.int .i64 k, .slice A n c] w fun e w' => e = .returned (.func (.func 85) #[] #[.pointer (some ⟨w.heap.size + 1, 0, none⟩), .pointer (some ⟨w.heap.size, 0, none⟩)]) ∧ w' = (w.alloc (.cells #[.int .i64 k] 3)).alloc (.cells #[.slice A n c] 23) := by
  have hmf : ∀ (fn : Fn) (first cap : Array Value) (w : World), (Instr.makeFunc fn first cap).run Tryz.prog w = .ok (.func fn first cap) w := fun _ _ _ _ => rfl
  go_enter Tryz.func59, Tryz.ntmps59
  go_wp2
  go_ret
  exact ⟨rfl, rfl⟩
attribute [local go_sem] Oper.semAt_some
theorem chunk_at {ad : Addr} {l : List Int} {w : World} (h : (Kd.int .u8).C w (some ad) l.length l) (k j i : Nat) (hi : i < (chunkB l k j).length) : w.cell? ((ad.add (j * k)).add i) = some (.int .u8 ((chunkB l k j)[i])) := by
  have h1 : j * k + i < l.length := by unfold chunkB at hi; rw [List.length_take, List.length_drop] at hi; omega
  obtain ⟨ad', e, hx⟩ := int_at h (j * k + i) h1
  cases e
  rw [Addr.add_add, hx]
  have e : ∀ (h : i < ((l.drop (j * k)).take k).length), ((l.drop (j * k)).take k)[i] = l[j * k + i] := fun h => by rw [List.getElem_take, List.getElem_drop]
  exact congrArg (fun x => some (Value.int .u8 x)) (e hi).symm
theorem chunk_len (l : List Int) (k j : Nat) : (chunkB l k j).length = min k (l.length - j * k) := by unfold chunkB; rw [List.length_take, List.length_drop]
theorem range_split {M : Nat} {pre rest : List Nat} {x : Nat} (h : List.range M = pre ++ x :: rest) : x = pre.length ∧ pre.length < M := by
  have h1 : (List.range M)[pre.length]? = some x := by rw [h]; simp
  have h2 : (List.range M).length = M := List.length_range
  rw [h] at h2
  simp at h2
  have h3 : pre.length < M := by omega
  rw [List.getElem?_range h3] at h1
  exact ⟨(Option.some.inj h1).symm, h3⟩
theorem add_block (a : Addr) (n : Nat) : (a.add n).block = a.block := by unfold Addr.add; split <;> rfl
theorem st_aside {α : Type} {B : Nat} {I : List α → (Nat → Prop) → World → Prop} (h : St B I) : St B (fun s O W => Aside0 (I s O W)) := fun s O A C row hs hg hr => ⟨h s O A C row hs.out hg hr⟩
structure NumI (Need : Nat → Prop) (J : List Int → (Nat → Prop) → World → Prop) (W : World) (ns : List Int) (t : TypeId) (v : Value) (pre : List Nat) (O : Nat → Prop) (X : World) : Prop where
  len : pre.length ≤ ns.length
  bet : Between Need J (ns.take pre.length) W X O
  box : Boxed X W.heap.size t v
theorem NumI.st {Need : Nat → Prop} {J : List Int → (Nat → Prop) → World → Prop} {W : World} {ns : List Int} {t : TypeId} {v : Value} {B : Nat} (hJ : St W.heap.size J) (hn : ∀ i, Need i → i < W.heap.size) (hb : W.heap.size < B) : St B (NumI Need J W ns t v) :=
  fun pre O X Y row hs hg hr => ⟨hs.len, ⟨hs.bet.own, hJ _ _ _ _ _ hs.bet.holds hg (fun r e => ⟨by have := (hr r e).1; omega, (hr r e).2⟩),
    fun i hi => (hg.block i (Nat.lt_of_lt_of_le (hn i hi) hs.bet.size) (fun e => by have := (hr i e.symm).1; have := hn i hi; omega)).trans (hs.bet.need i hi), Nat.le_trans hs.bet.size hg.size⟩,
    hs.box.kept hg (fun e => by have := (hr _ e.symm).1; omega)⟩
def NumX (J Jx : List Int → (Nat → Prop) → World → Prop) (ns : List Int) (cd : Code) (_ : List Nat) (O : Nat → Prop) (X : World) : Prop := cd = .ret ∧ (J ns O X ∨ ∃ pre rest, ns = pre ++ rest ∧ Jx pre O X)
theorem NumX.st {J Jx : List Int → (Nat → Prop) → World → Prop} {ns : List Int} {cd : Code} {B : Nat} (hJ : St B J) (hJx : St B Jx) : St B (NumX J Jx ns cd) :=
  fun pre O X Y row hs hg hr => ⟨hs.1, hs.2.elim (fun h => .inl (hJ _ _ _ _ _ h hg hr)) (fun ⟨p, r, e, h⟩ => .inr ⟨p, r, e, hJx _ _ _ _ _ h hg hr⟩)⟩
theorem numsB_length (k : Nat) (l : List Int) : (numsB k l).length = l.length / k := by simp [numsB]
set_option maxRecDepth 100000 in
set_option maxHeartbeats 4000000 in
theorem numbers1.seq (A : Option Addr) (ad : Addr) (l0 : List Int) (c k Bb Bk : Nat) (w : World) (hA : 0 < l0.length → A = some ad) (hn : l0.length ≤ c) (hn2 : l0.length ≤ 140737488355328) (hk1 : 1 ≤ k) (hk2 : k ≤ 8) (hb0 : Bb < w.heap.size) (hk0 : Bk < w.heap.size) (had : ad.block < w.heap.size)
    (hB : w.cell? ⟨Bb, 0, none⟩ = some (.slice A l0.length c)) (hK : w.cell? ⟨Bk, 0, none⟩ = some (.int .i64 (k : Int))) (hR : (Kd.int .u8).C w (some ad) l0.length l0) :
    SeqL Tryz.prog 85 #[.pointer (some ⟨Bb, 0, none⟩), .pointer (some ⟨Bk, 0, none⟩)] (fun x : Int => #[.int .u32 x]) (fun i => i = Bb ∨ i = Bk ∨ i = ad.block) (numsB k l0) w := by
  intro m l J Jx W hW hJ hJx hY hJ0
  refine callsIn_of_wp_marks Tryz.func85 rfl trivial ?_ rfl
  simp only [Tryz.ntmps85, List.size_toArray, List.length_cons, List.length_nil, Nat.reduceAdd, Nat.reduceSub, Array.replicate_succ, Array.replicate_zero, List.push_toArray, List.append_toArray, List.nil_append, List.cons_append]
  have hBW := (hW.cell (p := ⟨Bb, 0, none⟩) hb0).trans hB
  have hKW := (hW.cell (p := ⟨Bk, 0, none⟩) hk0).trans hK
  have hRW := Kd.C_below hR hW
  have HN := Aside0.mk (show ∀ i, (i = Bb ∨ i = Bk ∨ i = ad.block) → i < W.heap.size from fun i h => by have := hW.size; rcases h with rfl | rfl | rfl <;> omega)
  have HA := Aside0.mk hA
  clear hB hK hR hA
  have hk3 : (1 : Int) ≤ k := by omega
  have HY := Aside0.mk hY
  have HJ := Aside0.mk hJ
  have HJx := Aside0.mk hJx
  clear hY hJ hJx
  have HC := Aside0.mk (Chunk.any A l0.length c (k : Int) (W.alloc (.cells #[.func (.yield l) #[] #[]] 121)) hk3)
  have hBW1 : (W.alloc (.cells #[.func (.yield l) #[] #[]] 121)).cell? ⟨Bb, 0, none⟩ = some (.slice A l0.length c) := cell_up ((Below.refl _ W).alloc (Nat.le_refl _) _) hBW
  have hKW1 : (W.alloc (.cells #[.func (.yield l) #[] #[]] 121)).cell? ⟨Bk, 0, none⟩ = some (.int .i64 (k : Int)) := cell_up ((Below.refl _ W).alloc (Nat.le_refl _) _) hKW
  gi_wp2_with (refine ⟨trivial, fun h => by simp [Fence.wide] at h, ?_⟩; (with_reducible refine (callsIn_wide.2 HC.out).mono ?_); rintro e w' ⟨rfl, rfl⟩)
  obtain ⟨W1, hW1⟩ : ∃ W1, ((W.alloc (.cells #[.func (.yield l) #[] #[]] 121)).alloc (.cells #[.slice A l0.length c] 23)).alloc (.cells #[.int .i64 (k : Int)] 3) = W1 := ⟨_, rfl⟩
  have hb1 : Below W.heap.size W W1 := by rw [← hW1]; exact ((((Below.refl _ W).alloc (Nat.le_refl _) _).alloc (by simp) _).alloc (by simp; omega) _)
  have hs1 : W1.heap.size = W.heap.size + 3 := by rw [← hW1]; simp
  have bY : Boxed W1 W.heap.size 121 (.func (.yield l) #[] #[]) := by rw [← hW1]; exact ((Boxed.new W _ _).alloc _).alloc _
  have bB : Boxed W1 (W.heap.size + 1) 23 (.slice A l0.length c) := by
    have h := (Boxed.new (W.alloc (.cells #[.func (.yield l) #[] #[]] 121)) 23 (.slice A l0.length c)).alloc (.cells #[.int .i64 (k : Int)] 3)
    rw [hW1, World.size_alloc] at h
    exact h
  have bK : Boxed W1 (W.heap.size + 1 + 1) 3 (.int .i64 (k : Int)) := by
    have h := Boxed.new ((W.alloc (.cells #[.func (.yield l) #[] #[]] 121)).alloc (.cells #[.slice A l0.length c] 23)) 3 (.int .i64 (k : Int))
    rw [hW1, World.size_alloc, World.size_alloc] at h
    exact h
  rw [hW1]
  clear hW1 HC hBW1 hKW1
  refine wp_rangeW (gf := 103) (lb := #[.pointer (some ⟨W.heap.size + 1, 0, none⟩), .pointer (some ⟨W.heap.size + 1 + 1, 0, none⟩)]) rfl (enters_of Tryz.func103 (by kernel_rfl) rfl)
    (Chunk1.seq A ad l0.length c k (W.heap.size + 1) (W.heap.size + 1 + 1) W1 HA.out hn hn2 hk1 (by omega) (by omega) (by omega) bB.cell bK.cell) (fun i h => by rcases h with rfl | rfl <;> omega) (Below.refl _ _) (fun _ => rfl)
    (fun pre O X => Aside0 (NumI (fun i => i = Bb ∨ i = Bk ∨ i = ad.block) J W (numsB k l0) 121 (.func (.yield l) #[] #[]) pre O X))
    (fun cd pre O X => Aside0 (NumX J Jx (numsB k l0) cd pre O X))
    (st_aside (NumI.st HJ.out HN.out (by omega))) (fun cd => st_aside (NumX.st (HJ.out.mono (by omega)) (HJx.out.mono (by omega))))
    ⟨⟨Nat.zero_le _, ⟨fun _ h => h.elim, by simpa using HJ.out.below hJ0 hb1, fun i hi => hb1.block i (HN.out i hi), hb1.size⟩, bY⟩⟩
    ?round ?done ?stop
  case round =>
    intro l2 pre x rest O X hx hO _
    obtain ⟨rfl, hpM⟩ := range_split hx
    obtain ⟨e, he⟩ : ∃ e, e = (chunkB l0 k pre.length).length := ⟨_, rfl⟩
    have HE := Aside0.mk he
    have HO := Aside0.mk hO
    have eV : chunkV ad l0.length k pre.length = .slice (some (ad.add (pre.length * k))) e e := by
      rw [he, chunk_len]; rfl
    rw [eV]
    clear eV he hO
    gi_wp2
    refine ⟨⟨rfl, rfl, rfl, Nat.le_refl _, fun _ _ _ => rfl⟩, ?_⟩
    intro W2 HI _
    have cK := (cell_same (o := 0) (HI.out.bet.need Bk (.inr (.inl rfl)))).trans hKW
    have cY := HI.out.box.cell
    have dat : ∀ i (h : i < (chunkB l0 k pre.length).length), W2.cell? ((ad.add (pre.length * k)).add i) = some (.int .u8 ((chunkB l0 k pre.length)[i])) := by
      intro i h
      refine (cell_same' ?_).trans (chunk_at hRW k _ i h)
      rw [add_block, add_block]
      exact HI.out.bet.need _ (.inr (.inr rfl))
    have DAT := Aside0.mk dat
    have hek : e ≤ k := by rw [HE.out, chunk_len]; exact Nat.min_le_left _ _
    clear dat
    obtain ⟨a2, ha2⟩ : ∃ a2, a2 = ad.add (pre.length * k) := ⟨_, rfl⟩
    rw [← ha2] at DAT ⊢
    clear ha2
    gi_wp2
    gi_loop [5, 7, 14] (fun x _ i => ∃ q : Nat, q ≤ e ∧ i = .int .i64 q ∧ x = .int .u32 (numB ((chunkB l0 k pre.length).take q))) (fun _ _ i => e - (intOf i).toNat)
    case atStart => exact ⟨0, Nat.zero_le _, rfl, rfl⟩
    case round =>
      obtain ⟨q, hq, rfl, rfl⟩ := hrel
      by_cases hlt : q < e
      · have hlt2 : q < (chunkB l0 k pre.length).length := by rw [← HE.out]; exact hlt
        have hc := DAT.out q hlt2
        have HN2 := Aside0.mk (show numB ((chunkB l0 k pre.length).take (q + 1)) = nstep (numB ((chunkB l0 k pre.length).take q)) ((chunkB l0 k pre.length)[q]) from by rw [List.take_succ_eq_append_getElem hlt2, numB_snoc])
        gi_wp2
        go_round
        case rel => exact ⟨q + 1, by omega, by go_num, by rw [HN2.out]; rfl⟩
        case measure => simp [intOf]; omega
      · obtain rfl : q = e := by omega
        have HT := Aside0.mk (show numB ((chunkB l0 k pre.length).take q) = numB (chunkB l0 k pre.length) by rw [List.take_of_length_le (by rw [← HE.out]; exact Nat.le_refl _)])
        rw [HT.out]
        have hqm := HE.out
        rw [chunk_len] at hqm
        by_cases hfull : q < k
        · have hge : (numsB k l0).length ≤ pre.length := by
            rw [numsB_length]
            have h1 : l0.length - pre.length * k < k := by
              rcases Nat.le_total k (l0.length - pre.length * k) with h | h
              · rw [Nat.min_eq_left h] at hqm; omega
              · rw [Nat.min_eq_right h] at hqm; omega
            have h2 : l0.length < (pre.length + 1) * k := by rw [Nat.add_mul]; omega
            have := (Nat.div_lt_iff_lt_mul (by omega : 0 < k)).2 h2
            omega
          have hJ2 := HI.out.bet.holds
          rw [List.take_of_length_le hge] at hJ2
          have HJ2 := Aside0.mk hJ2
          clear hJ2 hqm hge
          gi_wp2
          refine ⟨fun _ h => (by cases h), ?_⟩
          gi_wp2
          exact ⟨O, Keeps.refl _ _ _ _, fun _ h => .inl h, ⟨rfl, .inl HJ2.out⟩⟩
        · obtain rfl : q = k := by omega
          have hlt2 : pre.length < l0.length / q := by
            have h1 : q ≤ l0.length - pre.length * q := by
              have h3 := Nat.min_le_right q (l0.length - pre.length * q)
              rwa [← hqm] at h3
            have h2 : (pre.length + 1) * q ≤ l0.length := by rw [Nat.add_mul]; omega
            exact (Nat.le_div_iff_mul_le (by omega)).2 h2
          obtain ⟨rest2, hr2⟩ := numsB_at q l0 pre.length hlt2
          have Y := HY.out _ _ rest2 O W2 hr2 HI.out.bet.own HI.out.bet.holds
          have HT2 := Aside0.mk (numsB_take q l0 pre.length hlt2)
          have HR2 := Aside0.mk hr2
          have HL := Aside0.mk hlt2
          clear hqm hr2 hlt2
          obtain ⟨v, hv⟩ : ∃ v, v = numB (chunkB l0 q pre.length) := ⟨_, rfl⟩
          rw [← hv] at Y ⊢
          have HV := Aside0.mk hv
          clear hv HT
          obtain ⟨fn, tmps, assign, body, hy, hR⟩ := Y
          have HRR := Aside0.mk hR
          clear hR
          gi_wp2
          refine ⟨fun h => by simp [Fence.wide] at h, ?_⟩
          refine RoundIn.mono (show RoundIn (Fence.wide.inRound l2) _ _ _ _ _ _ _ _ _ from roundIn_any HRR.out) ?_
          rintro e W3 (⟨rfl, O', hJ3, hk3, hs3⟩ | ⟨rfl, O', hJx3, hk3, hs3⟩)
          · have fin : ∃ O', Keeps (fun i => i = W.heap.size + 1 ∨ i = W.heap.size + 1 + 1) W1.heap.size O W2 W3 ∧ Sub O O' W2 ∧ Aside0 (NumI (fun i => i = Bb ∨ i = Bk ∨ i = ad.block) J W (numsB q l0) 121 (.func (.yield l) #[] #[]) (pre ++ [pre.length]) O' W3) := by
              refine ⟨O', hk3.mono (fun i hi h => .inr ?_), hs3, ⟨?_, ?_, ?_⟩⟩
              · rcases h with (rfl | rfl) | ⟨h1, h2⟩
                · exact ⟨by omega, fun h => by have := HO.out _ h; omega⟩
                · exact ⟨by omega, fun h => by have := HO.out _ h; omega⟩
                · exact ⟨by omega, h2⟩
              · rw [List.length_append, numsB_length]; exact HL.out
              · rw [List.length_append]
                show Between _ J ((numsB q l0).take (pre.length + 1)) W W3 O'
                rw [HT2.out, ← HV.out]
                exact HI.out.bet.next HN.out hJ3 hk3 hs3
              · exact (hk3.same _ (HI.out.box.lt) (.inr ⟨Nat.le_refl _, fun h => by have := HO.out _ h; omega⟩)).trans HI.out.box
            have FIN := Aside0.mk fin
            clear fin
            gi_wp2
            exact FIN.out
          · have fin : ∃ O', Keeps (fun i => i = W.heap.size + 1 ∨ i = W.heap.size + 1 + 1) W1.heap.size O W2 W3 ∧ Sub O O' W2 ∧ Aside0 (NumX J Jx (numsB q l0) .ret (pre ++ [pre.length]) O' W3) := by
              refine ⟨O', hk3.mono (fun i hi h => .inr ?_), hs3, ⟨rfl, .inr ⟨_, rest2, HR2.out.trans (by rw [← HV.out]; simp), hJx3⟩⟩⟩
              rcases h with (rfl | rfl) | ⟨h1, h2⟩
              · exact ⟨by omega, fun h => by have := HO.out _ h; omega⟩
              · exact ⟨by omega, fun h => by have := HO.out _ h; omega⟩
              · exact ⟨by omega, h2⟩
            have FIN := Aside0.mk fin
            clear fin
            gi_wp2
            exact FIN.out
  case done =>
    rintro D O X hD hOD ⟨hI⟩ hK
    have hl := hI.len
    rw [List.length_range] at hl
    have hq : (numsB k l0).length ≤ (l0.length + k - 1) / k := by
      rw [numsB_length]
      exact Nat.div_le_div_right (by omega)
    have hJX := hI.bet.holds
    rw [List.length_range, List.take_of_length_le hq] at hJX
    have HX := Aside0.mk ((HJ.out.mono (by omega) : St W1.heap.size J).put (.deferred none) hJX hD hOD)
    clear hJX hl hq hI
    gi_wp2
    refine ⟨by simp, .inl ⟨_, _, rfl, run_takeDeferred hK, ?_⟩⟩
    exact ⟨_, results_none rfl _ _ _, ⟨_, rfl⟩, .inl ⟨_, HX.out⟩⟩
  case stop =>
    rintro D cd pre rest O X hD hOD hx ⟨rfl, h⟩ hK
    have HX : Aside0 (J (numsB k l0) O (X.putObj D (.deferred none)) ∨ ∃ pre rest, numsB k l0 = pre ++ rest ∧ Jx pre O (X.putObj D (.deferred none))) := ⟨h.elim (fun h => .inl ((HJ.out.mono (by omega) : St W1.heap.size J).put _ h hD hOD)) (fun ⟨p, r, e, h⟩ => .inr ⟨p, r, e, (HJx.out.mono (by omega) : St W1.heap.size Jx).put _ h hD hOD⟩)⟩
    clear h
    gi_wp2
    refine ⟨by simp, .inl ⟨_, _, rfl, run_takeDeferred hK, ?_⟩⟩
    exact ⟨_, results_none rfl _ _ _, ⟨_, rfl⟩, HX.out.elim (fun h => .inl ⟨_, h⟩) (fun ⟨p, r, e, h⟩ => .inr ⟨p, r, _, e, h⟩)⟩
end Go.Proofs.YtpgfhbdnlojdfaaGreatDoor.P
