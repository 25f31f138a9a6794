/- A part of the proof of: VectorsCodedAgree: for every vector and row the law's call returns true, and what came in reads as before; no condition. -/
import Derived.Test.YtphnmaobpefoiaaVcaz4
set_option linter.unusedVariables false
set_option linter.unusedSimpArgs false
section
namespace Go.Proofs.Ytphnmaobpefoiaa.XA
open Go.RowKit Go.Proofs.YtphnmaobpefoiaaXW Go.Proofs.YtphnmaobpefoiaaW.PrintWords Go.Proofs.YtphnmaobpefoiaaW.PrintLast Go.Proofs.YtphnmaobpefoiaaW.PrintMore
attribute [local go_sem] max2_int min2_int max_two min_two max_three min_three max_four min_four sleq
set_option linter.unusedVariables false
set_option linter.unusedSimpArgs false
def vector_Plain.f (k : Nat) (a0_0 : Int) (l0_1 : List Bool) (l0_2 : List Int) (l0_3 : List ByteArray) (l0_4 : List ByteArray) (l0_5 : List Int) : Option (Int × List Bool × List Int × List ByteArray × List ByteArray × List Int × Int) := (vector_long.f a0_0 l0_1 l0_2 l0_3 l0_4 l0_5).bind fun t536 => ((vector_CheckVector.f k a0_0 l0_1 l0_2 l0_3 l0_4 l0_5 t536).bind fun t537 => (if t537 = 0 then ((vector_all.f k a0_0 l0_1 l0_2 l0_3 l0_4 l0_5).bind fun t538 => ((vector_of.f k a0_0 t538).bind fun bt541 => (some (bt541.1, bt541.2.1, bt541.2.2.1, bt541.2.2.2.1, bt541.2.2.2.2.1, bt541.2.2.2.2.2, 0)))) else (some (0, ([] : List Bool), ([] : List Int), ([] : List ByteArray), ([] : List ByteArray), ([] : List Int), t537))))
theorem vector_Plain.mono : ∀ a0 a1 a2 a3 a4 a5 k, LeO (vector_Plain.f k a0 a1 a2 a3 a4 a5) (vector_Plain.f (k + 1) a0 a1 a2 a3 a4 a5) := by
  intro a0 a1 a2 a3 a4 a5 k
  unfold vector_Plain.f
  repeat' first
      | (with_reducible exact vector_CheckVector.mono _ _ _ _ _ _ _ _)
      | (with_reducible exact vector_all.mono _ _ _ _ _ _ _)
      | (with_reducible exact vector_of.mono _ _ _)
      | (with_reducible exact LeO.refl _)
      | (with_reducible exact LeO.none _)
      | (with_reducible refine LeO.ite ?_ ?_)
      | (with_reducible refine LeO.bind ?_ (fun _ => ?_))
      | exact vector_CheckVector.mono _ _ _ _ _ _ _ _
      | exact vector_all.mono _ _ _ _ _ _ _
      | exact vector_of.mono _ _ _
      | exact LeO.none _
      | refine LeO.ite ?_ ?_
      | refine LeO.bind ?_ (fun _ => ?_)
set_option maxHeartbeats 8000000 in
set_option maxRecDepth 100000 in
theorem vector_Plain.calls (k : Nat) (a0_0 : Int) (A0_1 : Option Addr) (c0_1 : Nat) (l0_1 : List Bool) (A0_2 : Option Addr) (c0_2 : Nat) (l0_2 : List Int) (A0_3 : Option Addr) (c0_3 : Nat) (l0_3 : List ByteArray) (A0_4 : Option Addr) (c0_4 : Nat) (l0_4 : List ByteArray) (A0_5 : Option Addr) (c0_5 : Nat) (l0_5 : List Int) (r1 : Int) (r2 : List Bool) (r3 : List Int) (r4 : List ByteArray) (r5 : List ByteArray) (r6 : List Int) (r7 : Int) (w : World) (hr0_1 : Kd.C Kd.bool w A0_1 l0_1.length l0_1) (hc0_1 : l0_1.length ≤ c0_1) (hr0_2 : Kd.C (Kd.int .i64) w A0_2 l0_2.length l0_2) (hc0_2 : l0_2.length ≤ c0_2) (hr0_3 : Kd.C Kd.string w A0_3 l0_3.length l0_3) (hc0_3 : l0_3.length ≤ c0_3) (hr0_4 : Kd.C Kd.string w A0_4 l0_4.length l0_4) (hc0_4 : l0_4.length ≤ c0_4) (hr0_5 : Kd.C (Kd.int .i64) w A0_5 l0_5.length l0_5) (hc0_5 : l0_5.length ≤ c0_5) (h : vector_Plain.f k a0_0 l0_1 l0_2 l0_3 l0_4 l0_5 = some (r1, r2, r3, r4, r5, r6, r7)) :
    Calls Try.prog 10 #[.agg #[.int .i64 a0_0, .slice A0_1 l0_1.length c0_1, .slice A0_2 l0_2.length c0_2, .slice A0_3 l0_3.length c0_3, .slice A0_4 l0_4.length c0_4, .slice A0_5 l0_5.length c0_5]] w fun e w' => ∃ v1_ v2_ v3_ v4_ v5_ : Value, e = .returned (.tuple #[.agg #[.int .i64 r1, v1_, v2_, v3_, v4_, v5_], .int .i64 r7]) ∧ Kd.R Kd.bool 4 w' w.heap.size (fun _ => True) v1_ r2 ∧ Kd.R (Kd.int .i64) 3 w' w.heap.size (fun k_ => some k_ ≠ (v5_ : Value).ownBlock) v2_ r3 ∧ Kd.R Kd.string 9 w' w.heap.size (fun k_ => some k_ ≠ (v4_ : Value).ownBlock) v3_ r4 ∧ Kd.R Kd.string 9 w' w.heap.size (fun k_ => some k_ ≠ (v3_ : Value).ownBlock) v4_ r5 ∧ Kd.R (Kd.int .i64) 3 w' w.heap.size (fun k_ => some k_ ≠ (v2_ : Value).ownBlock) v5_ r6 ∧ Below w.heap.size w w' := by
  have hu39 := Try.underlying39
  have HR0_1 := Aside0.mk hr0_1
  have HC0_1 := Aside0.mk hc0_1
  clear hr0_1 hc0_1
  have HR0_2 := Aside0.mk hr0_2
  have HC0_2 := Aside0.mk hc0_2
  clear hr0_2 hc0_2
  have HR0_3 := Aside0.mk hr0_3
  have HC0_3 := Aside0.mk hc0_3
  clear hr0_3 hc0_3
  have HR0_4 := Aside0.mk hr0_4
  have HC0_4 := Aside0.mk hc0_4
  clear hr0_4 hc0_4
  have HR0_5 := Aside0.mk hr0_5
  have HC0_5 := Aside0.mk hc0_5
  clear hr0_5 hc0_5
  have HB := Aside0.mk (Below.refl w.heap.size w)
  have H : ((vector_long.f a0_0 l0_1 l0_2 l0_3 l0_4 l0_5).bind fun t536 => ((vector_CheckVector.f k a0_0 l0_1 l0_2 l0_3 l0_4 l0_5 t536).bind fun t537 => (if t537 = 0 then ((vector_all.f k a0_0 l0_1 l0_2 l0_3 l0_4 l0_5).bind fun t538 => ((vector_of.f k a0_0 t538).bind fun bt541 => (some (bt541.1, bt541.2.1, bt541.2.2.1, bt541.2.2.2.1, bt541.2.2.2.2.1, bt541.2.2.2.2.2, 0)))) else (some (0, ([] : List Bool), ([] : List Int), ([] : List ByteArray), ([] : List ByteArray), ([] : List Int), t537))))) = some (r1, r2, r3, r4, r5, r6, r7) := h
  clear h
  replace H := Option.bind_eq_some_iff.mp H
  obtain ⟨t536, A20, H⟩ := H
  replace H : ((vector_CheckVector.f k a0_0 l0_1 l0_2 l0_3 l0_4 l0_5 t536).bind fun t537 => (if t537 = 0 then ((vector_all.f k a0_0 l0_1 l0_2 l0_3 l0_4 l0_5).bind fun t538 => ((vector_of.f k a0_0 t538).bind fun bt541 => (some (bt541.1, bt541.2.1, bt541.2.2.1, bt541.2.2.2.1, bt541.2.2.2.2.1, bt541.2.2.2.2.2, 0)))) else (some (0, ([] : List Bool), ([] : List Int), ([] : List ByteArray), ([] : List ByteArray), ([] : List Int), t537)))) = some (r1, r2, r3, r4, r5, r6, r7) := H
  have A2 := Aside0.mk A20
  clear A20
  replace H := Option.bind_eq_some_iff.mp H
  obtain ⟨t537, A30, H⟩ := H
  replace H : (if t537 = 0 then ((vector_all.f k a0_0 l0_1 l0_2 l0_3 l0_4 l0_5).bind fun t538 => ((vector_of.f k a0_0 t538).bind fun bt541 => (some (bt541.1, bt541.2.1, bt541.2.2.1, bt541.2.2.2.1, bt541.2.2.2.2.1, bt541.2.2.2.2.2, 0)))) else (some (0, ([] : List Bool), ([] : List Int), ([] : List ByteArray), ([] : List ByteArray), ([] : List Int), t537))) = some (r1, r2, r3, r4, r5, r6, r7) := H
  have A3 := Aside0.mk A30
  clear A30
  by_cases c4 : t537 = 0
  · rw [if_pos c4] at H
    have c4b0 : (t537 == 0) = true := beq_iff_eq.mpr c4
    have c4b1 : (t537 != 0) = false := bne_eq_false_iff_eq.mpr c4
    clear c4
    replace H := Option.bind_eq_some_iff.mp H
    obtain ⟨t538, A50, H⟩ := H
    replace H : ((vector_of.f k a0_0 t538).bind fun bt541 => (some (bt541.1, bt541.2.1, bt541.2.2.1, bt541.2.2.2.1, bt541.2.2.2.2.1, bt541.2.2.2.2.2, 0))) = some (r1, r2, r3, r4, r5, r6, r7) := H
    have A5 := Aside0.mk A50
    clear A50
    replace H := Option.bind_eq_some_iff.mp H
    obtain ⟨⟨t541, t542, t545, t548, t551, t554⟩, A60, H⟩ := H
    replace H : (some (t541, t542, t545, t548, t551, t554, 0)) = some (r1, r2, r3, r4, r5, r6, r7) := H
    have A6 := Aside0.mk A60
    clear A60
    simp only [Option.some.injEq, Prod.mk.injEq] at H
    obtain ⟨rfl, rfl, rfl, rfl, rfl, rfl, rfl⟩ := H
    go_enter Try.func10, Try.ntmps10
    try go_wp2_with (first | ((with_reducible refine gate_dst (N := 1) rfl ?_); refine box_event ?hg (N := 1) ?hd (cs := #[.int .i64 a0_0, .slice A0_1 l0_1.length c0_1, .slice A0_2 l0_2.length c0_2, .slice A0_3 l0_3.length c0_3, .slice A0_4 l0_4.length c0_4, .slice A0_5 l0_5.length c0_5]) (t := 39) ?hr ?_; (case hd => rfl); (case hg => rfl); (case hr => first | (go_simp; done) | (go_simp; rfl)); intro gb534 hg w7 hbox hb; have n0_ := Aside0.mk (below_step (below_u HB.out) hb); have n1_ := Aside0.mk (hbox); have n2_ := Aside0.mk ((by rw [hg]; exact (below_size (below_u HB.out)) : w.heap.size ≤ gb534)); have n3_ := Aside0.mk ((by rw [hg]; exact (below_size (below_u HB.out)) : w.heap.size ≤ gb534)); clear HB; have HB := n0_; have BK534 := n1_; have GW534 := n2_; have GE534 := n3_; clear n0_ n1_ n2_ n3_; clear hb hbox hg) | ((with_reducible refine gate_dst (N := 2) rfl ?_); refine box_event ?hg (N := 2) ?hd (cs := #[.int .i64 0, .slice none 0 0, .slice none 0 0, .slice none 0 0, .slice none 0 0, .slice none 0 0]) (t := 39) ?hr ?_; (case hd => rfl); (case hg => rfl); (case hr => first | (go_simp; done) | (go_simp; rfl)); intro gb535 hg w8 hbox hb; have n0_ := Aside0.mk (blk_below (g := gb534) (o := .cells #[.int .i64 a0_0, .slice A0_1 l0_1.length c0_1, .slice A0_2 l0_2.length c0_2, .slice A0_3 l0_3.length c0_3, .slice A0_4 l0_4.length c0_4, .slice A0_5 l0_5.length c0_5] 39 (0, 0)) (blk_u BK534.out) hb); have n1_ := Aside0.mk (below_step (by repeat (first | (with_reducible first | exact HB.out | apply below_alloc | apply pw_below_drewN | apply below_drew1 | refine below_set ?_ GE534.out) | exact HB.out)) hb); have n2_ := Aside0.mk (hbox); have n3_ := Aside0.mk ((by rw [hg]; exact (below_size (by repeat (first | (with_reducible first | exact HB.out | apply below_alloc | apply pw_below_drewN | apply below_drew1 | refine below_set ?_ GE534.out) | exact HB.out))) : w.heap.size ≤ gb535)); have n4_ := Aside0.mk ((by rw [hg]; exact (below_size (by repeat (first | (with_reducible first | exact HB.out | apply below_alloc | apply pw_below_drewN | apply below_drew1 | refine below_set ?_ GE534.out) | exact HB.out))) : w.heap.size ≤ gb535)); have n5_ := Aside0.mk ((by rw [hg]; exact Nat.ne_of_lt (blk_lt (g := gb534) (o := .cells #[.int .i64 a0_0, .slice A0_1 l0_1.length c0_1, .slice A0_2 l0_2.length c0_2, .slice A0_3 l0_3.length c0_3, .slice A0_4 l0_4.length c0_4, .slice A0_5 l0_5.length c0_5] 39 (0, 0)) (blk_u BK534.out)) : gb534 ≠ gb535)); have n6_ := Aside0.mk ((by rw [hg]; exact Nat.ne_of_gt (blk_lt (g := gb534) (o := .cells #[.int .i64 a0_0, .slice A0_1 l0_1.length c0_1, .slice A0_2 l0_2.length c0_2, .slice A0_3 l0_3.length c0_3, .slice A0_4 l0_4.length c0_4, .slice A0_5 l0_5.length c0_5] 39 (0, 0)) (blk_u BK534.out)) : gb535 ≠ gb534)); clear BK534; clear HB; have BK534 := n0_; have HB := n1_; have BK535 := n2_; have GW535 := n3_; have GE535 := n4_; have NB534_535 := n5_; have NB535_534 := n6_; clear n0_ n1_ n2_ n3_ n4_ n5_ n6_; clear hb hbox hg))
    have n0_ := Aside0.mk (blk_drew BK534.out)
    have n1_ := Aside0.mk (blk_drew BK535.out)
    have n2_ := Aside0.mk (below_drew1 HB.out)
    clear BK534
    clear BK535
    clear HB
    have BK534 := n0_
    have BK535 := n1_
    have HB := n2_
    clear n0_ n1_ n2_
    refine start_ (n := 5) (S := fun w' => w'.cell? ⟨gb534, 0, none⟩ = some (.int .i64 a0_0) ∧ w'.cell? ⟨gb534, 1, none⟩ = some (.slice A0_1 l0_1.length c0_1) ∧ w'.cell? ⟨gb534, 2, none⟩ = some (.slice A0_2 l0_2.length c0_2) ∧ w'.cell? ⟨gb534, 3, none⟩ = some (.slice A0_3 l0_3.length c0_3) ∧ w'.cell? ⟨gb534, 4, none⟩ = some (.slice A0_4 l0_4.length c0_4) ∧ w'.cell? ⟨gb534, 5, none⟩ = some (.slice A0_5 l0_5.length c0_5)) (ds := []) #[false, false, false, false, false] (by kernel_rfl) rfl rfl ⟨(blk_cell BK534.out 0).trans rfl, (blk_cell BK534.out 1).trans rfl, (blk_cell BK534.out 2).trans rfl, (blk_cell BK534.out 3).trans rfl, (blk_cell BK534.out 4).trans rfl, (blk_cell BK534.out 5).trans rfl⟩ (fun hHeld => ?_)
    generalize w8.drew = w9 at BK534 BK535 HB hHeld ⊢
    refine take_ (i := 0) (N := some 5) (v := ?_) (a' := ?_) #[true, false, false, false, false] rfl rfl (by kernel_rfl) (fun _ _ _ h => h) (Or.inl ⟨by rfl, ?_⟩) hHeld ?_ ?_
    rotate_left
    · rintro w' ⟨s0, s1, s2, s3, s4, s5⟩
      go_simp
      with_reducible rfl
    rotate_left
    · simp only [Act.put, List.setIfInBounds_toArray, List.set_cons_zero, List.set_cons_succ, i64_w, i32_w]
      rfl
    refine take_ (i := 1) (N := some 6) (v := ?_) (a' := ?_) #[true, true, false, false, false] rfl rfl (by kernel_rfl) (fun _ _ _ h => h) (Or.inl ⟨by rfl, ?_⟩) hHeld ?_ ?_
    rotate_left
    · rintro w' ⟨s0, s1, s2, s3, s4, s5⟩
      go_simp
      with_reducible rfl
    rotate_left
    · simp only [Act.put, List.setIfInBounds_toArray, List.set_cons_zero, List.set_cons_succ, i64_w, i32_w]
      rfl
    refine one_ (i := 2) (N := some 7) #[true, true, true, false, false] rfl rfl (by kernel_rfl) (by decide) (fun K hK => ?_)
    refine goes_ Try.func24 (by kernel_rfl) rfl #[.agg #[.int .i64 a0_0, .slice A0_1 l0_1.length c0_1, .slice A0_2 l0_2.length c0_2, .slice A0_3 l0_3.length c0_3, .slice A0_4 l0_4.length c0_4, .slice A0_5 l0_5.length c0_5]] (by rfl) rfl rfl (by (try simp only [List.map_toArray, List.map_cons, List.map_nil]); first | done | rfl | (simp only [List.length_drop, List.length_take]; rfl)) ?_
    with_reducible refine (vector_long.calls a0_0 _ _ l0_1 _ _ l0_2 _ _ l0_3 _ _ l0_4 _ _ l0_5 t536 _ ?side1 ?side2 ?side3 ?side4 ?side5 ?side6 ?side7 ?side8 ?side9 ?side10 A2.out).mono ?_
    (case side1 => repeat (first | exact (Kd.C_below HR0_1.out HB.out) | (with_reducible refine Kd.C_alloc ?_ _) | (with_reducible refine Kd.C_drewN ?_ _) | (with_reducible refine Kd.C_drew ?_)))
    (case side2 => exact HC0_1.out)
    (case side3 => repeat (first | exact (Kd.C_below HR0_2.out HB.out) | (with_reducible refine Kd.C_alloc ?_ _) | (with_reducible refine Kd.C_drewN ?_ _) | (with_reducible refine Kd.C_drew ?_)))
    (case side4 => exact HC0_2.out)
    (case side5 => repeat (first | exact (Kd.C_below HR0_3.out HB.out) | (with_reducible refine Kd.C_alloc ?_ _) | (with_reducible refine Kd.C_drewN ?_ _) | (with_reducible refine Kd.C_drew ?_)))
    (case side6 => exact HC0_3.out)
    (case side7 => repeat (first | exact (Kd.C_below HR0_4.out HB.out) | (with_reducible refine Kd.C_alloc ?_ _) | (with_reducible refine Kd.C_drewN ?_ _) | (with_reducible refine Kd.C_drew ?_)))
    (case side8 => exact HC0_4.out)
    (case side9 => repeat (first | exact (Kd.C_below HR0_5.out HB.out) | (with_reducible refine Kd.C_alloc ?_ _) | (with_reducible refine Kd.C_drewN ?_ _) | (with_reducible refine Kd.C_drew ?_)))
    (case side10 => exact HC0_5.out)
    rintro e w10 ⟨rfl, hb⟩
    refine ⟨_, rfl, ?_⟩
    have n0_ := Aside0.mk (blk_below (g := gb534) (o := .cells #[.int .i64 a0_0, .slice A0_1 l0_1.length c0_1, .slice A0_2 l0_2.length c0_2, .slice A0_3 l0_3.length c0_3, .slice A0_4 l0_4.length c0_4, .slice A0_5 l0_5.length c0_5] 39 (0, 0)) (blk_u BK534.out) hb)
    have n1_ := Aside0.mk (blk_below (g := gb535) (o := .cells #[.int .i64 0, .slice none 0 0, .slice none 0 0, .slice none 0 0, .slice none 0 0, .slice none 0 0] 39 (0, 0)) (blk_u BK535.out) hb)
    have n2_ := Aside0.mk (below_step (by repeat (first | (with_reducible first | exact HB.out | apply below_alloc | apply pw_below_drewN | apply below_drew1 | refine below_set ?_ GE534.out | refine below_set ?_ GE535.out) | exact HB.out)) hb)
    clear BK534
    clear BK535
    clear HB
    have BK534 := n0_
    have BK535 := n1_
    have HB := n2_
    clear n0_ n1_ n2_
    (try clear hb)
    (try clear hb2)
    (try clear hk)
    (try clear hi)
    refine hK.out _ _ ⟨(blk_cell BK534.out 0).trans rfl, (blk_cell BK534.out 1).trans rfl, (blk_cell BK534.out 2).trans rfl, (blk_cell BK534.out 3).trans rfl, (blk_cell BK534.out 4).trans rfl, (blk_cell BK534.out 5).trans rfl⟩ (fun hHeld => ?_)
    clear hK K
    refine norm_ (a' := ?_) ?_ ?_
    rotate_left
    · show Act.put _ (some 7) _ = _
      simp only [Act.put, List.setIfInBounds_toArray, List.set_cons_zero, List.set_cons_succ, i64_w, i32_w]
      rfl
    refine one_ (i := 3) (N := some 8) #[true, true, true, true, false] rfl rfl (by kernel_rfl) (by decide) (fun K hK => ?_)
    refine goes_ Try.func23 (by kernel_rfl) rfl #[.agg #[.int .i64 a0_0, .slice A0_1 l0_1.length c0_1, .slice A0_2 l0_2.length c0_2, .slice A0_3 l0_3.length c0_3, .slice A0_4 l0_4.length c0_4, .slice A0_5 l0_5.length c0_5], .int .i64 t536] (by rfl) rfl rfl (by (try simp only [List.map_toArray, List.map_cons, List.map_nil]); first | done | rfl | (simp only [List.length_drop, List.length_take]; rfl)) ?_
    with_reducible refine (vector_CheckVector.calls k a0_0 _ _ l0_1 _ _ l0_2 _ _ l0_3 _ _ l0_4 _ _ l0_5 t536 t537 _ ?side1 ?side2 ?side3 ?side4 ?side5 ?side6 ?side7 ?side8 ?side9 ?side10 A3.out).mono ?_
    (case side1 => repeat (first | exact (Kd.C_below HR0_1.out HB.out) | (with_reducible refine Kd.C_alloc ?_ _) | (with_reducible refine Kd.C_drewN ?_ _) | (with_reducible refine Kd.C_drew ?_)))
    (case side2 => exact HC0_1.out)
    (case side3 => repeat (first | exact (Kd.C_below HR0_2.out HB.out) | (with_reducible refine Kd.C_alloc ?_ _) | (with_reducible refine Kd.C_drewN ?_ _) | (with_reducible refine Kd.C_drew ?_)))
    (case side4 => exact HC0_2.out)
    (case side5 => repeat (first | exact (Kd.C_below HR0_3.out HB.out) | (with_reducible refine Kd.C_alloc ?_ _) | (with_reducible refine Kd.C_drewN ?_ _) | (with_reducible refine Kd.C_drew ?_)))
    (case side6 => exact HC0_3.out)
    (case side7 => repeat (first | exact (Kd.C_below HR0_4.out HB.out) | (with_reducible refine Kd.C_alloc ?_ _) | (with_reducible refine Kd.C_drewN ?_ _) | (with_reducible refine Kd.C_drew ?_)))
    (case side8 => exact HC0_4.out)
    (case side9 => repeat (first | exact (Kd.C_below HR0_5.out HB.out) | (with_reducible refine Kd.C_alloc ?_ _) | (with_reducible refine Kd.C_drewN ?_ _) | (with_reducible refine Kd.C_drew ?_)))
    (case side10 => exact HC0_5.out)
    rintro e w11 ⟨rfl, hb⟩
    refine ⟨_, rfl, ?_⟩
    have n0_ := Aside0.mk (blk_below (g := gb534) (o := .cells #[.int .i64 a0_0, .slice A0_1 l0_1.length c0_1, .slice A0_2 l0_2.length c0_2, .slice A0_3 l0_3.length c0_3, .slice A0_4 l0_4.length c0_4, .slice A0_5 l0_5.length c0_5] 39 (0, 0)) (blk_u BK534.out) hb)
    have n1_ := Aside0.mk (blk_below (g := gb535) (o := .cells #[.int .i64 0, .slice none 0 0, .slice none 0 0, .slice none 0 0, .slice none 0 0, .slice none 0 0] 39 (0, 0)) (blk_u BK535.out) hb)
    have n2_ := Aside0.mk (below_step (by repeat (first | (with_reducible first | exact HB.out | apply below_alloc | apply pw_below_drewN | apply below_drew1 | refine below_set ?_ GE534.out | refine below_set ?_ GE535.out) | exact HB.out)) hb)
    clear BK534
    clear BK535
    clear HB
    have BK534 := n0_
    have BK535 := n1_
    have HB := n2_
    clear n0_ n1_ n2_
    (try clear hb)
    (try clear hb2)
    (try clear hk)
    (try clear hi)
    refine hK.out _ _ ⟨(blk_cell BK534.out 0).trans rfl, (blk_cell BK534.out 1).trans rfl, (blk_cell BK534.out 2).trans rfl, (blk_cell BK534.out 3).trans rfl, (blk_cell BK534.out 4).trans rfl, (blk_cell BK534.out 5).trans rfl⟩ (fun hHeld => ?_)
    clear hK K
    refine norm_ (a' := ?_) ?_ ?_
    rotate_left
    · show Act.put _ (some 8) _ = _
      simp only [Act.put, List.setIfInBounds_toArray, List.set_cons_zero, List.set_cons_succ, i64_w, i32_w]
      rfl
    refine pure_ (i := 4) (N := some 4) (v := ?_) (a' := ?_) #[true, true, true, true, true] rfl rfl (by kernel_rfl) (fun _ _ _ h => h) (Or.inl ⟨by rfl, ?_⟩) ?_ ?_
    rotate_left
    · intro w'
      go_simp
      with_reducible rfl
    rotate_left
    · simp only [Act.put, List.setIfInBounds_toArray, List.set_cons_zero, List.set_cons_succ, i64_w, i32_w]
      rfl
    refine done_ (by kernel_rfl) ?_
    try go_wp2
    have n0_ := Aside0.mk (blk_drew BK534.out)
    have n1_ := Aside0.mk (blk_drew BK535.out)
    have n2_ := Aside0.mk (below_drew1 HB.out)
    clear BK534
    clear BK535
    clear HB
    have BK534 := n0_
    have BK535 := n1_
    have HB := n2_
    clear n0_ n1_ n2_
    refine start_ (n := 7) (S := fun w' => w'.cell? ⟨gb534, 0, none⟩ = some (.int .i64 a0_0) ∧ w'.cell? ⟨gb534, 1, none⟩ = some (.slice A0_1 l0_1.length c0_1) ∧ w'.cell? ⟨gb534, 2, none⟩ = some (.slice A0_2 l0_2.length c0_2) ∧ w'.cell? ⟨gb534, 3, none⟩ = some (.slice A0_3 l0_3.length c0_3) ∧ w'.cell? ⟨gb534, 4, none⟩ = some (.slice A0_4 l0_4.length c0_4) ∧ w'.cell? ⟨gb534, 5, none⟩ = some (.slice A0_5 l0_5.length c0_5)) (ds := []) #[false, false, false, false, false, false, false] (by kernel_rfl) rfl rfl ⟨(blk_cell BK534.out 0).trans rfl, (blk_cell BK534.out 1).trans rfl, (blk_cell BK534.out 2).trans rfl, (blk_cell BK534.out 3).trans rfl, (blk_cell BK534.out 4).trans rfl, (blk_cell BK534.out 5).trans rfl⟩ (fun hHeld => ?_)
    generalize w11.drew = w12 at BK534 BK535 HB hHeld ⊢
    refine pure_ (i := 0) (N := some 13) (v := ?_) (a' := ?_) #[true, false, false, false, false, false, false] rfl rfl (by kernel_rfl) (fun _ _ _ h => h) (Or.inl ⟨by rfl, ?_⟩) ?_ ?_
    rotate_left
    · intro w'
      go_simp
      with_reducible rfl
    rotate_left
    · simp only [Act.put, List.setIfInBounds_toArray, List.set_cons_zero, List.set_cons_succ, i64_w, i32_w]
      rfl
    refine take_ (i := 1) (N := some 14) (v := ?_) (a' := ?_) #[true, true, false, false, false, false, false] rfl rfl (by kernel_rfl) (fun _ _ _ h => h) (Or.inl ⟨by rfl, ?_⟩) hHeld ?_ ?_
    rotate_left
    · rintro w' ⟨s0, s1, s2, s3, s4, s5⟩
      go_simp
      with_reducible rfl
    rotate_left
    · simp only [Act.put, List.setIfInBounds_toArray, List.set_cons_zero, List.set_cons_succ, i64_w, i32_w]
      rfl
    refine take_ (i := 2) (N := some 15) (v := ?_) (a' := ?_) #[true, true, true, false, false, false, false] rfl rfl (by kernel_rfl) (fun _ _ _ h => h) (Or.inl ⟨by rfl, ?_⟩) hHeld ?_ ?_
    rotate_left
    · rintro w' ⟨s0, s1, s2, s3, s4, s5⟩
      go_simp
      with_reducible rfl
    rotate_left
    · simp only [Act.put, List.setIfInBounds_toArray, List.set_cons_zero, List.set_cons_succ, i64_w, i32_w]
      rfl
    refine one_ (i := 3) (N := some 16) #[true, true, true, true, false, false, false] rfl rfl (by kernel_rfl) (by decide) (fun K hK => ?_)
    refine goes_ Try.func30 (by kernel_rfl) rfl #[.agg #[.int .i64 a0_0, .slice A0_1 l0_1.length c0_1, .slice A0_2 l0_2.length c0_2, .slice A0_3 l0_3.length c0_3, .slice A0_4 l0_4.length c0_4, .slice A0_5 l0_5.length c0_5]] (by rfl) rfl rfl (by (try simp only [List.map_toArray, List.map_cons, List.map_nil]); first | done | rfl | (simp only [List.length_drop, List.length_take]; rfl)) ?_
    with_reducible refine (vector_all.calls k a0_0 _ _ l0_1 _ _ l0_2 _ _ l0_3 _ _ l0_4 _ _ l0_5 t538 _ ?side1 ?side2 ?side3 ?side4 ?side5 ?side6 ?side7 ?side8 ?side9 ?side10 A5.out).mono ?_
    (case side1 => repeat (first | exact (Kd.C_below HR0_1.out HB.out) | (with_reducible refine Kd.C_alloc ?_ _) | (with_reducible refine Kd.C_drewN ?_ _) | (with_reducible refine Kd.C_drew ?_)))
    (case side2 => exact HC0_1.out)
    (case side3 => repeat (first | exact (Kd.C_below HR0_2.out HB.out) | (with_reducible refine Kd.C_alloc ?_ _) | (with_reducible refine Kd.C_drewN ?_ _) | (with_reducible refine Kd.C_drew ?_)))
    (case side4 => exact HC0_2.out)
    (case side5 => repeat (first | exact (Kd.C_below HR0_3.out HB.out) | (with_reducible refine Kd.C_alloc ?_ _) | (with_reducible refine Kd.C_drewN ?_ _) | (with_reducible refine Kd.C_drew ?_)))
    (case side6 => exact HC0_3.out)
    (case side7 => repeat (first | exact (Kd.C_below HR0_4.out HB.out) | (with_reducible refine Kd.C_alloc ?_ _) | (with_reducible refine Kd.C_drewN ?_ _) | (with_reducible refine Kd.C_drew ?_)))
    (case side8 => exact HC0_4.out)
    (case side9 => repeat (first | exact (Kd.C_below HR0_5.out HB.out) | (with_reducible refine Kd.C_alloc ?_ _) | (with_reducible refine Kd.C_drewN ?_ _) | (with_reducible refine Kd.C_drew ?_)))
    (case side10 => exact HC0_5.out)
    rintro e w13 ⟨v539, rfl, ho0, hb⟩
    refine ⟨_, rfl, ?_⟩
    have n0_ := Aside0.mk (Kd.R_lower ho0 (below_size (by repeat (first | (with_reducible first | exact HB.out | apply below_alloc | apply pw_below_drewN | apply below_drew1 | refine below_set ?_ GE534.out | refine below_set ?_ GE535.out) | exact HB.out))))
    have n1_ := Aside0.mk (blk_below (g := gb534) (o := .cells #[.int .i64 a0_0, .slice A0_1 l0_1.length c0_1, .slice A0_2 l0_2.length c0_2, .slice A0_3 l0_3.length c0_3, .slice A0_4 l0_4.length c0_4, .slice A0_5 l0_5.length c0_5] 39 (0, 0)) (blk_u BK534.out) hb)
    have n2_ := Aside0.mk (blk_below (g := gb535) (o := .cells #[.int .i64 0, .slice none 0 0, .slice none 0 0, .slice none 0 0, .slice none 0 0, .slice none 0 0] 39 (0, 0)) (blk_u BK535.out) hb)
    have n3_ := Aside0.mk (below_step (by repeat (first | (with_reducible first | exact HB.out | apply below_alloc | apply pw_below_drewN | apply below_drew1 | refine below_set ?_ GE534.out | refine below_set ?_ GE535.out) | exact HB.out)) hb)
    clear BK534
    clear BK535
    clear HB
    have HO540 := n0_
    have BK534 := n1_
    have BK535 := n2_
    have HB := n3_
    clear n0_ n1_ n2_ n3_
    (try clear hb)
    (try clear hb2)
    (try clear hk)
    (try clear hi)
    (try clear ho0)
    obtain ⟨Ao14, co14, eo14⟩ := Kd.R_slice HO540.out
    (first | subst eo14 | (injection eo14 with f1_ f2_ f3_; have f4_ := f1_.symm; have f5_ := f3_.symm; clear f1_ f2_ f3_; subst f4_; subst f5_))
    refine hK.out _ _ ⟨(blk_cell BK534.out 0).trans rfl, (blk_cell BK534.out 1).trans rfl, (blk_cell BK534.out 2).trans rfl, (blk_cell BK534.out 3).trans rfl, (blk_cell BK534.out 4).trans rfl, (blk_cell BK534.out 5).trans rfl⟩ (fun hHeld => ?_)
    clear hK K
    refine norm_ (a' := ?_) ?_ ?_
    rotate_left
    · show Act.put _ (some 16) _ = _
      simp only [Act.put, List.setIfInBounds_toArray, List.set_cons_zero, List.set_cons_succ, i64_w, i32_w]
      rfl
    refine one_ (i := 4) (N := some 17) #[true, true, true, true, true, false, false] rfl rfl (by kernel_rfl) (by decide) (fun K hK => ?_)
    refine goes_ Try.func29 (by kernel_rfl) rfl #[.int .i64 a0_0, .slice Ao14 t538.length co14] (by rfl) rfl rfl (by (try simp only [List.map_toArray, List.map_cons, List.map_nil]); first | done | rfl | (simp only [List.length_drop, List.length_take]; rfl)) ?_
    with_reducible refine (vector_of.calls k a0_0 _ _ t538 t541 t542 t545 t548 t551 t554 _ ?side1 ?side2 A6.out).mono ?_
    (case side1 => repeat (first | exact (Kd.R_reads' HO540.out).2.2 | (with_reducible refine Kd.C_alloc ?_ _) | (with_reducible refine Kd.C_drewN ?_ _) | (with_reducible refine Kd.C_drew ?_)))
    (case side2 => exact (Kd.R_reads' HO540.out).2.1)
    rintro e w15 ⟨v543, v546, v549, v552, v555, rfl, ho0, ho1, ho2, ho3, ho4, hb⟩
    refine ⟨_, rfl, ?_⟩
    have n0_ := Aside0.mk (Kd.R_below (R_u HO540.out) hb)
    have n1_ := Aside0.mk (Kd.R_lower ho0 (below_size (by repeat (first | (with_reducible first | exact HB.out | apply below_alloc | apply pw_below_drewN | apply below_drew1 | refine below_set ?_ GE534.out | refine below_set ?_ GE535.out) | exact HB.out))))
    have n2_ := Aside0.mk (Kd.R_lower ho1 (below_size (by repeat (first | (with_reducible first | exact HB.out | apply below_alloc | apply pw_below_drewN | apply below_drew1 | refine below_set ?_ GE534.out | refine below_set ?_ GE535.out) | exact HB.out))))
    have n3_ := Aside0.mk (Kd.R_lower ho2 (below_size (by repeat (first | (with_reducible first | exact HB.out | apply below_alloc | apply pw_below_drewN | apply below_drew1 | refine below_set ?_ GE534.out | refine below_set ?_ GE535.out) | exact HB.out))))
    have n4_ := Aside0.mk (Kd.R_lower ho3 (below_size (by repeat (first | (with_reducible first | exact HB.out | apply below_alloc | apply pw_below_drewN | apply below_drew1 | refine below_set ?_ GE534.out | refine below_set ?_ GE535.out) | exact HB.out))))
    have n5_ := Aside0.mk (Kd.R_lower ho4 (below_size (by repeat (first | (with_reducible first | exact HB.out | apply below_alloc | apply pw_below_drewN | apply below_drew1 | refine below_set ?_ GE534.out | refine below_set ?_ GE535.out) | exact HB.out))))
    have n6_ := Aside0.mk (blk_below (g := gb534) (o := .cells #[.int .i64 a0_0, .slice A0_1 l0_1.length c0_1, .slice A0_2 l0_2.length c0_2, .slice A0_3 l0_3.length c0_3, .slice A0_4 l0_4.length c0_4, .slice A0_5 l0_5.length c0_5] 39 (0, 0)) (blk_u BK534.out) hb)
    have n7_ := Aside0.mk (blk_below (g := gb535) (o := .cells #[.int .i64 0, .slice none 0 0, .slice none 0 0, .slice none 0 0, .slice none 0 0, .slice none 0 0] 39 (0, 0)) (blk_u BK535.out) hb)
    have n8_ := Aside0.mk (below_step (by repeat (first | (with_reducible first | exact HB.out | apply below_alloc | apply pw_below_drewN | apply below_drew1 | refine below_set ?_ GE534.out | refine below_set ?_ GE535.out) | exact HB.out)) hb)
    clear HO540
    clear BK534
    clear BK535
    clear HB
    have HO540 := n0_
    have HO544 := n1_
    have HO547 := n2_
    have HO550 := n3_
    have HO553 := n4_
    have HO556 := n5_
    have BK534 := n6_
    have BK535 := n7_
    have HB := n8_
    clear n0_ n1_ n2_ n3_ n4_ n5_ n6_ n7_ n8_
    (try clear hb)
    (try clear hb2)
    (try clear hk)
    (try clear hi)
    (try clear ho0)
    (try clear ho1)
    (try clear ho2)
    (try clear ho3)
    (try clear ho4)
    obtain ⟨Ao17, co17, eo17⟩ := Kd.R_slice HO544.out
    (first | subst eo17 | (injection eo17 with f1_ f2_ f3_; have f4_ := f1_.symm; have f5_ := f3_.symm; clear f1_ f2_ f3_; subst f4_; subst f5_))
    obtain ⟨Ao19, co19, eo19⟩ := Kd.R_slice HO547.out
    (first | subst eo19 | (injection eo19 with f1_ f2_ f3_; have f4_ := f1_.symm; have f5_ := f3_.symm; clear f1_ f2_ f3_; subst f4_; subst f5_))
    obtain ⟨Ao21, co21, eo21⟩ := Kd.R_slice HO550.out
    (first | subst eo21 | (injection eo21 with f1_ f2_ f3_; have f4_ := f1_.symm; have f5_ := f3_.symm; clear f1_ f2_ f3_; subst f4_; subst f5_))
    obtain ⟨Ao23, co23, eo23⟩ := Kd.R_slice HO553.out
    (first | subst eo23 | (injection eo23 with f1_ f2_ f3_; have f4_ := f1_.symm; have f5_ := f3_.symm; clear f1_ f2_ f3_; subst f4_; subst f5_))
    obtain ⟨Ao25, co25, eo25⟩ := Kd.R_slice HO556.out
    (first | subst eo25 | (injection eo25 with f1_ f2_ f3_; have f4_ := f1_.symm; have f5_ := f3_.symm; clear f1_ f2_ f3_; subst f4_; subst f5_))
    refine hK.out _ _ ⟨(blk_cell BK534.out 0).trans rfl, (blk_cell BK534.out 1).trans rfl, (blk_cell BK534.out 2).trans rfl, (blk_cell BK534.out 3).trans rfl, (blk_cell BK534.out 4).trans rfl, (blk_cell BK534.out 5).trans rfl⟩ (fun hHeld => ?_)
    clear hK K
    refine norm_ (a' := ?_) ?_ ?_
    rotate_left
    · show Act.put _ (some 17) _ = _
      simp only [Act.put, List.setIfInBounds_toArray, List.set_cons_zero, List.set_cons_succ, i64_w, i32_w]
      rfl
    refine one_ (i := 5) (N := none) #[true, true, true, true, true, true, false] rfl rfl (by kernel_rfl) (by decide) (fun K hK => ?_)
    have hs16 : w15.cell? ⟨gb535, 0, none⟩ = some (.int .i64 0) := (blk_cell BK535.out 0).trans rfl
    have hfs16 := blk_frozen BK535.out 0
    have hns16_0 := NB534_535.out
    have hms16_0 := NB535_534.out
    have hs18 : w15.cell? ⟨gb535, 1, none⟩ = some (.slice none 0 0) := (blk_cell BK535.out 1).trans rfl
    have hfs18 := blk_frozen BK535.out 1
    have hns18_0 := NB534_535.out
    have hms18_0 := NB535_534.out
    have hs20 : w15.cell? ⟨gb535, 2, none⟩ = some (.slice none 0 0) := (blk_cell BK535.out 2).trans rfl
    have hfs20 := blk_frozen BK535.out 2
    have hns20_0 := NB534_535.out
    have hms20_0 := NB535_534.out
    have hs22 : w15.cell? ⟨gb535, 3, none⟩ = some (.slice none 0 0) := (blk_cell BK535.out 3).trans rfl
    have hfs22 := blk_frozen BK535.out 3
    have hns22_0 := NB534_535.out
    have hms22_0 := NB535_534.out
    have hs24 : w15.cell? ⟨gb535, 4, none⟩ = some (.slice none 0 0) := (blk_cell BK535.out 4).trans rfl
    have hfs24 := blk_frozen BK535.out 4
    have hns24_0 := NB534_535.out
    have hms24_0 := NB535_534.out
    have hs26 : w15.cell? ⟨gb535, 5, none⟩ = some (.slice none 0 0) := (blk_cell BK535.out 5).trans rfl
    have hfs26 := blk_frozen BK535.out 5
    have hns26_0 := NB534_535.out
    have hms26_0 := NB535_534.out
    refine skip_ (w1 := ?_) (by rfl) rfl ?_ ?_
    rotate_left
    · go_simp
      rfl
    refine hK.out _ _ ⟨((cell_far (p := ⟨gb535, _, none⟩) NB534_535.out _).trans (((cell_far (p := ⟨gb535, _, none⟩) NB534_535.out _).trans (((cell_far (p := ⟨gb535, _, none⟩) NB534_535.out _).trans (((cell_far (p := ⟨gb535, _, none⟩) NB534_535.out _).trans (((cell_far (p := ⟨gb535, _, none⟩) NB534_535.out _).trans (((cell_far (p := ⟨gb535, _, none⟩) NB534_535.out _).trans (hHeld.1)))))))))))), ((cell_far (p := ⟨gb535, _, none⟩) NB534_535.out _).trans (((cell_far (p := ⟨gb535, _, none⟩) NB534_535.out _).trans (((cell_far (p := ⟨gb535, _, none⟩) NB534_535.out _).trans (((cell_far (p := ⟨gb535, _, none⟩) NB534_535.out _).trans (((cell_far (p := ⟨gb535, _, none⟩) NB534_535.out _).trans (((cell_far (p := ⟨gb535, _, none⟩) NB534_535.out _).trans (hHeld.2.1)))))))))))), ((cell_far (p := ⟨gb535, _, none⟩) NB534_535.out _).trans (((cell_far (p := ⟨gb535, _, none⟩) NB534_535.out _).trans (((cell_far (p := ⟨gb535, _, none⟩) NB534_535.out _).trans (((cell_far (p := ⟨gb535, _, none⟩) NB534_535.out _).trans (((cell_far (p := ⟨gb535, _, none⟩) NB534_535.out _).trans (((cell_far (p := ⟨gb535, _, none⟩) NB534_535.out _).trans (hHeld.2.2.1)))))))))))), ((cell_far (p := ⟨gb535, _, none⟩) NB534_535.out _).trans (((cell_far (p := ⟨gb535, _, none⟩) NB534_535.out _).trans (((cell_far (p := ⟨gb535, _, none⟩) NB534_535.out _).trans (((cell_far (p := ⟨gb535, _, none⟩) NB534_535.out _).trans (((cell_far (p := ⟨gb535, _, none⟩) NB534_535.out _).trans (((cell_far (p := ⟨gb535, _, none⟩) NB534_535.out _).trans (hHeld.2.2.2.1)))))))))))), ((cell_far (p := ⟨gb535, _, none⟩) NB534_535.out _).trans (((cell_far (p := ⟨gb535, _, none⟩) NB534_535.out _).trans (((cell_far (p := ⟨gb535, _, none⟩) NB534_535.out _).trans (((cell_far (p := ⟨gb535, _, none⟩) NB534_535.out _).trans (((cell_far (p := ⟨gb535, _, none⟩) NB534_535.out _).trans (((cell_far (p := ⟨gb535, _, none⟩) NB534_535.out _).trans (hHeld.2.2.2.2.1)))))))))))), ((cell_far (p := ⟨gb535, _, none⟩) NB534_535.out _).trans (((cell_far (p := ⟨gb535, _, none⟩) NB534_535.out _).trans (((cell_far (p := ⟨gb535, _, none⟩) NB534_535.out _).trans (((cell_far (p := ⟨gb535, _, none⟩) NB534_535.out _).trans (((cell_far (p := ⟨gb535, _, none⟩) NB534_535.out _).trans (((cell_far (p := ⟨gb535, _, none⟩) NB534_535.out _).trans (hHeld.2.2.2.2.2))))))))))))⟩ (fun hHeld => ?_)
    clear hK K
    refine pure_ (i := 6) (N := some 3) (v := ?_) (a' := ?_) #[true, true, true, true, true, true, true] rfl rfl (by kernel_rfl) (fun _ _ _ h => h) (Or.inl ⟨by rfl, ?_⟩) ?_ ?_
    rotate_left
    · intro w'
      go_simp
      with_reducible rfl
    rotate_left
    · simp only [Act.put, List.setIfInBounds_toArray, List.set_cons_zero, List.set_cons_succ, i64_w, i32_w]
      rfl
    refine done_ (by kernel_rfl) ?_
    try go_wp2
    refine bodyPost_ret (results_ct rfl _ _ gb535 39 #[.int .i64 t541, .slice Ao17 t542.length co17, .slice Ao19 t545.length co19, .slice Ao21 t548.length co21, .slice Ao23 t551.length co23, .slice Ao25 t554.length co25] (0, 0) _ rfl (by apply blk_u; refine blk_put (cs := #[.int .i64 t541, .slice Ao17 t542.length co17, .slice Ao19 t545.length co19, .slice Ao21 t548.length co21, .slice Ao23 t551.length co23, .slice none 0 0]) ?_ 5 _ rfl; apply blk_u; refine blk_put (cs := #[.int .i64 t541, .slice Ao17 t542.length co17, .slice Ao19 t545.length co19, .slice Ao21 t548.length co21, .slice none 0 0, .slice none 0 0]) ?_ 4 _ rfl; apply blk_u; refine blk_put (cs := #[.int .i64 t541, .slice Ao17 t542.length co17, .slice Ao19 t545.length co19, .slice none 0 0, .slice none 0 0, .slice none 0 0]) ?_ 3 _ rfl; apply blk_u; refine blk_put (cs := #[.int .i64 t541, .slice Ao17 t542.length co17, .slice none 0 0, .slice none 0 0, .slice none 0 0, .slice none 0 0]) ?_ 2 _ rfl; apply blk_u; refine blk_put (cs := #[.int .i64 t541, .slice none 0 0, .slice none 0 0, .slice none 0 0, .slice none 0 0, .slice none 0 0]) ?_ 1 _ rfl; apply blk_u; refine blk_put (cs := #[.int .i64 0, .slice none 0 0, .slice none 0 0, .slice none 0 0, .slice none 0 0, .slice none 0 0]) ?_ 0 _ rfl; apply blk_u; exact BK535.out) Try.underlying39 rfl (by kernel_rfl)) rfl ?_
    exact ⟨_, _, _, _, _, by first | rfl | (simp [errW_none, errW_some] <;> rfl) | (simp [*, errW_none, errW_some] <;> rfl), by apply R_u; exact Kd.R_mono (Kd.R_far (p := ⟨gb535, 5, none⟩) (Kd.R_far (p := ⟨gb535, 4, none⟩) (Kd.R_far (p := ⟨gb535, 3, none⟩) (Kd.R_far (p := ⟨gb535, 2, none⟩) (Kd.R_far (p := ⟨gb535, 1, none⟩) (Kd.R_far (p := ⟨gb535, 0, none⟩) (Kd.R_types HO544.out BK535.out (by decide)) (fun _ hk => hk.2) (.int .i64 t541)) (fun _ hk => hk.2) (.slice Ao17 t542.length co17)) (fun _ hk => hk.2) (.slice Ao19 t545.length co19)) (fun _ hk => hk.2) (.slice Ao21 t548.length co21)) (fun _ hk => hk.2) (.slice Ao23 t551.length co23)) (fun _ hk => hk.2) (.slice Ao25 t554.length co25)) (fun _ hk => trivial), by apply R_u; exact Kd.R_mono (Kd.R_far (p := ⟨gb535, 5, none⟩) (Kd.R_far (p := ⟨gb535, 4, none⟩) (Kd.R_far (p := ⟨gb535, 3, none⟩) (Kd.R_far (p := ⟨gb535, 2, none⟩) (Kd.R_far (p := ⟨gb535, 1, none⟩) (Kd.R_far (p := ⟨gb535, 0, none⟩) (Kd.R_types HO547.out BK535.out (by decide)) (fun _ hk => hk.2) (.int .i64 t541)) (fun _ hk => hk.2) (.slice Ao17 t542.length co17)) (fun _ hk => hk.2) (.slice Ao19 t545.length co19)) (fun _ hk => hk.2) (.slice Ao21 t548.length co21)) (fun _ hk => hk.2) (.slice Ao23 t551.length co23)) (fun _ hk => hk.2) (.slice Ao25 t554.length co25)) (fun _ hk => hk.1), by apply R_u; exact Kd.R_mono (Kd.R_far (p := ⟨gb535, 5, none⟩) (Kd.R_far (p := ⟨gb535, 4, none⟩) (Kd.R_far (p := ⟨gb535, 3, none⟩) (Kd.R_far (p := ⟨gb535, 2, none⟩) (Kd.R_far (p := ⟨gb535, 1, none⟩) (Kd.R_far (p := ⟨gb535, 0, none⟩) (Kd.R_types HO550.out BK535.out (by decide)) (fun _ hk => hk.2) (.int .i64 t541)) (fun _ hk => hk.2) (.slice Ao17 t542.length co17)) (fun _ hk => hk.2) (.slice Ao19 t545.length co19)) (fun _ hk => hk.2) (.slice Ao21 t548.length co21)) (fun _ hk => hk.2) (.slice Ao23 t551.length co23)) (fun _ hk => hk.2) (.slice Ao25 t554.length co25)) (fun _ hk => hk.1), by apply R_u; exact Kd.R_mono (Kd.R_far (p := ⟨gb535, 5, none⟩) (Kd.R_far (p := ⟨gb535, 4, none⟩) (Kd.R_far (p := ⟨gb535, 3, none⟩) (Kd.R_far (p := ⟨gb535, 2, none⟩) (Kd.R_far (p := ⟨gb535, 1, none⟩) (Kd.R_far (p := ⟨gb535, 0, none⟩) (Kd.R_types HO553.out BK535.out (by decide)) (fun _ hk => hk.2) (.int .i64 t541)) (fun _ hk => hk.2) (.slice Ao17 t542.length co17)) (fun _ hk => hk.2) (.slice Ao19 t545.length co19)) (fun _ hk => hk.2) (.slice Ao21 t548.length co21)) (fun _ hk => hk.2) (.slice Ao23 t551.length co23)) (fun _ hk => hk.2) (.slice Ao25 t554.length co25)) (fun _ hk => hk.1), by apply R_u; exact Kd.R_mono (Kd.R_far (p := ⟨gb535, 5, none⟩) (Kd.R_far (p := ⟨gb535, 4, none⟩) (Kd.R_far (p := ⟨gb535, 3, none⟩) (Kd.R_far (p := ⟨gb535, 2, none⟩) (Kd.R_far (p := ⟨gb535, 1, none⟩) (Kd.R_far (p := ⟨gb535, 0, none⟩) (Kd.R_types HO556.out BK535.out (by decide)) (fun _ hk => hk.2) (.int .i64 t541)) (fun _ hk => hk.2) (.slice Ao17 t542.length co17)) (fun _ hk => hk.2) (.slice Ao19 t545.length co19)) (fun _ hk => hk.2) (.slice Ao21 t548.length co21)) (fun _ hk => hk.2) (.slice Ao23 t551.length co23)) (fun _ hk => hk.2) (.slice Ao25 t554.length co25)) (fun _ hk => hk.1), by repeat (first | (with_reducible first | exact HB.out | apply below_alloc | apply pw_below_drewN | apply below_drew1 | refine below_set ?_ GE534.out | refine below_set ?_ GE535.out) | exact HB.out)⟩
  · rw [if_neg c4] at H
    have c4b0 : (t537 == 0) = false := beq_eq_false_iff_ne.mpr c4
    have c4b1 : (t537 != 0) = true := bne_iff_ne.mpr c4
    simp only [Option.some.injEq, Prod.mk.injEq] at H
    obtain ⟨rfl, rfl, rfl, rfl, rfl, rfl, rfl⟩ := H
    go_enter Try.func10, Try.ntmps10
    try go_wp2_with (first | ((with_reducible refine gate_dst (N := 1) rfl ?_); refine box_event ?hg (N := 1) ?hd (cs := #[.int .i64 a0_0, .slice A0_1 l0_1.length c0_1, .slice A0_2 l0_2.length c0_2, .slice A0_3 l0_3.length c0_3, .slice A0_4 l0_4.length c0_4, .slice A0_5 l0_5.length c0_5]) (t := 39) ?hr ?_; (case hd => rfl); (case hg => rfl); (case hr => first | (go_simp; done) | (go_simp; rfl)); intro gb534 hg w27 hbox hb; have n0_ := Aside0.mk (below_step (below_u HB.out) hb); have n1_ := Aside0.mk (hbox); have n2_ := Aside0.mk ((by rw [hg]; exact (below_size (below_u HB.out)) : w.heap.size ≤ gb534)); have n3_ := Aside0.mk ((by rw [hg]; exact (below_size (below_u HB.out)) : w.heap.size ≤ gb534)); clear HB; have HB := n0_; have BK534 := n1_; have GW534 := n2_; have GE534 := n3_; clear n0_ n1_ n2_ n3_; clear hb hbox hg) | ((with_reducible refine gate_dst (N := 2) rfl ?_); refine box_event ?hg (N := 2) ?hd (cs := #[.int .i64 0, .slice none 0 0, .slice none 0 0, .slice none 0 0, .slice none 0 0, .slice none 0 0]) (t := 39) ?hr ?_; (case hd => rfl); (case hg => rfl); (case hr => first | (go_simp; done) | (go_simp; rfl)); intro gb535 hg w28 hbox hb; have n0_ := Aside0.mk (blk_below (g := gb534) (o := .cells #[.int .i64 a0_0, .slice A0_1 l0_1.length c0_1, .slice A0_2 l0_2.length c0_2, .slice A0_3 l0_3.length c0_3, .slice A0_4 l0_4.length c0_4, .slice A0_5 l0_5.length c0_5] 39 (0, 0)) (blk_u BK534.out) hb); have n1_ := Aside0.mk (below_step (by repeat (first | (with_reducible first | exact HB.out | apply below_alloc | apply pw_below_drewN | apply below_drew1 | refine below_set ?_ GE534.out) | exact HB.out)) hb); have n2_ := Aside0.mk (hbox); have n3_ := Aside0.mk ((by rw [hg]; exact (below_size (by repeat (first | (with_reducible first | exact HB.out | apply below_alloc | apply pw_below_drewN | apply below_drew1 | refine below_set ?_ GE534.out) | exact HB.out))) : w.heap.size ≤ gb535)); have n4_ := Aside0.mk ((by rw [hg]; exact (below_size (by repeat (first | (with_reducible first | exact HB.out | apply below_alloc | apply pw_below_drewN | apply below_drew1 | refine below_set ?_ GE534.out) | exact HB.out))) : w.heap.size ≤ gb535)); have n5_ := Aside0.mk ((by rw [hg]; exact Nat.ne_of_lt (blk_lt (g := gb534) (o := .cells #[.int .i64 a0_0, .slice A0_1 l0_1.length c0_1, .slice A0_2 l0_2.length c0_2, .slice A0_3 l0_3.length c0_3, .slice A0_4 l0_4.length c0_4, .slice A0_5 l0_5.length c0_5] 39 (0, 0)) (blk_u BK534.out)) : gb534 ≠ gb535)); have n6_ := Aside0.mk ((by rw [hg]; exact Nat.ne_of_gt (blk_lt (g := gb534) (o := .cells #[.int .i64 a0_0, .slice A0_1 l0_1.length c0_1, .slice A0_2 l0_2.length c0_2, .slice A0_3 l0_3.length c0_3, .slice A0_4 l0_4.length c0_4, .slice A0_5 l0_5.length c0_5] 39 (0, 0)) (blk_u BK534.out)) : gb535 ≠ gb534)); clear BK534; clear HB; have BK534 := n0_; have HB := n1_; have BK535 := n2_; have GW535 := n3_; have GE535 := n4_; have NB534_535 := n5_; have NB535_534 := n6_; clear n0_ n1_ n2_ n3_ n4_ n5_ n6_; clear hb hbox hg))
    have n0_ := Aside0.mk (blk_drew BK534.out)
    have n1_ := Aside0.mk (blk_drew BK535.out)
    have n2_ := Aside0.mk (below_drew1 HB.out)
    clear BK534
    clear BK535
    clear HB
    have BK534 := n0_
    have BK535 := n1_
    have HB := n2_
    clear n0_ n1_ n2_
    refine start_ (n := 5) (S := fun w' => w'.cell? ⟨gb534, 0, none⟩ = some (.int .i64 a0_0) ∧ w'.cell? ⟨gb534, 1, none⟩ = some (.slice A0_1 l0_1.length c0_1) ∧ w'.cell? ⟨gb534, 2, none⟩ = some (.slice A0_2 l0_2.length c0_2) ∧ w'.cell? ⟨gb534, 3, none⟩ = some (.slice A0_3 l0_3.length c0_3) ∧ w'.cell? ⟨gb534, 4, none⟩ = some (.slice A0_4 l0_4.length c0_4) ∧ w'.cell? ⟨gb534, 5, none⟩ = some (.slice A0_5 l0_5.length c0_5)) (ds := []) #[false, false, false, false, false] (by kernel_rfl) rfl rfl ⟨(blk_cell BK534.out 0).trans rfl, (blk_cell BK534.out 1).trans rfl, (blk_cell BK534.out 2).trans rfl, (blk_cell BK534.out 3).trans rfl, (blk_cell BK534.out 4).trans rfl, (blk_cell BK534.out 5).trans rfl⟩ (fun hHeld => ?_)
    generalize w28.drew = w29 at BK534 BK535 HB hHeld ⊢
    refine take_ (i := 0) (N := some 5) (v := ?_) (a' := ?_) #[true, false, false, false, false] rfl rfl (by kernel_rfl) (fun _ _ _ h => h) (Or.inl ⟨by rfl, ?_⟩) hHeld ?_ ?_
    rotate_left
    · rintro w' ⟨s0, s1, s2, s3, s4, s5⟩
      go_simp
      with_reducible rfl
    rotate_left
    · simp only [Act.put, List.setIfInBounds_toArray, List.set_cons_zero, List.set_cons_succ, i64_w, i32_w]
      rfl
    refine take_ (i := 1) (N := some 6) (v := ?_) (a' := ?_) #[true, true, false, false, false] rfl rfl (by kernel_rfl) (fun _ _ _ h => h) (Or.inl ⟨by rfl, ?_⟩) hHeld ?_ ?_
    rotate_left
    · rintro w' ⟨s0, s1, s2, s3, s4, s5⟩
      go_simp
      with_reducible rfl
    rotate_left
    · simp only [Act.put, List.setIfInBounds_toArray, List.set_cons_zero, List.set_cons_succ, i64_w, i32_w]
      rfl
    refine one_ (i := 2) (N := some 7) #[true, true, true, false, false] rfl rfl (by kernel_rfl) (by decide) (fun K hK => ?_)
    refine goes_ Try.func24 (by kernel_rfl) rfl #[.agg #[.int .i64 a0_0, .slice A0_1 l0_1.length c0_1, .slice A0_2 l0_2.length c0_2, .slice A0_3 l0_3.length c0_3, .slice A0_4 l0_4.length c0_4, .slice A0_5 l0_5.length c0_5]] (by rfl) rfl rfl (by (try simp only [List.map_toArray, List.map_cons, List.map_nil]); first | done | rfl | (simp only [List.length_drop, List.length_take]; rfl)) ?_
    with_reducible refine (vector_long.calls a0_0 _ _ l0_1 _ _ l0_2 _ _ l0_3 _ _ l0_4 _ _ l0_5 t536 _ ?side1 ?side2 ?side3 ?side4 ?side5 ?side6 ?side7 ?side8 ?side9 ?side10 A2.out).mono ?_
    (case side1 => repeat (first | exact (Kd.C_below HR0_1.out HB.out) | (with_reducible refine Kd.C_alloc ?_ _) | (with_reducible refine Kd.C_drewN ?_ _) | (with_reducible refine Kd.C_drew ?_)))
    (case side2 => exact HC0_1.out)
    (case side3 => repeat (first | exact (Kd.C_below HR0_2.out HB.out) | (with_reducible refine Kd.C_alloc ?_ _) | (with_reducible refine Kd.C_drewN ?_ _) | (with_reducible refine Kd.C_drew ?_)))
    (case side4 => exact HC0_2.out)
    (case side5 => repeat (first | exact (Kd.C_below HR0_3.out HB.out) | (with_reducible refine Kd.C_alloc ?_ _) | (with_reducible refine Kd.C_drewN ?_ _) | (with_reducible refine Kd.C_drew ?_)))
    (case side6 => exact HC0_3.out)
    (case side7 => repeat (first | exact (Kd.C_below HR0_4.out HB.out) | (with_reducible refine Kd.C_alloc ?_ _) | (with_reducible refine Kd.C_drewN ?_ _) | (with_reducible refine Kd.C_drew ?_)))
    (case side8 => exact HC0_4.out)
    (case side9 => repeat (first | exact (Kd.C_below HR0_5.out HB.out) | (with_reducible refine Kd.C_alloc ?_ _) | (with_reducible refine Kd.C_drewN ?_ _) | (with_reducible refine Kd.C_drew ?_)))
    (case side10 => exact HC0_5.out)
    rintro e w30 ⟨rfl, hb⟩
    refine ⟨_, rfl, ?_⟩
    have n0_ := Aside0.mk (blk_below (g := gb534) (o := .cells #[.int .i64 a0_0, .slice A0_1 l0_1.length c0_1, .slice A0_2 l0_2.length c0_2, .slice A0_3 l0_3.length c0_3, .slice A0_4 l0_4.length c0_4, .slice A0_5 l0_5.length c0_5] 39 (0, 0)) (blk_u BK534.out) hb)
    have n1_ := Aside0.mk (blk_below (g := gb535) (o := .cells #[.int .i64 0, .slice none 0 0, .slice none 0 0, .slice none 0 0, .slice none 0 0, .slice none 0 0] 39 (0, 0)) (blk_u BK535.out) hb)
    have n2_ := Aside0.mk (below_step (by repeat (first | (with_reducible first | exact HB.out | apply below_alloc | apply pw_below_drewN | apply below_drew1 | refine below_set ?_ GE534.out | refine below_set ?_ GE535.out) | exact HB.out)) hb)
    clear BK534
    clear BK535
    clear HB
    have BK534 := n0_
    have BK535 := n1_
    have HB := n2_
    clear n0_ n1_ n2_
    (try clear hb)
    (try clear hb2)
    (try clear hk)
    (try clear hi)
    refine hK.out _ _ ⟨(blk_cell BK534.out 0).trans rfl, (blk_cell BK534.out 1).trans rfl, (blk_cell BK534.out 2).trans rfl, (blk_cell BK534.out 3).trans rfl, (blk_cell BK534.out 4).trans rfl, (blk_cell BK534.out 5).trans rfl⟩ (fun hHeld => ?_)
    clear hK K
    refine norm_ (a' := ?_) ?_ ?_
    rotate_left
    · show Act.put _ (some 7) _ = _
      simp only [Act.put, List.setIfInBounds_toArray, List.set_cons_zero, List.set_cons_succ, i64_w, i32_w]
      rfl
    refine one_ (i := 3) (N := some 8) #[true, true, true, true, false] rfl rfl (by kernel_rfl) (by decide) (fun K hK => ?_)
    refine goes_ Try.func23 (by kernel_rfl) rfl #[.agg #[.int .i64 a0_0, .slice A0_1 l0_1.length c0_1, .slice A0_2 l0_2.length c0_2, .slice A0_3 l0_3.length c0_3, .slice A0_4 l0_4.length c0_4, .slice A0_5 l0_5.length c0_5], .int .i64 t536] (by rfl) rfl rfl (by (try simp only [List.map_toArray, List.map_cons, List.map_nil]); first | done | rfl | (simp only [List.length_drop, List.length_take]; rfl)) ?_
    with_reducible refine (vector_CheckVector.calls k a0_0 _ _ l0_1 _ _ l0_2 _ _ l0_3 _ _ l0_4 _ _ l0_5 t536 t537 _ ?side1 ?side2 ?side3 ?side4 ?side5 ?side6 ?side7 ?side8 ?side9 ?side10 A3.out).mono ?_
    (case side1 => repeat (first | exact (Kd.C_below HR0_1.out HB.out) | (with_reducible refine Kd.C_alloc ?_ _) | (with_reducible refine Kd.C_drewN ?_ _) | (with_reducible refine Kd.C_drew ?_)))
    (case side2 => exact HC0_1.out)
    (case side3 => repeat (first | exact (Kd.C_below HR0_2.out HB.out) | (with_reducible refine Kd.C_alloc ?_ _) | (with_reducible refine Kd.C_drewN ?_ _) | (with_reducible refine Kd.C_drew ?_)))
    (case side4 => exact HC0_2.out)
    (case side5 => repeat (first | exact (Kd.C_below HR0_3.out HB.out) | (with_reducible refine Kd.C_alloc ?_ _) | (with_reducible refine Kd.C_drewN ?_ _) | (with_reducible refine Kd.C_drew ?_)))
    (case side6 => exact HC0_3.out)
    (case side7 => repeat (first | exact (Kd.C_below HR0_4.out HB.out) | (with_reducible refine Kd.C_alloc ?_ _) | (with_reducible refine Kd.C_drewN ?_ _) | (with_reducible refine Kd.C_drew ?_)))
    (case side8 => exact HC0_4.out)
    (case side9 => repeat (first | exact (Kd.C_below HR0_5.out HB.out) | (with_reducible refine Kd.C_alloc ?_ _) | (with_reducible refine Kd.C_drewN ?_ _) | (with_reducible refine Kd.C_drew ?_)))
    (case side10 => exact HC0_5.out)
    rintro e w31 ⟨rfl, hb⟩
    refine ⟨_, rfl, ?_⟩
    have n0_ := Aside0.mk (blk_below (g := gb534) (o := .cells #[.int .i64 a0_0, .slice A0_1 l0_1.length c0_1, .slice A0_2 l0_2.length c0_2, .slice A0_3 l0_3.length c0_3, .slice A0_4 l0_4.length c0_4, .slice A0_5 l0_5.length c0_5] 39 (0, 0)) (blk_u BK534.out) hb)
    have n1_ := Aside0.mk (blk_below (g := gb535) (o := .cells #[.int .i64 0, .slice none 0 0, .slice none 0 0, .slice none 0 0, .slice none 0 0, .slice none 0 0] 39 (0, 0)) (blk_u BK535.out) hb)
    have n2_ := Aside0.mk (below_step (by repeat (first | (with_reducible first | exact HB.out | apply below_alloc | apply pw_below_drewN | apply below_drew1 | refine below_set ?_ GE534.out | refine below_set ?_ GE535.out) | exact HB.out)) hb)
    clear BK534
    clear BK535
    clear HB
    have BK534 := n0_
    have BK535 := n1_
    have HB := n2_
    clear n0_ n1_ n2_
    (try clear hb)
    (try clear hb2)
    (try clear hk)
    (try clear hi)
    refine hK.out _ _ ⟨(blk_cell BK534.out 0).trans rfl, (blk_cell BK534.out 1).trans rfl, (blk_cell BK534.out 2).trans rfl, (blk_cell BK534.out 3).trans rfl, (blk_cell BK534.out 4).trans rfl, (blk_cell BK534.out 5).trans rfl⟩ (fun hHeld => ?_)
    clear hK K
    refine norm_ (a' := ?_) ?_ ?_
    rotate_left
    · show Act.put _ (some 8) _ = _
      simp only [Act.put, List.setIfInBounds_toArray, List.set_cons_zero, List.set_cons_succ, i64_w, i32_w]
      rfl
    refine pure_ (i := 4) (N := some 4) (v := ?_) (a' := ?_) #[true, true, true, true, true] rfl rfl (by kernel_rfl) (fun _ _ _ h => h) (Or.inl ⟨by rfl, ?_⟩) ?_ ?_
    rotate_left
    · intro w'
      go_simp
      with_reducible rfl
    rotate_left
    · simp only [Act.put, List.setIfInBounds_toArray, List.set_cons_zero, List.set_cons_succ, i64_w, i32_w]
      rfl
    refine done_ (by kernel_rfl) ?_
    have hnb32 := NB535_534.out
    have hnc32 := NB534_535.out
    have hcz33_0 : w31.cell? ⟨gb535, 0, none⟩ = some (.int .i64 0) := (blk_cell BK535.out 0).trans rfl
    have hcz33_1 : w31.cell? ⟨gb535, 1, none⟩ = some (.slice none 0 0) := (blk_cell BK535.out 1).trans rfl
    have hcz33_2 : w31.cell? ⟨gb535, 2, none⟩ = some (.slice none 0 0) := (blk_cell BK535.out 2).trans rfl
    have hcz33_3 : w31.cell? ⟨gb535, 3, none⟩ = some (.slice none 0 0) := (blk_cell BK535.out 3).trans rfl
    have hcz33_4 : w31.cell? ⟨gb535, 4, none⟩ = some (.slice none 0 0) := (blk_cell BK535.out 4).trans rfl
    have hcz33_5 : w31.cell? ⟨gb535, 5, none⟩ = some (.slice none 0 0) := (blk_cell BK535.out 5).trans rfl
    have hfz33_0 := blk_frozen BK535.out 0
    have hfz33_1 := blk_frozen BK535.out 1
    have hfz33_2 := blk_frozen BK535.out 2
    have hfz33_3 := blk_frozen BK535.out 3
    have hfz33_4 := blk_frozen BK535.out 4
    have hfz33_5 := blk_frozen BK535.out 5
    try go_wp2
    refine bodyPost_ret (results_ct rfl _ _ gb535 39 #[.int .i64 0, .slice none 0 0, .slice none 0 0, .slice none 0 0, .slice none 0 0, .slice none 0 0] (0, 0) _ rfl (by apply blk_u; refine blk_put (cs := #[.int .i64 0, .slice none 0 0, .slice none 0 0, .slice none 0 0, .slice none 0 0, .slice none 0 0]) ?_ 5 _ rfl; apply blk_u; refine blk_put (cs := #[.int .i64 0, .slice none 0 0, .slice none 0 0, .slice none 0 0, .slice none 0 0, .slice none 0 0]) ?_ 4 _ rfl; apply blk_u; refine blk_put (cs := #[.int .i64 0, .slice none 0 0, .slice none 0 0, .slice none 0 0, .slice none 0 0, .slice none 0 0]) ?_ 3 _ rfl; apply blk_u; refine blk_put (cs := #[.int .i64 0, .slice none 0 0, .slice none 0 0, .slice none 0 0, .slice none 0 0, .slice none 0 0]) ?_ 2 _ rfl; apply blk_u; refine blk_put (cs := #[.int .i64 0, .slice none 0 0, .slice none 0 0, .slice none 0 0, .slice none 0 0, .slice none 0 0]) ?_ 1 _ rfl; apply blk_u; refine blk_put (cs := #[.int .i64 0, .slice none 0 0, .slice none 0 0, .slice none 0 0, .slice none 0 0, .slice none 0 0]) ?_ 0 _ rfl; apply blk_u; exact BK535.out) Try.underlying39 rfl (by kernel_rfl)) rfl ?_
    exact ⟨_, _, _, _, _, by first | rfl | (simp [errW_none, errW_some] <;> rfl) | (simp [*, errW_none, errW_some] <;> rfl), by first | exact Kd.R_nil _ _ _ _ _ | exact Kd.N_nil _ _ _ _ _ | exact Kd.V_nil _ _ _ _ _ | exact Kd.Q_nil _ _ _ _ _ | exact Kd.S_nil _ _ _ _ _, by first | exact Kd.R_nil _ _ _ _ _ | exact Kd.N_nil _ _ _ _ _ | exact Kd.V_nil _ _ _ _ _ | exact Kd.Q_nil _ _ _ _ _ | exact Kd.S_nil _ _ _ _ _, by first | exact Kd.R_nil _ _ _ _ _ | exact Kd.N_nil _ _ _ _ _ | exact Kd.V_nil _ _ _ _ _ | exact Kd.Q_nil _ _ _ _ _ | exact Kd.S_nil _ _ _ _ _, by first | exact Kd.R_nil _ _ _ _ _ | exact Kd.N_nil _ _ _ _ _ | exact Kd.V_nil _ _ _ _ _ | exact Kd.Q_nil _ _ _ _ _ | exact Kd.S_nil _ _ _ _ _, by first | exact Kd.R_nil _ _ _ _ _ | exact Kd.N_nil _ _ _ _ _ | exact Kd.V_nil _ _ _ _ _ | exact Kd.Q_nil _ _ _ _ _ | exact Kd.S_nil _ _ _ _ _, by repeat (first | (with_reducible first | exact HB.out | apply below_alloc | apply pw_below_drewN | apply below_drew1 | refine below_set ?_ GE534.out | refine below_set ?_ GE535.out) | exact HB.out)⟩
end Go.Proofs.Ytphnmaobpefoiaa.XA
end
section
namespace Go.Proofs.Ytphnmaobpefoiaa.XA
open Go.RowKit Go.Proofs.YtphnmaobpefoiaaXW Go.Proofs.YtphnmaobpefoiaaW.PrintWords Go.Proofs.YtphnmaobpefoiaaW.PrintLast Go.Proofs.YtphnmaobpefoiaaW.PrintMore
attribute [local go_sem] max2_int min2_int max_two min_two max_three min_three max_four min_four sleq
set_option linter.unusedVariables false
set_option linter.unusedSimpArgs false
def vector_At.f (k : Nat) (a0_0 : Int) (l0_1 : List Bool) (l0_2 : List Int) (l0_3 : List ByteArray) (l0_4 : List ByteArray) (l0_5 : List Int) (a1 : Int) : Option (Int × Int × ByteArray × Int) := (vector_long.f a0_0 l0_1 l0_2 l0_3 l0_4 l0_5).bind fun t276 => ((vector_CheckVector.f k a0_0 l0_1 l0_2 l0_3 l0_4 l0_5 t276).bind fun t277 => (if t277 = 0 then ((vector_long.f a0_0 l0_1 l0_2 l0_3 l0_4 l0_5).bind fun t278 => ((kit_In.f a1 0 (wrap64 (t278 - 1))).bind fun t279 => (if t279 = true then ((vector_at.f a0_0 l0_1 l0_2 l0_3 l0_4 l0_5 a1).bind fun bt280 => (some (bt280.1, bt280.2.1, bt280.2.2, 0))) else (some (0, 0, (⟨#[]⟩ : ByteArray), 1))))) else (some (0, 0, (⟨#[]⟩ : ByteArray), t277))))
theorem vector_At.mono : ∀ a0 a1 a2 a3 a4 a5 a6 k, LeO (vector_At.f k a0 a1 a2 a3 a4 a5 a6) (vector_At.f (k + 1) a0 a1 a2 a3 a4 a5 a6) := by
  intro a0 a1 a2 a3 a4 a5 a6 k
  unfold vector_At.f
  repeat' first
      | (with_reducible exact vector_CheckVector.mono _ _ _ _ _ _ _ _)
      | (with_reducible exact LeO.refl _)
      | (with_reducible exact LeO.none _)
      | (with_reducible refine LeO.ite ?_ ?_)
      | (with_reducible refine LeO.bind ?_ (fun _ => ?_))
      | exact vector_CheckVector.mono _ _ _ _ _ _ _ _
      | exact LeO.none _
      | refine LeO.ite ?_ ?_
      | refine LeO.bind ?_ (fun _ => ?_)
set_option maxHeartbeats 8000000 in
set_option maxRecDepth 100000 in
theorem vector_At.calls (k : Nat) (a0_0 : Int) (A0_1 : Option Addr) (c0_1 : Nat) (l0_1 : List Bool) (A0_2 : Option Addr) (c0_2 : Nat) (l0_2 : List Int) (A0_3 : Option Addr) (c0_3 : Nat) (l0_3 : List ByteArray) (A0_4 : Option Addr) (c0_4 : Nat) (l0_4 : List ByteArray) (A0_5 : Option Addr) (c0_5 : Nat) (l0_5 : List Int) (a1 : Int) (r1 : Int) (r2 : Int) (r3 : ByteArray) (r4 : Int) (w : World) (hr0_1 : Kd.C Kd.bool w A0_1 l0_1.length l0_1) (hc0_1 : l0_1.length ≤ c0_1) (hr0_2 : Kd.C (Kd.int .i64) w A0_2 l0_2.length l0_2) (hc0_2 : l0_2.length ≤ c0_2) (hr0_3 : Kd.C Kd.string w A0_3 l0_3.length l0_3) (hc0_3 : l0_3.length ≤ c0_3) (hr0_4 : Kd.C Kd.string w A0_4 l0_4.length l0_4) (hc0_4 : l0_4.length ≤ c0_4) (hr0_5 : Kd.C (Kd.int .i64) w A0_5 l0_5.length l0_5) (hc0_5 : l0_5.length ≤ c0_5) (h : vector_At.f k a0_0 l0_1 l0_2 l0_3 l0_4 l0_5 a1 = some (r1, r2, r3, r4)) :
    Calls Try.prog 8 #[.agg #[.int .i64 a0_0, .slice A0_1 l0_1.length c0_1, .slice A0_2 l0_2.length c0_2, .slice A0_3 l0_3.length c0_3, .slice A0_4 l0_4.length c0_4, .slice A0_5 l0_5.length c0_5], .int .i64 a1] w fun e w' => e = .returned (.tuple #[.agg #[.int .i64 r1, .int .i64 r2, .string r3], .int .i64 r4]) ∧ Below w.heap.size w w' := by
  have hu39 := Try.underlying39
  have hu41 := Try.underlying41
  have HR0_1 := Aside0.mk hr0_1
  have HC0_1 := Aside0.mk hc0_1
  clear hr0_1 hc0_1
  have HR0_2 := Aside0.mk hr0_2
  have HC0_2 := Aside0.mk hc0_2
  clear hr0_2 hc0_2
  have HR0_3 := Aside0.mk hr0_3
  have HC0_3 := Aside0.mk hc0_3
  clear hr0_3 hc0_3
  have HR0_4 := Aside0.mk hr0_4
  have HC0_4 := Aside0.mk hc0_4
  clear hr0_4 hc0_4
  have HR0_5 := Aside0.mk hr0_5
  have HC0_5 := Aside0.mk hc0_5
  clear hr0_5 hc0_5
  have HB := Aside0.mk (Below.refl w.heap.size w)
  have H : ((vector_long.f a0_0 l0_1 l0_2 l0_3 l0_4 l0_5).bind fun t276 => ((vector_CheckVector.f k a0_0 l0_1 l0_2 l0_3 l0_4 l0_5 t276).bind fun t277 => (if t277 = 0 then ((vector_long.f a0_0 l0_1 l0_2 l0_3 l0_4 l0_5).bind fun t278 => ((kit_In.f a1 0 (wrap64 (t278 - 1))).bind fun t279 => (if t279 = true then ((vector_at.f a0_0 l0_1 l0_2 l0_3 l0_4 l0_5 a1).bind fun bt280 => (some (bt280.1, bt280.2.1, bt280.2.2, 0))) else (some (0, 0, (⟨#[]⟩ : ByteArray), 1))))) else (some (0, 0, (⟨#[]⟩ : ByteArray), t277))))) = some (r1, r2, r3, r4) := h
  clear h
  replace H := Option.bind_eq_some_iff.mp H
  obtain ⟨t276, A30, H⟩ := H
  replace H : ((vector_CheckVector.f k a0_0 l0_1 l0_2 l0_3 l0_4 l0_5 t276).bind fun t277 => (if t277 = 0 then ((vector_long.f a0_0 l0_1 l0_2 l0_3 l0_4 l0_5).bind fun t278 => ((kit_In.f a1 0 (wrap64 (t278 - 1))).bind fun t279 => (if t279 = true then ((vector_at.f a0_0 l0_1 l0_2 l0_3 l0_4 l0_5 a1).bind fun bt280 => (some (bt280.1, bt280.2.1, bt280.2.2, 0))) else (some (0, 0, (⟨#[]⟩ : ByteArray), 1))))) else (some (0, 0, (⟨#[]⟩ : ByteArray), t277)))) = some (r1, r2, r3, r4) := H
  have A3 := Aside0.mk A30
  clear A30
  replace H := Option.bind_eq_some_iff.mp H
  obtain ⟨t277, A40, H⟩ := H
  replace H : (if t277 = 0 then ((vector_long.f a0_0 l0_1 l0_2 l0_3 l0_4 l0_5).bind fun t278 => ((kit_In.f a1 0 (wrap64 (t278 - 1))).bind fun t279 => (if t279 = true then ((vector_at.f a0_0 l0_1 l0_2 l0_3 l0_4 l0_5 a1).bind fun bt280 => (some (bt280.1, bt280.2.1, bt280.2.2, 0))) else (some (0, 0, (⟨#[]⟩ : ByteArray), 1))))) else (some (0, 0, (⟨#[]⟩ : ByteArray), t277))) = some (r1, r2, r3, r4) := H
  have A4 := Aside0.mk A40
  clear A40
  by_cases c5 : t277 = 0
  · rw [if_pos c5] at H
    have c5b0 : (t277 == 0) = true := beq_iff_eq.mpr c5
    have c5b1 : (t277 != 0) = false := bne_eq_false_iff_eq.mpr c5
    clear c5
    replace H := Option.bind_eq_some_iff.mp H
    obtain ⟨t278, A60, H⟩ := H
    replace H : ((kit_In.f a1 0 (wrap64 (t278 - 1))).bind fun t279 => (if t279 = true then ((vector_at.f a0_0 l0_1 l0_2 l0_3 l0_4 l0_5 a1).bind fun bt280 => (some (bt280.1, bt280.2.1, bt280.2.2, 0))) else (some (0, 0, (⟨#[]⟩ : ByteArray), 1)))) = some (r1, r2, r3, r4) := H
    have A6 := Aside0.mk A60
    clear A60
    replace H := Option.bind_eq_some_iff.mp H
    obtain ⟨t279, A70, H⟩ := H
    replace H : (if t279 = true then ((vector_at.f a0_0 l0_1 l0_2 l0_3 l0_4 l0_5 a1).bind fun bt280 => (some (bt280.1, bt280.2.1, bt280.2.2, 0))) else (some (0, 0, (⟨#[]⟩ : ByteArray), 1))) = some (r1, r2, r3, r4) := H
    have A7 := Aside0.mk A70
    clear A70
    by_cases c8 : t279 = true
    · subst c8
      have H1 : ((vector_at.f a0_0 l0_1 l0_2 l0_3 l0_4 l0_5 a1).bind fun bt280 => (some (bt280.1, bt280.2.1, bt280.2.2, 0))) = some (r1, r2, r3, r4) := by rw [if_pos rfl] at H; exact H
      clear H
      have H := H1
      clear H1
      replace H := Option.bind_eq_some_iff.mp H
      obtain ⟨⟨t280, t281, t282⟩, A90, H⟩ := H
      replace H : (some (t280, t281, t282, 0)) = some (r1, r2, r3, r4) := H
      have A9 := Aside0.mk A90
      clear A90
      simp only [Option.some.injEq, Prod.mk.injEq] at H
      obtain ⟨rfl, rfl, rfl, rfl⟩ := H
      go_enter Try.func8, Try.ntmps8
      try go_wp2_with (first | ((with_reducible refine gate_dst (N := 2) rfl ?_); refine box_event ?hg (N := 2) ?hd (cs := #[.int .i64 a0_0, .slice A0_1 l0_1.length c0_1, .slice A0_2 l0_2.length c0_2, .slice A0_3 l0_3.length c0_3, .slice A0_4 l0_4.length c0_4, .slice A0_5 l0_5.length c0_5]) (t := 39) ?hr ?_; (case hd => rfl); (case hg => rfl); (case hr => first | (go_simp; done) | (go_simp; rfl)); intro gb274 hg w10 hbox hb; have n0_ := Aside0.mk (below_step (below_u HB.out) hb); have n1_ := Aside0.mk (hbox); have n2_ := Aside0.mk ((by rw [hg]; exact (below_size (below_u HB.out)) : w.heap.size ≤ gb274)); have n3_ := Aside0.mk ((by rw [hg]; exact (below_size (below_u HB.out)) : w.heap.size ≤ gb274)); clear HB; have HB := n0_; have BK274 := n1_; have GW274 := n2_; have GE274 := n3_; clear n0_ n1_ n2_ n3_; clear hb hbox hg) | ((with_reducible refine gate_dst (N := 4) rfl ?_); refine box_event ?hg (N := 4) ?hd (cs := #[.int .i64 0, .int .i64 0, .string (⟨#[]⟩ : ByteArray)]) (t := 41) ?hr ?_; (case hd => rfl); (case hg => rfl); (case hr => first | (go_simp; done) | (go_simp; rfl)); intro gb275 hg w11 hbox hb; have n0_ := Aside0.mk (blk_below (g := gb274) (o := .cells #[.int .i64 a0_0, .slice A0_1 l0_1.length c0_1, .slice A0_2 l0_2.length c0_2, .slice A0_3 l0_3.length c0_3, .slice A0_4 l0_4.length c0_4, .slice A0_5 l0_5.length c0_5] 39 (0, 0)) (blk_u BK274.out) hb); have n1_ := Aside0.mk (below_step (by repeat (first | (with_reducible first | exact HB.out | apply below_alloc | apply pw_below_drewN | apply below_drew1 | refine below_set ?_ GE274.out) | exact HB.out)) hb); have n2_ := Aside0.mk (hbox); have n3_ := Aside0.mk ((by rw [hg]; exact (below_size (by repeat (first | (with_reducible first | exact HB.out | apply below_alloc | apply pw_below_drewN | apply below_drew1 | refine below_set ?_ GE274.out) | exact HB.out))) : w.heap.size ≤ gb275)); have n4_ := Aside0.mk ((by rw [hg]; exact (below_size (by repeat (first | (with_reducible first | exact HB.out | apply below_alloc | apply pw_below_drewN | apply below_drew1 | refine below_set ?_ GE274.out) | exact HB.out))) : w.heap.size ≤ gb275)); have n5_ := Aside0.mk ((by rw [hg]; exact Nat.ne_of_lt (blk_lt (g := gb274) (o := .cells #[.int .i64 a0_0, .slice A0_1 l0_1.length c0_1, .slice A0_2 l0_2.length c0_2, .slice A0_3 l0_3.length c0_3, .slice A0_4 l0_4.length c0_4, .slice A0_5 l0_5.length c0_5] 39 (0, 0)) (blk_u BK274.out)) : gb274 ≠ gb275)); have n6_ := Aside0.mk ((by rw [hg]; exact Nat.ne_of_gt (blk_lt (g := gb274) (o := .cells #[.int .i64 a0_0, .slice A0_1 l0_1.length c0_1, .slice A0_2 l0_2.length c0_2, .slice A0_3 l0_3.length c0_3, .slice A0_4 l0_4.length c0_4, .slice A0_5 l0_5.length c0_5] 39 (0, 0)) (blk_u BK274.out)) : gb275 ≠ gb274)); clear BK274; clear HB; have BK274 := n0_; have HB := n1_; have BK275 := n2_; have GW275 := n3_; have GE275 := n4_; have NB274_275 := n5_; have NB275_274 := n6_; clear n0_ n1_ n2_ n3_ n4_ n5_ n6_; clear hb hbox hg))
      have n0_ := Aside0.mk (blk_drew BK274.out)
      have n1_ := Aside0.mk (blk_drew BK275.out)
      have n2_ := Aside0.mk (below_drew1 HB.out)
      clear BK274
      clear BK275
      clear HB
      have BK274 := n0_
      have BK275 := n1_
      have HB := n2_
      clear n0_ n1_ n2_
      refine start_ (n := 5) (S := fun w' => w'.cell? ⟨gb274, 0, none⟩ = some (.int .i64 a0_0) ∧ w'.cell? ⟨gb274, 1, none⟩ = some (.slice A0_1 l0_1.length c0_1) ∧ w'.cell? ⟨gb274, 2, none⟩ = some (.slice A0_2 l0_2.length c0_2) ∧ w'.cell? ⟨gb274, 3, none⟩ = some (.slice A0_3 l0_3.length c0_3) ∧ w'.cell? ⟨gb274, 4, none⟩ = some (.slice A0_4 l0_4.length c0_4) ∧ w'.cell? ⟨gb274, 5, none⟩ = some (.slice A0_5 l0_5.length c0_5)) (ds := []) #[false, false, false, false, false] (by kernel_rfl) rfl rfl ⟨(blk_cell BK274.out 0).trans rfl, (blk_cell BK274.out 1).trans rfl, (blk_cell BK274.out 2).trans rfl, (blk_cell BK274.out 3).trans rfl, (blk_cell BK274.out 4).trans rfl, (blk_cell BK274.out 5).trans rfl⟩ (fun hHeld => ?_)
      generalize w11.drew = w12 at BK274 BK275 HB hHeld ⊢
      refine take_ (i := 0) (N := some 7) (v := ?_) (a' := ?_) #[true, false, false, false, false] rfl rfl (by kernel_rfl) (fun _ _ _ h => h) (Or.inl ⟨by rfl, ?_⟩) hHeld ?_ ?_
      rotate_left
      · rintro w' ⟨s0, s1, s2, s3, s4, s5⟩
        go_simp
        with_reducible rfl
      rotate_left
      · simp only [Act.put, List.setIfInBounds_toArray, List.set_cons_zero, List.set_cons_succ, i64_w, i32_w]
        rfl
      refine take_ (i := 1) (N := some 8) (v := ?_) (a' := ?_) #[true, true, false, false, false] rfl rfl (by kernel_rfl) (fun _ _ _ h => h) (Or.inl ⟨by rfl, ?_⟩) hHeld ?_ ?_
      rotate_left
      · rintro w' ⟨s0, s1, s2, s3, s4, s5⟩
        go_simp
        with_reducible rfl
      rotate_left
      · simp only [Act.put, List.setIfInBounds_toArray, List.set_cons_zero, List.set_cons_succ, i64_w, i32_w]
        rfl
      refine one_ (i := 2) (N := some 9) #[true, true, true, false, false] rfl rfl (by kernel_rfl) (by decide) (fun K hK => ?_)
      refine goes_ Try.func24 (by kernel_rfl) rfl #[.agg #[.int .i64 a0_0, .slice A0_1 l0_1.length c0_1, .slice A0_2 l0_2.length c0_2, .slice A0_3 l0_3.length c0_3, .slice A0_4 l0_4.length c0_4, .slice A0_5 l0_5.length c0_5]] (by rfl) rfl rfl (by (try simp only [List.map_toArray, List.map_cons, List.map_nil]); first | done | rfl | (simp only [List.length_drop, List.length_take]; rfl)) ?_
      with_reducible refine (vector_long.calls a0_0 _ _ l0_1 _ _ l0_2 _ _ l0_3 _ _ l0_4 _ _ l0_5 t276 _ ?side1 ?side2 ?side3 ?side4 ?side5 ?side6 ?side7 ?side8 ?side9 ?side10 A3.out).mono ?_
      (case side1 => repeat (first | exact (Kd.C_below HR0_1.out HB.out) | (with_reducible refine Kd.C_alloc ?_ _) | (with_reducible refine Kd.C_drewN ?_ _) | (with_reducible refine Kd.C_drew ?_)))
      (case side2 => exact HC0_1.out)
      (case side3 => repeat (first | exact (Kd.C_below HR0_2.out HB.out) | (with_reducible refine Kd.C_alloc ?_ _) | (with_reducible refine Kd.C_drewN ?_ _) | (with_reducible refine Kd.C_drew ?_)))
      (case side4 => exact HC0_2.out)
      (case side5 => repeat (first | exact (Kd.C_below HR0_3.out HB.out) | (with_reducible refine Kd.C_alloc ?_ _) | (with_reducible refine Kd.C_drewN ?_ _) | (with_reducible refine Kd.C_drew ?_)))
      (case side6 => exact HC0_3.out)
      (case side7 => repeat (first | exact (Kd.C_below HR0_4.out HB.out) | (with_reducible refine Kd.C_alloc ?_ _) | (with_reducible refine Kd.C_drewN ?_ _) | (with_reducible refine Kd.C_drew ?_)))
      (case side8 => exact HC0_4.out)
      (case side9 => repeat (first | exact (Kd.C_below HR0_5.out HB.out) | (with_reducible refine Kd.C_alloc ?_ _) | (with_reducible refine Kd.C_drewN ?_ _) | (with_reducible refine Kd.C_drew ?_)))
      (case side10 => exact HC0_5.out)
      rintro e w13 ⟨rfl, hb⟩
      refine ⟨_, rfl, ?_⟩
      have n0_ := Aside0.mk (blk_below (g := gb274) (o := .cells #[.int .i64 a0_0, .slice A0_1 l0_1.length c0_1, .slice A0_2 l0_2.length c0_2, .slice A0_3 l0_3.length c0_3, .slice A0_4 l0_4.length c0_4, .slice A0_5 l0_5.length c0_5] 39 (0, 0)) (blk_u BK274.out) hb)
      have n1_ := Aside0.mk (blk_below (g := gb275) (o := .cells #[.int .i64 0, .int .i64 0, .string (⟨#[]⟩ : ByteArray)] 41 (0, 0)) (blk_u BK275.out) hb)
      have n2_ := Aside0.mk (below_step (by repeat (first | (with_reducible first | exact HB.out | apply below_alloc | apply pw_below_drewN | apply below_drew1 | refine below_set ?_ GE274.out | refine below_set ?_ GE275.out) | exact HB.out)) hb)
      clear BK274
      clear BK275
      clear HB
      have BK274 := n0_
      have BK275 := n1_
      have HB := n2_
      clear n0_ n1_ n2_
      (try clear hb)
      (try clear hb2)
      (try clear hk)
      (try clear hi)
      refine hK.out _ _ ⟨(blk_cell BK274.out 0).trans rfl, (blk_cell BK274.out 1).trans rfl, (blk_cell BK274.out 2).trans rfl, (blk_cell BK274.out 3).trans rfl, (blk_cell BK274.out 4).trans rfl, (blk_cell BK274.out 5).trans rfl⟩ (fun hHeld => ?_)
      clear hK K
      refine norm_ (a' := ?_) ?_ ?_
      rotate_left
      · show Act.put _ (some 9) _ = _
        simp only [Act.put, List.setIfInBounds_toArray, List.set_cons_zero, List.set_cons_succ, i64_w, i32_w]
        rfl
      refine one_ (i := 3) (N := some 10) #[true, true, true, true, false] rfl rfl (by kernel_rfl) (by decide) (fun K hK => ?_)
      refine goes_ Try.func23 (by kernel_rfl) rfl #[.agg #[.int .i64 a0_0, .slice A0_1 l0_1.length c0_1, .slice A0_2 l0_2.length c0_2, .slice A0_3 l0_3.length c0_3, .slice A0_4 l0_4.length c0_4, .slice A0_5 l0_5.length c0_5], .int .i64 t276] (by rfl) rfl rfl (by (try simp only [List.map_toArray, List.map_cons, List.map_nil]); first | done | rfl | (simp only [List.length_drop, List.length_take]; rfl)) ?_
      with_reducible refine (vector_CheckVector.calls k a0_0 _ _ l0_1 _ _ l0_2 _ _ l0_3 _ _ l0_4 _ _ l0_5 t276 t277 _ ?side1 ?side2 ?side3 ?side4 ?side5 ?side6 ?side7 ?side8 ?side9 ?side10 A4.out).mono ?_
      (case side1 => repeat (first | exact (Kd.C_below HR0_1.out HB.out) | (with_reducible refine Kd.C_alloc ?_ _) | (with_reducible refine Kd.C_drewN ?_ _) | (with_reducible refine Kd.C_drew ?_)))
      (case side2 => exact HC0_1.out)
      (case side3 => repeat (first | exact (Kd.C_below HR0_2.out HB.out) | (with_reducible refine Kd.C_alloc ?_ _) | (with_reducible refine Kd.C_drewN ?_ _) | (with_reducible refine Kd.C_drew ?_)))
      (case side4 => exact HC0_2.out)
      (case side5 => repeat (first | exact (Kd.C_below HR0_3.out HB.out) | (with_reducible refine Kd.C_alloc ?_ _) | (with_reducible refine Kd.C_drewN ?_ _) | (with_reducible refine Kd.C_drew ?_)))
      (case side6 => exact HC0_3.out)
      (case side7 => repeat (first | exact (Kd.C_below HR0_4.out HB.out) | (with_reducible refine Kd.C_alloc ?_ _) | (with_reducible refine Kd.C_drewN ?_ _) | (with_reducible refine Kd.C_drew ?_)))
      (case side8 => exact HC0_4.out)
      (case side9 => repeat (first | exact (Kd.C_below HR0_5.out HB.out) | (with_reducible refine Kd.C_alloc ?_ _) | (with_reducible refine Kd.C_drewN ?_ _) | (with_reducible refine Kd.C_drew ?_)))
      (case side10 => exact HC0_5.out)
      rintro e w14 ⟨rfl, hb⟩
      refine ⟨_, rfl, ?_⟩
      have n0_ := Aside0.mk (blk_below (g := gb274) (o := .cells #[.int .i64 a0_0, .slice A0_1 l0_1.length c0_1, .slice A0_2 l0_2.length c0_2, .slice A0_3 l0_3.length c0_3, .slice A0_4 l0_4.length c0_4, .slice A0_5 l0_5.length c0_5] 39 (0, 0)) (blk_u BK274.out) hb)
      have n1_ := Aside0.mk (blk_below (g := gb275) (o := .cells #[.int .i64 0, .int .i64 0, .string (⟨#[]⟩ : ByteArray)] 41 (0, 0)) (blk_u BK275.out) hb)
      have n2_ := Aside0.mk (below_step (by repeat (first | (with_reducible first | exact HB.out | apply below_alloc | apply pw_below_drewN | apply below_drew1 | refine below_set ?_ GE274.out | refine below_set ?_ GE275.out) | exact HB.out)) hb)
      clear BK274
      clear BK275
      clear HB
      have BK274 := n0_
      have BK275 := n1_
      have HB := n2_
      clear n0_ n1_ n2_
      (try clear hb)
      (try clear hb2)
      (try clear hk)
      (try clear hi)
      refine hK.out _ _ ⟨(blk_cell BK274.out 0).trans rfl, (blk_cell BK274.out 1).trans rfl, (blk_cell BK274.out 2).trans rfl, (blk_cell BK274.out 3).trans rfl, (blk_cell BK274.out 4).trans rfl, (blk_cell BK274.out 5).trans rfl⟩ (fun hHeld => ?_)
      clear hK K
      refine norm_ (a' := ?_) ?_ ?_
      rotate_left
      · show Act.put _ (some 10) _ = _
        simp only [Act.put, List.setIfInBounds_toArray, List.set_cons_zero, List.set_cons_succ, i64_w, i32_w]
        rfl
      refine pure_ (i := 4) (N := some 6) (v := ?_) (a' := ?_) #[true, true, true, true, true] rfl rfl (by kernel_rfl) (fun _ _ _ h => h) (Or.inl ⟨by rfl, ?_⟩) ?_ ?_
      rotate_left
      · intro w'
        go_simp
        with_reducible rfl
      rotate_left
      · simp only [Act.put, List.setIfInBounds_toArray, List.set_cons_zero, List.set_cons_succ, i64_w, i32_w]
        rfl
      refine done_ (by kernel_rfl) ?_
      have hnb15 := NB274_275.out
      have hnc15 := NB275_274.out
      have hcz16_0 : w14.cell? ⟨gb274, 0, none⟩ = some (.int .i64 a0_0) := (blk_cell BK274.out 0).trans rfl
      have hcz16_1 : w14.cell? ⟨gb274, 1, none⟩ = some (.slice A0_1 l0_1.length c0_1) := (blk_cell BK274.out 1).trans rfl
      have hcz16_2 : w14.cell? ⟨gb274, 2, none⟩ = some (.slice A0_2 l0_2.length c0_2) := (blk_cell BK274.out 2).trans rfl
      have hcz16_3 : w14.cell? ⟨gb274, 3, none⟩ = some (.slice A0_3 l0_3.length c0_3) := (blk_cell BK274.out 3).trans rfl
      have hcz16_4 : w14.cell? ⟨gb274, 4, none⟩ = some (.slice A0_4 l0_4.length c0_4) := (blk_cell BK274.out 4).trans rfl
      have hcz16_5 : w14.cell? ⟨gb274, 5, none⟩ = some (.slice A0_5 l0_5.length c0_5) := (blk_cell BK274.out 5).trans rfl
      have hfz16_0 := blk_frozen BK274.out 0
      have hfz16_1 := blk_frozen BK274.out 1
      have hfz16_2 := blk_frozen BK274.out 2
      have hfz16_3 := blk_frozen BK274.out 3
      have hfz16_4 := blk_frozen BK274.out 4
      have hfz16_5 := blk_frozen BK274.out 5
      try go_wp2_with (first | ((with_reducible refine gate_callee (f := 24) rfl ?_); refine goesL_ (some 17) rfl rfl Try.func24 (by kernel_rfl) rfl #[.agg #[.int .i64 a0_0, .slice A0_1 l0_1.length c0_1, .slice A0_2 l0_2.length c0_2, .slice A0_3 l0_3.length c0_3, .slice A0_4 l0_4.length c0_4, .slice A0_5 l0_5.length c0_5]] rfl (by (try simp only [List.map_toArray, List.map_cons, List.map_nil]); first | done | rfl | (simp only [List.length_drop, List.length_take]; rfl)) ?_; (with_reducible refine (vector_long.calls a0_0 _ _ l0_1 _ _ l0_2 _ _ l0_3 _ _ l0_4 _ _ l0_5 t278 _ ?side1 ?side2 ?side3 ?side4 ?side5 ?side6 ?side7 ?side8 ?side9 ?side10 A6.out).mono ?_); (case side1 => repeat (first | exact (Kd.C_below HR0_1.out HB.out) | (with_reducible refine Kd.C_alloc ?_ _) | (with_reducible refine Kd.C_drewN ?_ _) | (with_reducible refine Kd.C_drew ?_))); (case side2 => exact HC0_1.out); (case side3 => repeat (first | exact (Kd.C_below HR0_2.out HB.out) | (with_reducible refine Kd.C_alloc ?_ _) | (with_reducible refine Kd.C_drewN ?_ _) | (with_reducible refine Kd.C_drew ?_))); (case side4 => exact HC0_2.out); (case side5 => repeat (first | exact (Kd.C_below HR0_3.out HB.out) | (with_reducible refine Kd.C_alloc ?_ _) | (with_reducible refine Kd.C_drewN ?_ _) | (with_reducible refine Kd.C_drew ?_))); (case side6 => exact HC0_3.out); (case side7 => repeat (first | exact (Kd.C_below HR0_4.out HB.out) | (with_reducible refine Kd.C_alloc ?_ _) | (with_reducible refine Kd.C_drewN ?_ _) | (with_reducible refine Kd.C_drew ?_))); (case side8 => exact HC0_4.out); (case side9 => repeat (first | exact (Kd.C_below HR0_5.out HB.out) | (with_reducible refine Kd.C_alloc ?_ _) | (with_reducible refine Kd.C_drewN ?_ _) | (with_reducible refine Kd.C_drew ?_))); (case side10 => exact HC0_5.out); rintro e w17 ⟨rfl, hb⟩; refine ⟨_, rfl, ?_⟩; have n0_ := Aside0.mk (blk_below (g := gb274) (o := .cells #[.int .i64 a0_0, .slice A0_1 l0_1.length c0_1, .slice A0_2 l0_2.length c0_2, .slice A0_3 l0_3.length c0_3, .slice A0_4 l0_4.length c0_4, .slice A0_5 l0_5.length c0_5] 39 (0, 0)) (blk_u BK274.out) hb); have n1_ := Aside0.mk (blk_below (g := gb275) (o := .cells #[.int .i64 0, .int .i64 0, .string (⟨#[]⟩ : ByteArray)] 41 (0, 0)) (blk_u BK275.out) hb); have n2_ := Aside0.mk (below_step (by repeat (first | (with_reducible first | exact HB.out | apply below_alloc | apply pw_below_drewN | apply below_drew1 | refine below_set ?_ GE274.out | refine below_set ?_ GE275.out) | exact HB.out)) hb); clear BK274; clear BK275; clear HB; have BK274 := n0_; have BK275 := n1_; have HB := n2_; clear n0_ n1_ n2_; (try clear hb); (try clear hb2); (try clear hk); (try clear hi)) | ((with_reducible refine gate_callee (f := 25) rfl ?_); refine goesL_ (some 19) rfl rfl Try.func25 (by kernel_rfl) rfl #[.int .i64 a1, .int .i64 0, .int .i64 (wrap64 (t278 - 1))] rfl (by (try simp only [List.map_toArray, List.map_cons, List.map_nil]); first | done | rfl | (simp only [List.length_drop, List.length_take]; rfl)) ?_; (with_reducible refine (kit_In.calls a1 0 (wrap64 (t278 - 1)) true _ A7.out).mono ?_); rintro e w' ⟨rfl, ⟨nd, rfl⟩⟩; refine ⟨_, rfl, ?_⟩; (try (rw [drewN_self w17]; generalize hq_ : World.drewN w17 _ = w17; have n0_ : Aside0 (w17.heap[gb274]? = some (.cells #[.int .i64 a0_0, .slice A0_1 l0_1.length c0_1, .slice A0_2 l0_2.length c0_2, .slice A0_3 l0_3.length c0_3, .slice A0_4 l0_4.length c0_4, .slice A0_5 l0_5.length c0_5] 39 (0, 0))) := ⟨by rw [← hq_]; exact (blk_u BK274.out)⟩; have n1_ : Aside0 (w17.heap[gb275]? = some (.cells #[.int .i64 0, .int .i64 0, .string (⟨#[]⟩ : ByteArray)] 41 (0, 0))) := ⟨by rw [← hq_]; exact (blk_u BK275.out)⟩; have n2_ : Aside0 (Below w.heap.size w w17) := ⟨by rw [← hq_]; exact (by repeat (first | (with_reducible first | exact HB.out | apply below_alloc | apply pw_below_drewN | apply below_drew1 | refine below_set ?_ GE274.out | refine below_set ?_ GE275.out) | exact HB.out))⟩; clear BK274 BK275 HB hq_; have BK274 := n0_; have BK275 := n1_; have HB := n2_; clear n0_ n1_ n2_)); have hcz18_0 : w17.cell? ⟨gb274, 0, none⟩ = some (.int .i64 a0_0) := (blk_cell BK274.out 0).trans rfl; have hcz18_1 : w17.cell? ⟨gb274, 1, none⟩ = some (.slice A0_1 l0_1.length c0_1) := (blk_cell BK274.out 1).trans rfl; have hcz18_2 : w17.cell? ⟨gb274, 2, none⟩ = some (.slice A0_2 l0_2.length c0_2) := (blk_cell BK274.out 2).trans rfl; have hcz18_3 : w17.cell? ⟨gb274, 3, none⟩ = some (.slice A0_3 l0_3.length c0_3) := (blk_cell BK274.out 3).trans rfl; have hcz18_4 : w17.cell? ⟨gb274, 4, none⟩ = some (.slice A0_4 l0_4.length c0_4) := (blk_cell BK274.out 4).trans rfl; have hcz18_5 : w17.cell? ⟨gb274, 5, none⟩ = some (.slice A0_5 l0_5.length c0_5) := (blk_cell BK274.out 5).trans rfl; have hfz18_0 := blk_frozen BK274.out 0; have hfz18_1 := blk_frozen BK274.out 1; have hfz18_2 := blk_frozen BK274.out 2; have hfz18_3 := blk_frozen BK274.out 3; have hfz18_4 := blk_frozen BK274.out 4; have hfz18_5 := blk_frozen BK274.out 5) | ((with_reducible refine gate_callee (f := 26) rfl ?_); refine goesL_ (some 24) rfl rfl Try.func26 (by kernel_rfl) rfl #[.agg #[.int .i64 a0_0, .slice A0_1 l0_1.length c0_1, .slice A0_2 l0_2.length c0_2, .slice A0_3 l0_3.length c0_3, .slice A0_4 l0_4.length c0_4, .slice A0_5 l0_5.length c0_5], .int .i64 a1] rfl (by (try simp only [List.map_toArray, List.map_cons, List.map_nil]); first | done | rfl | (simp only [List.length_drop, List.length_take]; rfl)) ?_; (with_reducible refine (vector_at.calls a0_0 _ _ l0_1 _ _ l0_2 _ _ l0_3 _ _ l0_4 _ _ l0_5 a1 t280 t281 t282 _ ?side1 ?side2 ?side3 ?side4 ?side5 ?side6 ?side7 ?side8 ?side9 ?side10 A9.out).mono ?_); (case side1 => repeat (first | exact (Kd.C_below HR0_1.out HB.out) | (with_reducible refine Kd.C_alloc ?_ _) | (with_reducible refine Kd.C_drewN ?_ _) | (with_reducible refine Kd.C_drew ?_))); (case side2 => exact HC0_1.out); (case side3 => repeat (first | exact (Kd.C_below HR0_2.out HB.out) | (with_reducible refine Kd.C_alloc ?_ _) | (with_reducible refine Kd.C_drewN ?_ _) | (with_reducible refine Kd.C_drew ?_))); (case side4 => exact HC0_2.out); (case side5 => repeat (first | exact (Kd.C_below HR0_3.out HB.out) | (with_reducible refine Kd.C_alloc ?_ _) | (with_reducible refine Kd.C_drewN ?_ _) | (with_reducible refine Kd.C_drew ?_))); (case side6 => exact HC0_3.out); (case side7 => repeat (first | exact (Kd.C_below HR0_4.out HB.out) | (with_reducible refine Kd.C_alloc ?_ _) | (with_reducible refine Kd.C_drewN ?_ _) | (with_reducible refine Kd.C_drew ?_))); (case side8 => exact HC0_4.out); (case side9 => repeat (first | exact (Kd.C_below HR0_5.out HB.out) | (with_reducible refine Kd.C_alloc ?_ _) | (with_reducible refine Kd.C_drewN ?_ _) | (with_reducible refine Kd.C_drew ?_))); (case side10 => exact HC0_5.out); rintro e w19 ⟨rfl, hb⟩; refine ⟨_, rfl, ?_⟩; have n0_ := Aside0.mk (blk_below (g := gb274) (o := .cells #[.int .i64 a0_0, .slice A0_1 l0_1.length c0_1, .slice A0_2 l0_2.length c0_2, .slice A0_3 l0_3.length c0_3, .slice A0_4 l0_4.length c0_4, .slice A0_5 l0_5.length c0_5] 39 (0, 0)) (blk_u BK274.out) hb); have n1_ := Aside0.mk (blk_below (g := gb275) (o := .cells #[.int .i64 0, .int .i64 0, .string (⟨#[]⟩ : ByteArray)] 41 (0, 0)) (blk_u BK275.out) hb); have n2_ := Aside0.mk (below_step (by repeat (first | (with_reducible first | exact HB.out | apply below_alloc | apply pw_below_drewN | apply below_drew1 | refine below_set ?_ GE274.out | refine below_set ?_ GE275.out) | exact HB.out)) hb); clear BK274; clear BK275; clear HB; have BK274 := n0_; have BK275 := n1_; have HB := n2_; clear n0_ n1_ n2_; (try clear hb); (try clear hb2); (try clear hk); (try clear hi); have hcz20_0 : w19.cell? ⟨gb275, 0, none⟩ = some (.int .i64 0) := (blk_cell BK275.out 0).trans rfl; have hcz20_1 : w19.cell? ⟨gb275, 1, none⟩ = some (.int .i64 0) := (blk_cell BK275.out 1).trans rfl; have hcz20_2 : w19.cell? ⟨gb275, 2, none⟩ = some (.string (⟨#[]⟩ : ByteArray)) := (blk_cell BK275.out 2).trans rfl; have hfz20_0 := blk_frozen BK275.out 0; have hfz20_1 := blk_frozen BK275.out 1; have hfz20_2 := blk_frozen BK275.out 2))
      refine bodyPost_ret (results_ct rfl _ _ gb275 41 #[.int .i64 t280, .int .i64 t281, .string t282] (0, 0) _ rfl (by apply blk_u; refine blk_put (cs := #[.int .i64 t280, .int .i64 t281, .string (⟨#[]⟩ : ByteArray)]) ?_ 2 _ rfl; apply blk_u; refine blk_put (cs := #[.int .i64 t280, .int .i64 0, .string (⟨#[]⟩ : ByteArray)]) ?_ 1 _ rfl; apply blk_u; refine blk_put (cs := #[.int .i64 0, .int .i64 0, .string (⟨#[]⟩ : ByteArray)]) ?_ 0 _ rfl; apply blk_u; exact BK275.out) Try.underlying41 rfl (by kernel_rfl)) rfl ?_
      exact ⟨by first | rfl | (simp [errW_none, errW_some] <;> rfl) | (simp [*, errW_none, errW_some] <;> rfl), by repeat (first | (with_reducible first | exact HB.out | apply below_alloc | apply pw_below_drewN | apply below_drew1 | refine below_set ?_ GE274.out | refine below_set ?_ GE275.out) | exact HB.out)⟩
    · replace c8 := Bool.eq_false_iff.mpr c8
      subst c8
      have H1 : (some (0, 0, (⟨#[]⟩ : ByteArray), 1)) = some (r1, r2, r3, r4) := by rw [if_neg (show ¬ (false = true) by decide)] at H; exact H
      clear H
      have H := H1
      clear H1
      simp only [Option.some.injEq, Prod.mk.injEq] at H
      obtain ⟨rfl, rfl, rfl, rfl⟩ := H
      go_enter Try.func8, Try.ntmps8
      try go_wp2_with (first | ((with_reducible refine gate_dst (N := 2) rfl ?_); refine box_event ?hg (N := 2) ?hd (cs := #[.int .i64 a0_0, .slice A0_1 l0_1.length c0_1, .slice A0_2 l0_2.length c0_2, .slice A0_3 l0_3.length c0_3, .slice A0_4 l0_4.length c0_4, .slice A0_5 l0_5.length c0_5]) (t := 39) ?hr ?_; (case hd => rfl); (case hg => rfl); (case hr => first | (go_simp; done) | (go_simp; rfl)); intro gb274 hg w21 hbox hb; have n0_ := Aside0.mk (below_step (below_u HB.out) hb); have n1_ := Aside0.mk (hbox); have n2_ := Aside0.mk ((by rw [hg]; exact (below_size (below_u HB.out)) : w.heap.size ≤ gb274)); have n3_ := Aside0.mk ((by rw [hg]; exact (below_size (below_u HB.out)) : w.heap.size ≤ gb274)); clear HB; have HB := n0_; have BK274 := n1_; have GW274 := n2_; have GE274 := n3_; clear n0_ n1_ n2_ n3_; clear hb hbox hg) | ((with_reducible refine gate_dst (N := 4) rfl ?_); refine box_event ?hg (N := 4) ?hd (cs := #[.int .i64 0, .int .i64 0, .string (⟨#[]⟩ : ByteArray)]) (t := 41) ?hr ?_; (case hd => rfl); (case hg => rfl); (case hr => first | (go_simp; done) | (go_simp; rfl)); intro gb275 hg w22 hbox hb; have n0_ := Aside0.mk (blk_below (g := gb274) (o := .cells #[.int .i64 a0_0, .slice A0_1 l0_1.length c0_1, .slice A0_2 l0_2.length c0_2, .slice A0_3 l0_3.length c0_3, .slice A0_4 l0_4.length c0_4, .slice A0_5 l0_5.length c0_5] 39 (0, 0)) (blk_u BK274.out) hb); have n1_ := Aside0.mk (below_step (by repeat (first | (with_reducible first | exact HB.out | apply below_alloc | apply pw_below_drewN | apply below_drew1 | refine below_set ?_ GE274.out) | exact HB.out)) hb); have n2_ := Aside0.mk (hbox); have n3_ := Aside0.mk ((by rw [hg]; exact (below_size (by repeat (first | (with_reducible first | exact HB.out | apply below_alloc | apply pw_below_drewN | apply below_drew1 | refine below_set ?_ GE274.out) | exact HB.out))) : w.heap.size ≤ gb275)); have n4_ := Aside0.mk ((by rw [hg]; exact (below_size (by repeat (first | (with_reducible first | exact HB.out | apply below_alloc | apply pw_below_drewN | apply below_drew1 | refine below_set ?_ GE274.out) | exact HB.out))) : w.heap.size ≤ gb275)); have n5_ := Aside0.mk ((by rw [hg]; exact Nat.ne_of_lt (blk_lt (g := gb274) (o := .cells #[.int .i64 a0_0, .slice A0_1 l0_1.length c0_1, .slice A0_2 l0_2.length c0_2, .slice A0_3 l0_3.length c0_3, .slice A0_4 l0_4.length c0_4, .slice A0_5 l0_5.length c0_5] 39 (0, 0)) (blk_u BK274.out)) : gb274 ≠ gb275)); have n6_ := Aside0.mk ((by rw [hg]; exact Nat.ne_of_gt (blk_lt (g := gb274) (o := .cells #[.int .i64 a0_0, .slice A0_1 l0_1.length c0_1, .slice A0_2 l0_2.length c0_2, .slice A0_3 l0_3.length c0_3, .slice A0_4 l0_4.length c0_4, .slice A0_5 l0_5.length c0_5] 39 (0, 0)) (blk_u BK274.out)) : gb275 ≠ gb274)); clear BK274; clear HB; have BK274 := n0_; have HB := n1_; have BK275 := n2_; have GW275 := n3_; have GE275 := n4_; have NB274_275 := n5_; have NB275_274 := n6_; clear n0_ n1_ n2_ n3_ n4_ n5_ n6_; clear hb hbox hg))
      have n0_ := Aside0.mk (blk_drew BK274.out)
      have n1_ := Aside0.mk (blk_drew BK275.out)
      have n2_ := Aside0.mk (below_drew1 HB.out)
      clear BK274
      clear BK275
      clear HB
      have BK274 := n0_
      have BK275 := n1_
      have HB := n2_
      clear n0_ n1_ n2_
      refine start_ (n := 5) (S := fun w' => w'.cell? ⟨gb274, 0, none⟩ = some (.int .i64 a0_0) ∧ w'.cell? ⟨gb274, 1, none⟩ = some (.slice A0_1 l0_1.length c0_1) ∧ w'.cell? ⟨gb274, 2, none⟩ = some (.slice A0_2 l0_2.length c0_2) ∧ w'.cell? ⟨gb274, 3, none⟩ = some (.slice A0_3 l0_3.length c0_3) ∧ w'.cell? ⟨gb274, 4, none⟩ = some (.slice A0_4 l0_4.length c0_4) ∧ w'.cell? ⟨gb274, 5, none⟩ = some (.slice A0_5 l0_5.length c0_5)) (ds := []) #[false, false, false, false, false] (by kernel_rfl) rfl rfl ⟨(blk_cell BK274.out 0).trans rfl, (blk_cell BK274.out 1).trans rfl, (blk_cell BK274.out 2).trans rfl, (blk_cell BK274.out 3).trans rfl, (blk_cell BK274.out 4).trans rfl, (blk_cell BK274.out 5).trans rfl⟩ (fun hHeld => ?_)
      generalize w22.drew = w23 at BK274 BK275 HB hHeld ⊢
      refine take_ (i := 0) (N := some 7) (v := ?_) (a' := ?_) #[true, false, false, false, false] rfl rfl (by kernel_rfl) (fun _ _ _ h => h) (Or.inl ⟨by rfl, ?_⟩) hHeld ?_ ?_
      rotate_left
      · rintro w' ⟨s0, s1, s2, s3, s4, s5⟩
        go_simp
        with_reducible rfl
      rotate_left
      · simp only [Act.put, List.setIfInBounds_toArray, List.set_cons_zero, List.set_cons_succ, i64_w, i32_w]
        rfl
      refine take_ (i := 1) (N := some 8) (v := ?_) (a' := ?_) #[true, true, false, false, false] rfl rfl (by kernel_rfl) (fun _ _ _ h => h) (Or.inl ⟨by rfl, ?_⟩) hHeld ?_ ?_
      rotate_left
      · rintro w' ⟨s0, s1, s2, s3, s4, s5⟩
        go_simp
        with_reducible rfl
      rotate_left
      · simp only [Act.put, List.setIfInBounds_toArray, List.set_cons_zero, List.set_cons_succ, i64_w, i32_w]
        rfl
      refine one_ (i := 2) (N := some 9) #[true, true, true, false, false] rfl rfl (by kernel_rfl) (by decide) (fun K hK => ?_)
      refine goes_ Try.func24 (by kernel_rfl) rfl #[.agg #[.int .i64 a0_0, .slice A0_1 l0_1.length c0_1, .slice A0_2 l0_2.length c0_2, .slice A0_3 l0_3.length c0_3, .slice A0_4 l0_4.length c0_4, .slice A0_5 l0_5.length c0_5]] (by rfl) rfl rfl (by (try simp only [List.map_toArray, List.map_cons, List.map_nil]); first | done | rfl | (simp only [List.length_drop, List.length_take]; rfl)) ?_
      with_reducible refine (vector_long.calls a0_0 _ _ l0_1 _ _ l0_2 _ _ l0_3 _ _ l0_4 _ _ l0_5 t276 _ ?side1 ?side2 ?side3 ?side4 ?side5 ?side6 ?side7 ?side8 ?side9 ?side10 A3.out).mono ?_
      (case side1 => repeat (first | exact (Kd.C_below HR0_1.out HB.out) | (with_reducible refine Kd.C_alloc ?_ _) | (with_reducible refine Kd.C_drewN ?_ _) | (with_reducible refine Kd.C_drew ?_)))
      (case side2 => exact HC0_1.out)
      (case side3 => repeat (first | exact (Kd.C_below HR0_2.out HB.out) | (with_reducible refine Kd.C_alloc ?_ _) | (with_reducible refine Kd.C_drewN ?_ _) | (with_reducible refine Kd.C_drew ?_)))
      (case side4 => exact HC0_2.out)
      (case side5 => repeat (first | exact (Kd.C_below HR0_3.out HB.out) | (with_reducible refine Kd.C_alloc ?_ _) | (with_reducible refine Kd.C_drewN ?_ _) | (with_reducible refine Kd.C_drew ?_)))
      (case side6 => exact HC0_3.out)
      (case side7 => repeat (first | exact (Kd.C_below HR0_4.out HB.out) | (with_reducible refine Kd.C_alloc ?_ _) | (with_reducible refine Kd.C_drewN ?_ _) | (with_reducible refine Kd.C_drew ?_)))
      (case side8 => exact HC0_4.out)
      (case side9 => repeat (first | exact (Kd.C_below HR0_5.out HB.out) | (with_reducible refine Kd.C_alloc ?_ _) | (with_reducible refine Kd.C_drewN ?_ _) | (with_reducible refine Kd.C_drew ?_)))
      (case side10 => exact HC0_5.out)
      rintro e w24 ⟨rfl, hb⟩
      refine ⟨_, rfl, ?_⟩
      have n0_ := Aside0.mk (blk_below (g := gb274) (o := .cells #[.int .i64 a0_0, .slice A0_1 l0_1.length c0_1, .slice A0_2 l0_2.length c0_2, .slice A0_3 l0_3.length c0_3, .slice A0_4 l0_4.length c0_4, .slice A0_5 l0_5.length c0_5] 39 (0, 0)) (blk_u BK274.out) hb)
      have n1_ := Aside0.mk (blk_below (g := gb275) (o := .cells #[.int .i64 0, .int .i64 0, .string (⟨#[]⟩ : ByteArray)] 41 (0, 0)) (blk_u BK275.out) hb)
      have n2_ := Aside0.mk (below_step (by repeat (first | (with_reducible first | exact HB.out | apply below_alloc | apply pw_below_drewN | apply below_drew1 | refine below_set ?_ GE274.out | refine below_set ?_ GE275.out) | exact HB.out)) hb)
      clear BK274
      clear BK275
      clear HB
      have BK274 := n0_
      have BK275 := n1_
      have HB := n2_
      clear n0_ n1_ n2_
      (try clear hb)
      (try clear hb2)
      (try clear hk)
      (try clear hi)
      refine hK.out _ _ ⟨(blk_cell BK274.out 0).trans rfl, (blk_cell BK274.out 1).trans rfl, (blk_cell BK274.out 2).trans rfl, (blk_cell BK274.out 3).trans rfl, (blk_cell BK274.out 4).trans rfl, (blk_cell BK274.out 5).trans rfl⟩ (fun hHeld => ?_)
      clear hK K
      refine norm_ (a' := ?_) ?_ ?_
      rotate_left
      · show Act.put _ (some 9) _ = _
        simp only [Act.put, List.setIfInBounds_toArray, List.set_cons_zero, List.set_cons_succ, i64_w, i32_w]
        rfl
      refine one_ (i := 3) (N := some 10) #[true, true, true, true, false] rfl rfl (by kernel_rfl) (by decide) (fun K hK => ?_)
      refine goes_ Try.func23 (by kernel_rfl) rfl #[.agg #[.int .i64 a0_0, .slice A0_1 l0_1.length c0_1, .slice A0_2 l0_2.length c0_2, .slice A0_3 l0_3.length c0_3, .slice A0_4 l0_4.length c0_4, .slice A0_5 l0_5.length c0_5], .int .i64 t276] (by rfl) rfl rfl (by (try simp only [List.map_toArray, List.map_cons, List.map_nil]); first | done | rfl | (simp only [List.length_drop, List.length_take]; rfl)) ?_
      with_reducible refine (vector_CheckVector.calls k a0_0 _ _ l0_1 _ _ l0_2 _ _ l0_3 _ _ l0_4 _ _ l0_5 t276 t277 _ ?side1 ?side2 ?side3 ?side4 ?side5 ?side6 ?side7 ?side8 ?side9 ?side10 A4.out).mono ?_
      (case side1 => repeat (first | exact (Kd.C_below HR0_1.out HB.out) | (with_reducible refine Kd.C_alloc ?_ _) | (with_reducible refine Kd.C_drewN ?_ _) | (with_reducible refine Kd.C_drew ?_)))
      (case side2 => exact HC0_1.out)
      (case side3 => repeat (first | exact (Kd.C_below HR0_2.out HB.out) | (with_reducible refine Kd.C_alloc ?_ _) | (with_reducible refine Kd.C_drewN ?_ _) | (with_reducible refine Kd.C_drew ?_)))
      (case side4 => exact HC0_2.out)
      (case side5 => repeat (first | exact (Kd.C_below HR0_3.out HB.out) | (with_reducible refine Kd.C_alloc ?_ _) | (with_reducible refine Kd.C_drewN ?_ _) | (with_reducible refine Kd.C_drew ?_)))
      (case side6 => exact HC0_3.out)
      (case side7 => repeat (first | exact (Kd.C_below HR0_4.out HB.out) | (with_reducible refine Kd.C_alloc ?_ _) | (with_reducible refine Kd.C_drewN ?_ _) | (with_reducible refine Kd.C_drew ?_)))
      (case side8 => exact HC0_4.out)
      (case side9 => repeat (first | exact (Kd.C_below HR0_5.out HB.out) | (with_reducible refine Kd.C_alloc ?_ _) | (with_reducible refine Kd.C_drewN ?_ _) | (with_reducible refine Kd.C_drew ?_)))
      (case side10 => exact HC0_5.out)
      rintro e w25 ⟨rfl, hb⟩
      refine ⟨_, rfl, ?_⟩
      have n0_ := Aside0.mk (blk_below (g := gb274) (o := .cells #[.int .i64 a0_0, .slice A0_1 l0_1.length c0_1, .slice A0_2 l0_2.length c0_2, .slice A0_3 l0_3.length c0_3, .slice A0_4 l0_4.length c0_4, .slice A0_5 l0_5.length c0_5] 39 (0, 0)) (blk_u BK274.out) hb)
      have n1_ := Aside0.mk (blk_below (g := gb275) (o := .cells #[.int .i64 0, .int .i64 0, .string (⟨#[]⟩ : ByteArray)] 41 (0, 0)) (blk_u BK275.out) hb)
      have n2_ := Aside0.mk (below_step (by repeat (first | (with_reducible first | exact HB.out | apply below_alloc | apply pw_below_drewN | apply below_drew1 | refine below_set ?_ GE274.out | refine below_set ?_ GE275.out) | exact HB.out)) hb)
      clear BK274
      clear BK275
      clear HB
      have BK274 := n0_
      have BK275 := n1_
      have HB := n2_
      clear n0_ n1_ n2_
      (try clear hb)
      (try clear hb2)
      (try clear hk)
      (try clear hi)
      refine hK.out _ _ ⟨(blk_cell BK274.out 0).trans rfl, (blk_cell BK274.out 1).trans rfl, (blk_cell BK274.out 2).trans rfl, (blk_cell BK274.out 3).trans rfl, (blk_cell BK274.out 4).trans rfl, (blk_cell BK274.out 5).trans rfl⟩ (fun hHeld => ?_)
      clear hK K
      refine norm_ (a' := ?_) ?_ ?_
      rotate_left
      · show Act.put _ (some 10) _ = _
        simp only [Act.put, List.setIfInBounds_toArray, List.set_cons_zero, List.set_cons_succ, i64_w, i32_w]
        rfl
      refine pure_ (i := 4) (N := some 6) (v := ?_) (a' := ?_) #[true, true, true, true, true] rfl rfl (by kernel_rfl) (fun _ _ _ h => h) (Or.inl ⟨by rfl, ?_⟩) ?_ ?_
      rotate_left
      · intro w'
        go_simp
        with_reducible rfl
      rotate_left
      · simp only [Act.put, List.setIfInBounds_toArray, List.set_cons_zero, List.set_cons_succ, i64_w, i32_w]
        rfl
      refine done_ (by kernel_rfl) ?_
      have hnb26 := NB274_275.out
      have hnc26 := NB275_274.out
      have hcz27_0 : w25.cell? ⟨gb274, 0, none⟩ = some (.int .i64 a0_0) := (blk_cell BK274.out 0).trans rfl
      have hcz27_1 : w25.cell? ⟨gb274, 1, none⟩ = some (.slice A0_1 l0_1.length c0_1) := (blk_cell BK274.out 1).trans rfl
      have hcz27_2 : w25.cell? ⟨gb274, 2, none⟩ = some (.slice A0_2 l0_2.length c0_2) := (blk_cell BK274.out 2).trans rfl
      have hcz27_3 : w25.cell? ⟨gb274, 3, none⟩ = some (.slice A0_3 l0_3.length c0_3) := (blk_cell BK274.out 3).trans rfl
      have hcz27_4 : w25.cell? ⟨gb274, 4, none⟩ = some (.slice A0_4 l0_4.length c0_4) := (blk_cell BK274.out 4).trans rfl
      have hcz27_5 : w25.cell? ⟨gb274, 5, none⟩ = some (.slice A0_5 l0_5.length c0_5) := (blk_cell BK274.out 5).trans rfl
      have hfz27_0 := blk_frozen BK274.out 0
      have hfz27_1 := blk_frozen BK274.out 1
      have hfz27_2 := blk_frozen BK274.out 2
      have hfz27_3 := blk_frozen BK274.out 3
      have hfz27_4 := blk_frozen BK274.out 4
      have hfz27_5 := blk_frozen BK274.out 5
      try go_wp2_with (first | ((with_reducible refine gate_callee (f := 24) rfl ?_); refine goesL_ (some 17) rfl rfl Try.func24 (by kernel_rfl) rfl #[.agg #[.int .i64 a0_0, .slice A0_1 l0_1.length c0_1, .slice A0_2 l0_2.length c0_2, .slice A0_3 l0_3.length c0_3, .slice A0_4 l0_4.length c0_4, .slice A0_5 l0_5.length c0_5]] rfl (by (try simp only [List.map_toArray, List.map_cons, List.map_nil]); first | done | rfl | (simp only [List.length_drop, List.length_take]; rfl)) ?_; (with_reducible refine (vector_long.calls a0_0 _ _ l0_1 _ _ l0_2 _ _ l0_3 _ _ l0_4 _ _ l0_5 t278 _ ?side1 ?side2 ?side3 ?side4 ?side5 ?side6 ?side7 ?side8 ?side9 ?side10 A6.out).mono ?_); (case side1 => repeat (first | exact (Kd.C_below HR0_1.out HB.out) | (with_reducible refine Kd.C_alloc ?_ _) | (with_reducible refine Kd.C_drewN ?_ _) | (with_reducible refine Kd.C_drew ?_))); (case side2 => exact HC0_1.out); (case side3 => repeat (first | exact (Kd.C_below HR0_2.out HB.out) | (with_reducible refine Kd.C_alloc ?_ _) | (with_reducible refine Kd.C_drewN ?_ _) | (with_reducible refine Kd.C_drew ?_))); (case side4 => exact HC0_2.out); (case side5 => repeat (first | exact (Kd.C_below HR0_3.out HB.out) | (with_reducible refine Kd.C_alloc ?_ _) | (with_reducible refine Kd.C_drewN ?_ _) | (with_reducible refine Kd.C_drew ?_))); (case side6 => exact HC0_3.out); (case side7 => repeat (first | exact (Kd.C_below HR0_4.out HB.out) | (with_reducible refine Kd.C_alloc ?_ _) | (with_reducible refine Kd.C_drewN ?_ _) | (with_reducible refine Kd.C_drew ?_))); (case side8 => exact HC0_4.out); (case side9 => repeat (first | exact (Kd.C_below HR0_5.out HB.out) | (with_reducible refine Kd.C_alloc ?_ _) | (with_reducible refine Kd.C_drewN ?_ _) | (with_reducible refine Kd.C_drew ?_))); (case side10 => exact HC0_5.out); rintro e w28 ⟨rfl, hb⟩; refine ⟨_, rfl, ?_⟩; have n0_ := Aside0.mk (blk_below (g := gb274) (o := .cells #[.int .i64 a0_0, .slice A0_1 l0_1.length c0_1, .slice A0_2 l0_2.length c0_2, .slice A0_3 l0_3.length c0_3, .slice A0_4 l0_4.length c0_4, .slice A0_5 l0_5.length c0_5] 39 (0, 0)) (blk_u BK274.out) hb); have n1_ := Aside0.mk (blk_below (g := gb275) (o := .cells #[.int .i64 0, .int .i64 0, .string (⟨#[]⟩ : ByteArray)] 41 (0, 0)) (blk_u BK275.out) hb); have n2_ := Aside0.mk (below_step (by repeat (first | (with_reducible first | exact HB.out | apply below_alloc | apply pw_below_drewN | apply below_drew1 | refine below_set ?_ GE274.out | refine below_set ?_ GE275.out) | exact HB.out)) hb); clear BK274; clear BK275; clear HB; have BK274 := n0_; have BK275 := n1_; have HB := n2_; clear n0_ n1_ n2_; (try clear hb); (try clear hb2); (try clear hk); (try clear hi)) | ((with_reducible refine gate_callee (f := 25) rfl ?_); refine goesL_ (some 19) rfl rfl Try.func25 (by kernel_rfl) rfl #[.int .i64 a1, .int .i64 0, .int .i64 (wrap64 (t278 - 1))] rfl (by (try simp only [List.map_toArray, List.map_cons, List.map_nil]); first | done | rfl | (simp only [List.length_drop, List.length_take]; rfl)) ?_; (with_reducible refine (kit_In.calls a1 0 (wrap64 (t278 - 1)) false _ A7.out).mono ?_); rintro e w' ⟨rfl, ⟨nd, rfl⟩⟩; refine ⟨_, rfl, ?_⟩; (try (rw [drewN_self w28]; generalize hq_ : World.drewN w28 _ = w28; have n0_ : Aside0 (w28.heap[gb274]? = some (.cells #[.int .i64 a0_0, .slice A0_1 l0_1.length c0_1, .slice A0_2 l0_2.length c0_2, .slice A0_3 l0_3.length c0_3, .slice A0_4 l0_4.length c0_4, .slice A0_5 l0_5.length c0_5] 39 (0, 0))) := ⟨by rw [← hq_]; exact (blk_u BK274.out)⟩; have n1_ : Aside0 (w28.heap[gb275]? = some (.cells #[.int .i64 0, .int .i64 0, .string (⟨#[]⟩ : ByteArray)] 41 (0, 0))) := ⟨by rw [← hq_]; exact (blk_u BK275.out)⟩; have n2_ : Aside0 (Below w.heap.size w w28) := ⟨by rw [← hq_]; exact (by repeat (first | (with_reducible first | exact HB.out | apply below_alloc | apply pw_below_drewN | apply below_drew1 | refine below_set ?_ GE274.out | refine below_set ?_ GE275.out) | exact HB.out))⟩; clear BK274 BK275 HB hq_; have BK274 := n0_; have BK275 := n1_; have HB := n2_; clear n0_ n1_ n2_)); have hcz29_0 : w28.cell? ⟨gb275, 0, none⟩ = some (.int .i64 0) := (blk_cell BK275.out 0).trans rfl; have hcz29_1 : w28.cell? ⟨gb275, 1, none⟩ = some (.int .i64 0) := (blk_cell BK275.out 1).trans rfl; have hcz29_2 : w28.cell? ⟨gb275, 2, none⟩ = some (.string (⟨#[]⟩ : ByteArray)) := (blk_cell BK275.out 2).trans rfl; have hfz29_0 := blk_frozen BK275.out 0; have hfz29_1 := blk_frozen BK275.out 1; have hfz29_2 := blk_frozen BK275.out 2))
      refine bodyPost_ret (results_ct rfl _ _ gb275 41 #[.int .i64 0, .int .i64 0, .string (⟨#[]⟩ : ByteArray)] (0, 0) _ rfl (by apply blk_u; refine blk_put (cs := #[.int .i64 0, .int .i64 0, .string (⟨#[]⟩ : ByteArray)]) ?_ 2 _ rfl; apply blk_u; refine blk_put (cs := #[.int .i64 0, .int .i64 0, .string (⟨#[]⟩ : ByteArray)]) ?_ 1 _ rfl; apply blk_u; refine blk_put (cs := #[.int .i64 0, .int .i64 0, .string (⟨#[]⟩ : ByteArray)]) ?_ 0 _ rfl; apply blk_u; exact BK275.out) Try.underlying41 rfl (by kernel_rfl)) rfl ?_
      exact ⟨by first | rfl | (simp [errW_none, errW_some] <;> rfl) | (simp [*, errW_none, errW_some] <;> rfl), by repeat (first | (with_reducible first | exact HB.out | apply below_alloc | apply pw_below_drewN | apply below_drew1 | refine below_set ?_ GE274.out | refine below_set ?_ GE275.out) | exact HB.out)⟩
  · rw [if_neg c5] at H
    have c5b0 : (t277 == 0) = false := beq_eq_false_iff_ne.mpr c5
    have c5b1 : (t277 != 0) = true := bne_iff_ne.mpr c5
    simp only [Option.some.injEq, Prod.mk.injEq] at H
    obtain ⟨rfl, rfl, rfl, rfl⟩ := H
    go_enter Try.func8, Try.ntmps8
    try go_wp2_with (first | ((with_reducible refine gate_dst (N := 2) rfl ?_); refine box_event ?hg (N := 2) ?hd (cs := #[.int .i64 a0_0, .slice A0_1 l0_1.length c0_1, .slice A0_2 l0_2.length c0_2, .slice A0_3 l0_3.length c0_3, .slice A0_4 l0_4.length c0_4, .slice A0_5 l0_5.length c0_5]) (t := 39) ?hr ?_; (case hd => rfl); (case hg => rfl); (case hr => first | (go_simp; done) | (go_simp; rfl)); intro gb274 hg w30 hbox hb; have n0_ := Aside0.mk (below_step (below_u HB.out) hb); have n1_ := Aside0.mk (hbox); have n2_ := Aside0.mk ((by rw [hg]; exact (below_size (below_u HB.out)) : w.heap.size ≤ gb274)); have n3_ := Aside0.mk ((by rw [hg]; exact (below_size (below_u HB.out)) : w.heap.size ≤ gb274)); clear HB; have HB := n0_; have BK274 := n1_; have GW274 := n2_; have GE274 := n3_; clear n0_ n1_ n2_ n3_; clear hb hbox hg) | ((with_reducible refine gate_dst (N := 4) rfl ?_); refine box_event ?hg (N := 4) ?hd (cs := #[.int .i64 0, .int .i64 0, .string (⟨#[]⟩ : ByteArray)]) (t := 41) ?hr ?_; (case hd => rfl); (case hg => rfl); (case hr => first | (go_simp; done) | (go_simp; rfl)); intro gb275 hg w31 hbox hb; have n0_ := Aside0.mk (blk_below (g := gb274) (o := .cells #[.int .i64 a0_0, .slice A0_1 l0_1.length c0_1, .slice A0_2 l0_2.length c0_2, .slice A0_3 l0_3.length c0_3, .slice A0_4 l0_4.length c0_4, .slice A0_5 l0_5.length c0_5] 39 (0, 0)) (blk_u BK274.out) hb); have n1_ := Aside0.mk (below_step (by repeat (first | (with_reducible first | exact HB.out | apply below_alloc | apply pw_below_drewN | apply below_drew1 | refine below_set ?_ GE274.out) | exact HB.out)) hb); have n2_ := Aside0.mk (hbox); have n3_ := Aside0.mk ((by rw [hg]; exact (below_size (by repeat (first | (with_reducible first | exact HB.out | apply below_alloc | apply pw_below_drewN | apply below_drew1 | refine below_set ?_ GE274.out) | exact HB.out))) : w.heap.size ≤ gb275)); have n4_ := Aside0.mk ((by rw [hg]; exact (below_size (by repeat (first | (with_reducible first | exact HB.out | apply below_alloc | apply pw_below_drewN | apply below_drew1 | refine below_set ?_ GE274.out) | exact HB.out))) : w.heap.size ≤ gb275)); have n5_ := Aside0.mk ((by rw [hg]; exact Nat.ne_of_lt (blk_lt (g := gb274) (o := .cells #[.int .i64 a0_0, .slice A0_1 l0_1.length c0_1, .slice A0_2 l0_2.length c0_2, .slice A0_3 l0_3.length c0_3, .slice A0_4 l0_4.length c0_4, .slice A0_5 l0_5.length c0_5] 39 (0, 0)) (blk_u BK274.out)) : gb274 ≠ gb275)); have n6_ := Aside0.mk ((by rw [hg]; exact Nat.ne_of_gt (blk_lt (g := gb274) (o := .cells #[.int .i64 a0_0, .slice A0_1 l0_1.length c0_1, .slice A0_2 l0_2.length c0_2, .slice A0_3 l0_3.length c0_3, .slice A0_4 l0_4.length c0_4, .slice A0_5 l0_5.length c0_5] 39 (0, 0)) (blk_u BK274.out)) : gb275 ≠ gb274)); clear BK274; clear HB; have BK274 := n0_; have HB := n1_; have BK275 := n2_; have GW275 := n3_; have GE275 := n4_; have NB274_275 := n5_; have NB275_274 := n6_; clear n0_ n1_ n2_ n3_ n4_ n5_ n6_; clear hb hbox hg))
    have n0_ := Aside0.mk (blk_drew BK274.out)
    have n1_ := Aside0.mk (blk_drew BK275.out)
    have n2_ := Aside0.mk (below_drew1 HB.out)
    clear BK274
    clear BK275
    clear HB
    have BK274 := n0_
    have BK275 := n1_
    have HB := n2_
    clear n0_ n1_ n2_
    refine start_ (n := 5) (S := fun w' => w'.cell? ⟨gb274, 0, none⟩ = some (.int .i64 a0_0) ∧ w'.cell? ⟨gb274, 1, none⟩ = some (.slice A0_1 l0_1.length c0_1) ∧ w'.cell? ⟨gb274, 2, none⟩ = some (.slice A0_2 l0_2.length c0_2) ∧ w'.cell? ⟨gb274, 3, none⟩ = some (.slice A0_3 l0_3.length c0_3) ∧ w'.cell? ⟨gb274, 4, none⟩ = some (.slice A0_4 l0_4.length c0_4) ∧ w'.cell? ⟨gb274, 5, none⟩ = some (.slice A0_5 l0_5.length c0_5)) (ds := []) #[false, false, false, false, false] (by kernel_rfl) rfl rfl ⟨(blk_cell BK274.out 0).trans rfl, (blk_cell BK274.out 1).trans rfl, (blk_cell BK274.out 2).trans rfl, (blk_cell BK274.out 3).trans rfl, (blk_cell BK274.out 4).trans rfl, (blk_cell BK274.out 5).trans rfl⟩ (fun hHeld => ?_)
    generalize w31.drew = w32 at BK274 BK275 HB hHeld ⊢
    refine take_ (i := 0) (N := some 7) (v := ?_) (a' := ?_) #[true, false, false, false, false] rfl rfl (by kernel_rfl) (fun _ _ _ h => h) (Or.inl ⟨by rfl, ?_⟩) hHeld ?_ ?_
    rotate_left
    · rintro w' ⟨s0, s1, s2, s3, s4, s5⟩
      go_simp
      with_reducible rfl
    rotate_left
    · simp only [Act.put, List.setIfInBounds_toArray, List.set_cons_zero, List.set_cons_succ, i64_w, i32_w]
      rfl
    refine take_ (i := 1) (N := some 8) (v := ?_) (a' := ?_) #[true, true, false, false, false] rfl rfl (by kernel_rfl) (fun _ _ _ h => h) (Or.inl ⟨by rfl, ?_⟩) hHeld ?_ ?_
    rotate_left
    · rintro w' ⟨s0, s1, s2, s3, s4, s5⟩
      go_simp
      with_reducible rfl
    rotate_left
    · simp only [Act.put, List.setIfInBounds_toArray, List.set_cons_zero, List.set_cons_succ, i64_w, i32_w]
      rfl
    refine one_ (i := 2) (N := some 9) #[true, true, true, false, false] rfl rfl (by kernel_rfl) (by decide) (fun K hK => ?_)
    refine goes_ Try.func24 (by kernel_rfl) rfl #[.agg #[.int .i64 a0_0, .slice A0_1 l0_1.length c0_1, .slice A0_2 l0_2.length c0_2, .slice A0_3 l0_3.length c0_3, .slice A0_4 l0_4.length c0_4, .slice A0_5 l0_5.length c0_5]] (by rfl) rfl rfl (by (try simp only [List.map_toArray, List.map_cons, List.map_nil]); first | done | rfl | (simp only [List.length_drop, List.length_take]; rfl)) ?_
    with_reducible refine (vector_long.calls a0_0 _ _ l0_1 _ _ l0_2 _ _ l0_3 _ _ l0_4 _ _ l0_5 t276 _ ?side1 ?side2 ?side3 ?side4 ?side5 ?side6 ?side7 ?side8 ?side9 ?side10 A3.out).mono ?_
    (case side1 => repeat (first | exact (Kd.C_below HR0_1.out HB.out) | (with_reducible refine Kd.C_alloc ?_ _) | (with_reducible refine Kd.C_drewN ?_ _) | (with_reducible refine Kd.C_drew ?_)))
    (case side2 => exact HC0_1.out)
    (case side3 => repeat (first | exact (Kd.C_below HR0_2.out HB.out) | (with_reducible refine Kd.C_alloc ?_ _) | (with_reducible refine Kd.C_drewN ?_ _) | (with_reducible refine Kd.C_drew ?_)))
    (case side4 => exact HC0_2.out)
    (case side5 => repeat (first | exact (Kd.C_below HR0_3.out HB.out) | (with_reducible refine Kd.C_alloc ?_ _) | (with_reducible refine Kd.C_drewN ?_ _) | (with_reducible refine Kd.C_drew ?_)))
    (case side6 => exact HC0_3.out)
    (case side7 => repeat (first | exact (Kd.C_below HR0_4.out HB.out) | (with_reducible refine Kd.C_alloc ?_ _) | (with_reducible refine Kd.C_drewN ?_ _) | (with_reducible refine Kd.C_drew ?_)))
    (case side8 => exact HC0_4.out)
    (case side9 => repeat (first | exact (Kd.C_below HR0_5.out HB.out) | (with_reducible refine Kd.C_alloc ?_ _) | (with_reducible refine Kd.C_drewN ?_ _) | (with_reducible refine Kd.C_drew ?_)))
    (case side10 => exact HC0_5.out)
    rintro e w33 ⟨rfl, hb⟩
    refine ⟨_, rfl, ?_⟩
    have n0_ := Aside0.mk (blk_below (g := gb274) (o := .cells #[.int .i64 a0_0, .slice A0_1 l0_1.length c0_1, .slice A0_2 l0_2.length c0_2, .slice A0_3 l0_3.length c0_3, .slice A0_4 l0_4.length c0_4, .slice A0_5 l0_5.length c0_5] 39 (0, 0)) (blk_u BK274.out) hb)
    have n1_ := Aside0.mk (blk_below (g := gb275) (o := .cells #[.int .i64 0, .int .i64 0, .string (⟨#[]⟩ : ByteArray)] 41 (0, 0)) (blk_u BK275.out) hb)
    have n2_ := Aside0.mk (below_step (by repeat (first | (with_reducible first | exact HB.out | apply below_alloc | apply pw_below_drewN | apply below_drew1 | refine below_set ?_ GE274.out | refine below_set ?_ GE275.out) | exact HB.out)) hb)
    clear BK274
    clear BK275
    clear HB
    have BK274 := n0_
    have BK275 := n1_
    have HB := n2_
    clear n0_ n1_ n2_
    (try clear hb)
    (try clear hb2)
    (try clear hk)
    (try clear hi)
    refine hK.out _ _ ⟨(blk_cell BK274.out 0).trans rfl, (blk_cell BK274.out 1).trans rfl, (blk_cell BK274.out 2).trans rfl, (blk_cell BK274.out 3).trans rfl, (blk_cell BK274.out 4).trans rfl, (blk_cell BK274.out 5).trans rfl⟩ (fun hHeld => ?_)
    clear hK K
    refine norm_ (a' := ?_) ?_ ?_
    rotate_left
    · show Act.put _ (some 9) _ = _
      simp only [Act.put, List.setIfInBounds_toArray, List.set_cons_zero, List.set_cons_succ, i64_w, i32_w]
      rfl
    refine one_ (i := 3) (N := some 10) #[true, true, true, true, false] rfl rfl (by kernel_rfl) (by decide) (fun K hK => ?_)
    refine goes_ Try.func23 (by kernel_rfl) rfl #[.agg #[.int .i64 a0_0, .slice A0_1 l0_1.length c0_1, .slice A0_2 l0_2.length c0_2, .slice A0_3 l0_3.length c0_3, .slice A0_4 l0_4.length c0_4, .slice A0_5 l0_5.length c0_5], .int .i64 t276] (by rfl) rfl rfl (by (try simp only [List.map_toArray, List.map_cons, List.map_nil]); first | done | rfl | (simp only [List.length_drop, List.length_take]; rfl)) ?_
    with_reducible refine (vector_CheckVector.calls k a0_0 _ _ l0_1 _ _ l0_2 _ _ l0_3 _ _ l0_4 _ _ l0_5 t276 t277 _ ?side1 ?side2 ?side3 ?side4 ?side5 ?side6 ?side7 ?side8 ?side9 ?side10 A4.out).mono ?_
    (case side1 => repeat (first | exact (Kd.C_below HR0_1.out HB.out) | (with_reducible refine Kd.C_alloc ?_ _) | (with_reducible refine Kd.C_drewN ?_ _) | (with_reducible refine Kd.C_drew ?_)))
    (case side2 => exact HC0_1.out)
    (case side3 => repeat (first | exact (Kd.C_below HR0_2.out HB.out) | (with_reducible refine Kd.C_alloc ?_ _) | (with_reducible refine Kd.C_drewN ?_ _) | (with_reducible refine Kd.C_drew ?_)))
    (case side4 => exact HC0_2.out)
    (case side5 => repeat (first | exact (Kd.C_below HR0_3.out HB.out) | (with_reducible refine Kd.C_alloc ?_ _) | (with_reducible refine Kd.C_drewN ?_ _) | (with_reducible refine Kd.C_drew ?_)))
    (case side6 => exact HC0_3.out)
    (case side7 => repeat (first | exact (Kd.C_below HR0_4.out HB.out) | (with_reducible refine Kd.C_alloc ?_ _) | (with_reducible refine Kd.C_drewN ?_ _) | (with_reducible refine Kd.C_drew ?_)))
    (case side8 => exact HC0_4.out)
    (case side9 => repeat (first | exact (Kd.C_below HR0_5.out HB.out) | (with_reducible refine Kd.C_alloc ?_ _) | (with_reducible refine Kd.C_drewN ?_ _) | (with_reducible refine Kd.C_drew ?_)))
    (case side10 => exact HC0_5.out)
    rintro e w34 ⟨rfl, hb⟩
    refine ⟨_, rfl, ?_⟩
    have n0_ := Aside0.mk (blk_below (g := gb274) (o := .cells #[.int .i64 a0_0, .slice A0_1 l0_1.length c0_1, .slice A0_2 l0_2.length c0_2, .slice A0_3 l0_3.length c0_3, .slice A0_4 l0_4.length c0_4, .slice A0_5 l0_5.length c0_5] 39 (0, 0)) (blk_u BK274.out) hb)
    have n1_ := Aside0.mk (blk_below (g := gb275) (o := .cells #[.int .i64 0, .int .i64 0, .string (⟨#[]⟩ : ByteArray)] 41 (0, 0)) (blk_u BK275.out) hb)
    have n2_ := Aside0.mk (below_step (by repeat (first | (with_reducible first | exact HB.out | apply below_alloc | apply pw_below_drewN | apply below_drew1 | refine below_set ?_ GE274.out | refine below_set ?_ GE275.out) | exact HB.out)) hb)
    clear BK274
    clear BK275
    clear HB
    have BK274 := n0_
    have BK275 := n1_
    have HB := n2_
    clear n0_ n1_ n2_
    (try clear hb)
    (try clear hb2)
    (try clear hk)
    (try clear hi)
    refine hK.out _ _ ⟨(blk_cell BK274.out 0).trans rfl, (blk_cell BK274.out 1).trans rfl, (blk_cell BK274.out 2).trans rfl, (blk_cell BK274.out 3).trans rfl, (blk_cell BK274.out 4).trans rfl, (blk_cell BK274.out 5).trans rfl⟩ (fun hHeld => ?_)
    clear hK K
    refine norm_ (a' := ?_) ?_ ?_
    rotate_left
    · show Act.put _ (some 10) _ = _
      simp only [Act.put, List.setIfInBounds_toArray, List.set_cons_zero, List.set_cons_succ, i64_w, i32_w]
      rfl
    refine pure_ (i := 4) (N := some 6) (v := ?_) (a' := ?_) #[true, true, true, true, true] rfl rfl (by kernel_rfl) (fun _ _ _ h => h) (Or.inl ⟨by rfl, ?_⟩) ?_ ?_
    rotate_left
    · intro w'
      go_simp
      with_reducible rfl
    rotate_left
    · simp only [Act.put, List.setIfInBounds_toArray, List.set_cons_zero, List.set_cons_succ, i64_w, i32_w]
      rfl
    refine done_ (by kernel_rfl) ?_
    have hnb35 := NB275_274.out
    have hnc35 := NB274_275.out
    have hcz36_0 : w34.cell? ⟨gb275, 0, none⟩ = some (.int .i64 0) := (blk_cell BK275.out 0).trans rfl
    have hcz36_1 : w34.cell? ⟨gb275, 1, none⟩ = some (.int .i64 0) := (blk_cell BK275.out 1).trans rfl
    have hcz36_2 : w34.cell? ⟨gb275, 2, none⟩ = some (.string (⟨#[]⟩ : ByteArray)) := (blk_cell BK275.out 2).trans rfl
    have hfz36_0 := blk_frozen BK275.out 0
    have hfz36_1 := blk_frozen BK275.out 1
    have hfz36_2 := blk_frozen BK275.out 2
    try go_wp2
    refine bodyPost_ret (results_ct rfl _ _ gb275 41 #[.int .i64 0, .int .i64 0, .string (⟨#[]⟩ : ByteArray)] (0, 0) _ rfl (by apply blk_u; refine blk_put (cs := #[.int .i64 0, .int .i64 0, .string (⟨#[]⟩ : ByteArray)]) ?_ 2 _ rfl; apply blk_u; refine blk_put (cs := #[.int .i64 0, .int .i64 0, .string (⟨#[]⟩ : ByteArray)]) ?_ 1 _ rfl; apply blk_u; refine blk_put (cs := #[.int .i64 0, .int .i64 0, .string (⟨#[]⟩ : ByteArray)]) ?_ 0 _ rfl; apply blk_u; exact BK275.out) Try.underlying41 rfl (by kernel_rfl)) rfl ?_
    exact ⟨by first | rfl | (simp [errW_none, errW_some] <;> rfl) | (simp [*, errW_none, errW_some] <;> rfl), by repeat (first | (with_reducible first | exact HB.out | apply below_alloc | apply pw_below_drewN | apply below_drew1 | refine below_set ?_ GE274.out | refine below_set ?_ GE275.out) | exact HB.out)⟩
end Go.Proofs.Ytphnmaobpefoiaa.XA
end
section
namespace Go.Proofs.Ytphnmaobpefoiaa.XA
open Go.RowKit Go.Proofs.YtphnmaobpefoiaaXW Go.Proofs.YtphnmaobpefoiaaW.PrintWords Go.Proofs.YtphnmaobpefoiaaW.PrintLast Go.Proofs.YtphnmaobpefoiaaW.PrintMore
attribute [local go_sem] max2_int min2_int max_two min_two max_three min_three max_four min_four sleq
set_option linter.unusedVariables false
set_option linter.unusedSimpArgs false
theorem eqA41 (d : Nat) (w : World) (x0 y0 : Int) (x1 y1 : Int) (x2 y2 : ByteArray) :
    (Op.equalIn (d + 2) 41 (.agg #[.int .i64 x0, .int .i64 x1, .string x2]) (.agg #[.int .i64 y0, .int .i64 y1, .string y2])).run Try.prog w = .ok (x0 == y0 && (x1 == y1 && (x2.toList == y2.toList))) w := by
  refine eqA_of Try.underlying41 (by kernel_rfl) ?_
  refine eqf_cons (by rfl) (by go_simp; rfl) (by go_simp; rfl) (by go_simp) ?_
  refine eqf_cons (by rfl) (by go_simp; rfl) (by go_simp; rfl) (by go_simp) ?_
  exact eqf_last (by rfl) (by go_simp; rfl) (by go_simp; rfl) (by go_simp)
end Go.Proofs.Ytphnmaobpefoiaa.XA
end
section
namespace Go.Proofs.Ytphnmaobpefoiaa.XA
open Go.RowKit Go.Proofs.YtphnmaobpefoiaaXW Go.Proofs.YtphnmaobpefoiaaW.PrintWords Go.Proofs.YtphnmaobpefoiaaW.PrintLast Go.Proofs.YtphnmaobpefoiaaW.PrintMore
attribute [local go_sem] max2_int min2_int max_two min_two max_three min_three max_four min_four sleq
set_option linter.unusedVariables false
set_option linter.unusedSimpArgs false
attribute [local go_sem high] eqA41
def peristylelaw5_awake.f (k : Nat)  : Option (Bool) := (vector_At.f k 2 ([] : List Bool) (([3, 4] : List Int)) ([] : List ByteArray) ([] : List ByteArray) ([] : List Int) 1).bind fun bt286 => (if bt286.2.2.2 = 0 then (some (bt286.1 == 2 && (bt286.2.1 == 4 && (bt286.2.2.1.toList == ([] : List UInt8))))) else (some false))
theorem peristylelaw5_awake.mono : ∀ k, LeO (peristylelaw5_awake.f k ) (peristylelaw5_awake.f (k + 1) ) := by
  intro  k
  unfold peristylelaw5_awake.f
  repeat' first
      | (with_reducible exact vector_At.mono _ _ _ _ _ _ _ _)
      | (with_reducible exact LeO.refl _)
      | (with_reducible exact LeO.none _)
      | (with_reducible refine LeO.ite ?_ ?_)
      | (with_reducible refine LeO.bind ?_ (fun _ => ?_))
      | exact vector_At.mono _ _ _ _ _ _ _ _
      | exact LeO.none _
      | refine LeO.ite ?_ ?_
      | refine LeO.bind ?_ (fun _ => ?_)
set_option maxHeartbeats 8000000 in
set_option maxRecDepth 100000 in
theorem peristylelaw5_awake.calls (k : Nat)  (r : Bool) (w : World) (h : peristylelaw5_awake.f k  = some r) :
    Calls Try.prog 7 #[] w fun e w' => e = .returned (.bool r) ∧ Below w.heap.size w w' := by
  have hu39 := Try.underlying39
  have hu41 := Try.underlying41
  have HB := Aside0.mk (Below.refl w.heap.size w)
  have H : ((vector_At.f k 2 ([] : List Bool) (([3, 4] : List Int)) ([] : List ByteArray) ([] : List ByteArray) ([] : List Int) 1).bind fun bt286 => (if bt286.2.2.2 = 0 then (some (bt286.1 == 2 && (bt286.2.1 == 4 && (bt286.2.2.1.toList == ([] : List UInt8))))) else (some false))) = some r := h
  clear h
  obtain ⟨y283, hy283⟩ : ∃ y_ : List Int, y_ = (([3, 4] : List Int)) := ⟨_, rfl⟩
  replace H : ((vector_At.f k 2 ([] : List Bool) y283 ([] : List ByteArray) ([] : List ByteArray) ([] : List Int) 1).bind fun bt286 => (if bt286.2.2.2 = 0 then (some (bt286.1 == 2 && (bt286.2.1 == 4 && (bt286.2.2.1.toList == ([] : List UInt8))))) else (some false))) = some r := by first | (rw [hy283]; with_reducible exact H) | (have H2_ := (Option.bind_some _ _).symm.trans H; rw [hy283]; with_reducible exact H2_) | (have H2_ := (Option.bind_some _ _).symm.trans H; with_reducible exact H2_) | with_reducible exact H | (rw [hy283]; exact H) | exact H
  have Ny283 := Aside0.mk hy283
  clear hy283
  replace H := Option.bind_eq_some_iff.mp H
  obtain ⟨⟨t286, t287, t288, t289⟩, A10, H⟩ := H
  replace H : (if t289 = 0 then (some (t286 == 2 && (t287 == 4 && (t288.toList == ([] : List UInt8))))) else (some false)) = some r := H
  have A1 := Aside0.mk A10
  clear A10
  by_cases c2 : t289 = 0
  · rw [if_pos c2] at H
    have c2b0 : (t289 == 0) = true := beq_iff_eq.mpr c2
    have c2b1 : (t289 != 0) = false := bne_eq_false_iff_eq.mpr c2
    clear c2
    obtain rfl := Option.some.inj H
    go_enter Try.func7, Try.ntmps7
    go_wp2_with (first | ((with_reducible refine gate_dst (N := 4) rfl ?_); refine Kd.R_lit (Kd.int .i64) _ 3 ?hg (N := 4) ?hd (xs := ([3, 4] : List Int)) (inner := [.int .i64 3, .int .i64 4]) (ok := fun _ => True) (okp := fun _ => True) ?hr ?hp (fun _ hk => hk) trivial (Below.refl _ _) (Nat.le_refl _) (by simp) ?_; (case hd => rfl); (case hg => rfl); (case hr => first | (go_simp; done) | (go_simp; rfl)); (case hp => exact (Reps.one (show Kd.M (Kd.int .i64) _ _ _ 3 [.int .i64 3] from rfl) (Reps.one (show Kd.M (Kd.int .i64) _ _ _ 4 [.int .i64 4] from rfl) (Reps.none _ _)))); intro v284 w3 ho4 hb hg_ hnew_; clear hg_ hnew_; (first | rw [← Ny283.out] at ho4 | (simp only [Int.reduceToNat] at ho4; rw [← Ny283.out] at ho4)); have n0_ := Aside0.mk (Kd.R_lower ho4 (below_size (below_u HB.out))); have n1_ := Aside0.mk (below_step (below_u HB.out) hb); clear HB; have HO285 := n0_; have HB := n1_; clear n0_ n1_; clear hb ho4; obtain ⟨Ao5, co5, eo5⟩ := Kd.R_slice HO285.out; subst eo5) | ((with_reducible refine gate_callee (f := 8) rfl ?_); refine goesL_ (some 6) rfl rfl Try.func8 (by kernel_rfl) rfl #[.agg #[.int .i64 2, .slice none 0 0, .slice Ao5 y283.length co5, .slice none 0 0, .slice none 0 0, .slice none 0 0], .int .i64 1] rfl (by (try simp only [List.map_toArray, List.map_cons, List.map_nil]); first | done | rfl | (simp only [List.length_drop, List.length_take]; rfl)) ?_; (refine (vector_At.calls k 2 _ _ ([] : List Bool) _ _ y283 _ _ ([] : List ByteArray) _ _ ([] : List ByteArray) _ _ ([] : List Int) 1 t286 t287 t288 t289 _ ?side1 ?side2 ?side3 ?side4 ?side5 ?side6 ?side7 ?side8 ?side9 ?side10 A1.out).mono ?_); (case side1 => exact Kd.C_nil _ _); (case side2 => exact Nat.le_refl _); (case side3 => repeat (first | exact (Kd.R_reads' HO285.out).2.2 | (with_reducible refine Kd.C_alloc ?_ _) | (with_reducible refine Kd.C_drewN ?_ _) | (with_reducible refine Kd.C_drew ?_))); (case side4 => exact (Kd.R_reads' HO285.out).2.1); (case side5 => exact Kd.C_nil _ _); (case side6 => exact Nat.le_refl _); (case side7 => exact Kd.C_nil _ _); (case side8 => exact Nat.le_refl _); (case side9 => exact Kd.C_nil _ _); (case side10 => exact Nat.le_refl _); rintro e w6 ⟨rfl, hb⟩; refine ⟨_, rfl, ?_⟩; have n0_ := Aside0.mk (Kd.R_below (R_u HO285.out) hb); have n1_ := Aside0.mk (below_step (below_u HB.out) hb); clear HO285; clear HB; have HO285 := n0_; have HB := n1_; clear n0_ n1_; (try clear hb); (try clear hb2); (try clear hk); (try clear hi)) | ((with_reducible refine gate_dst (N := 1) rfl ?_); refine box_event ?hg (N := 1) ?hd (cs := #[.int .i64 0, .int .i64 0, .string (⟨#[]⟩ : ByteArray)]) (t := 41) ?hr ?_; (case hd => rfl); (case hg => rfl); (case hr => first | (go_simp; done) | (go_simp; rfl)); intro gb290 hg w7 hbox hb; have n0_ := Aside0.mk (Kd.R_below (R_u HO285.out) hb); have n1_ := Aside0.mk (below_step (below_u HB.out) hb); have n2_ := Aside0.mk (hbox); have n3_ := Aside0.mk ((by rw [hg]; exact (below_size (below_u HB.out)) : w.heap.size ≤ gb290)); have n4_ := Aside0.mk ((by rw [hg]; exact (below_size (below_u HB.out)) : w.heap.size ≤ gb290)); clear HO285; clear HB; have HO285 := n0_; have HB := n1_; have BK290 := n2_; have GW290 := n3_; have GE290 := n4_; clear n0_ n1_ n2_ n3_ n4_; clear hb hbox hg; have hcz8_0 : w7.cell? ⟨gb290, 0, none⟩ = some (.int .i64 0) := (blk_cell BK290.out 0).trans rfl; have hcz8_1 : w7.cell? ⟨gb290, 1, none⟩ = some (.int .i64 0) := (blk_cell BK290.out 1).trans rfl; have hcz8_2 : w7.cell? ⟨gb290, 2, none⟩ = some (.string (⟨#[]⟩ : ByteArray)) := (blk_cell BK290.out 2).trans rfl; have hfz8_0 := blk_frozen BK290.out 0; have hfz8_1 := blk_frozen BK290.out 1; have hfz8_2 := blk_frozen BK290.out 2))
    go_ret
    exact ⟨by first | rfl | (simp [errW_none, errW_some] <;> rfl) | (simp [*, errW_none, errW_some] <;> rfl), by repeat (first | (with_reducible first | exact HB.out | apply below_alloc | apply pw_below_drewN | apply below_drew1 | refine below_set ?_ GE290.out) | exact HB.out)⟩
  · rw [if_neg c2] at H
    have c2b0 : (t289 == 0) = false := beq_eq_false_iff_ne.mpr c2
    have c2b1 : (t289 != 0) = true := bne_iff_ne.mpr c2
    obtain rfl := Option.some.inj H
    go_enter Try.func7, Try.ntmps7
    go_wp2_with (first | ((with_reducible refine gate_dst (N := 4) rfl ?_); refine Kd.R_lit (Kd.int .i64) _ 3 ?hg (N := 4) ?hd (xs := ([3, 4] : List Int)) (inner := [.int .i64 3, .int .i64 4]) (ok := fun _ => True) (okp := fun _ => True) ?hr ?hp (fun _ hk => hk) trivial (Below.refl _ _) (Nat.le_refl _) (by simp) ?_; (case hd => rfl); (case hg => rfl); (case hr => first | (go_simp; done) | (go_simp; rfl)); (case hp => exact (Reps.one (show Kd.M (Kd.int .i64) _ _ _ 3 [.int .i64 3] from rfl) (Reps.one (show Kd.M (Kd.int .i64) _ _ _ 4 [.int .i64 4] from rfl) (Reps.none _ _)))); intro v284 w9 ho10 hb hg_ hnew_; clear hg_ hnew_; (first | rw [← Ny283.out] at ho10 | (simp only [Int.reduceToNat] at ho10; rw [← Ny283.out] at ho10)); have n0_ := Aside0.mk (Kd.R_lower ho10 (below_size (below_u HB.out))); have n1_ := Aside0.mk (below_step (below_u HB.out) hb); clear HB; have HO285 := n0_; have HB := n1_; clear n0_ n1_; clear hb ho10; obtain ⟨Ao11, co11, eo11⟩ := Kd.R_slice HO285.out; subst eo11) | ((with_reducible refine gate_callee (f := 8) rfl ?_); refine goesL_ (some 6) rfl rfl Try.func8 (by kernel_rfl) rfl #[.agg #[.int .i64 2, .slice none 0 0, .slice Ao11 y283.length co11, .slice none 0 0, .slice none 0 0, .slice none 0 0], .int .i64 1] rfl (by (try simp only [List.map_toArray, List.map_cons, List.map_nil]); first | done | rfl | (simp only [List.length_drop, List.length_take]; rfl)) ?_; (refine (vector_At.calls k 2 _ _ ([] : List Bool) _ _ y283 _ _ ([] : List ByteArray) _ _ ([] : List ByteArray) _ _ ([] : List Int) 1 t286 t287 t288 t289 _ ?side1 ?side2 ?side3 ?side4 ?side5 ?side6 ?side7 ?side8 ?side9 ?side10 A1.out).mono ?_); (case side1 => exact Kd.C_nil _ _); (case side2 => exact Nat.le_refl _); (case side3 => repeat (first | exact (Kd.R_reads' HO285.out).2.2 | (with_reducible refine Kd.C_alloc ?_ _) | (with_reducible refine Kd.C_drewN ?_ _) | (with_reducible refine Kd.C_drew ?_))); (case side4 => exact (Kd.R_reads' HO285.out).2.1); (case side5 => exact Kd.C_nil _ _); (case side6 => exact Nat.le_refl _); (case side7 => exact Kd.C_nil _ _); (case side8 => exact Nat.le_refl _); (case side9 => exact Kd.C_nil _ _); (case side10 => exact Nat.le_refl _); rintro e w12 ⟨rfl, hb⟩; refine ⟨_, rfl, ?_⟩; have n0_ := Aside0.mk (Kd.R_below (R_u HO285.out) hb); have n1_ := Aside0.mk (below_step (below_u HB.out) hb); clear HO285; clear HB; have HO285 := n0_; have HB := n1_; clear n0_ n1_; (try clear hb); (try clear hb2); (try clear hk); (try clear hi)) | ((with_reducible refine gate_dst (N := 1) rfl ?_); refine box_event ?hg (N := 1) ?hd (cs := #[.int .i64 0, .int .i64 0, .string (⟨#[]⟩ : ByteArray)]) (t := 41) ?hr ?_; (case hd => rfl); (case hg => rfl); (case hr => first | (go_simp; done) | (go_simp; rfl)); intro gb290 hg w13 hbox hb; have n0_ := Aside0.mk (Kd.R_below (R_u HO285.out) hb); have n1_ := Aside0.mk (below_step (below_u HB.out) hb); have n2_ := Aside0.mk (hbox); have n3_ := Aside0.mk ((by rw [hg]; exact (below_size (below_u HB.out)) : w.heap.size ≤ gb290)); have n4_ := Aside0.mk ((by rw [hg]; exact (below_size (below_u HB.out)) : w.heap.size ≤ gb290)); clear HO285; clear HB; have HO285 := n0_; have HB := n1_; have BK290 := n2_; have GW290 := n3_; have GE290 := n4_; clear n0_ n1_ n2_ n3_ n4_; clear hb hbox hg; have hcz14_0 : w13.cell? ⟨gb290, 0, none⟩ = some (.int .i64 0) := (blk_cell BK290.out 0).trans rfl; have hcz14_1 : w13.cell? ⟨gb290, 1, none⟩ = some (.int .i64 0) := (blk_cell BK290.out 1).trans rfl; have hcz14_2 : w13.cell? ⟨gb290, 2, none⟩ = some (.string (⟨#[]⟩ : ByteArray)) := (blk_cell BK290.out 2).trans rfl; have hfz14_0 := blk_frozen BK290.out 0; have hfz14_1 := blk_frozen BK290.out 1; have hfz14_2 := blk_frozen BK290.out 2))
    go_ret
    exact ⟨by first | rfl | (simp [errW_none, errW_some] <;> rfl) | (simp [*, errW_none, errW_some] <;> rfl), by repeat (first | (with_reducible first | exact HB.out | apply below_alloc | apply pw_below_drewN | apply below_drew1 | refine below_set ?_ GE290.out) | exact HB.out)⟩
end Go.Proofs.Ytphnmaobpefoiaa.XA
end
section
namespace Go.Proofs.Ytphnmaobpefoiaa.XA
open Go.RowKit Go.Proofs.YtphnmaobpefoiaaXW Go.Proofs.YtphnmaobpefoiaaW.PrintWords Go.Proofs.YtphnmaobpefoiaaW.PrintLast Go.Proofs.YtphnmaobpefoiaaW.PrintMore
attribute [local go_sem] max2_int min2_int max_two min_two max_three min_three max_four min_four sleq
set_option linter.unusedVariables false
set_option linter.unusedSimpArgs false
def slices_Equal_bool_bool.l0 : Nat → List Bool → List Bool → Int → Int → Option (Bool)
  | 0, _, _, _, _ => none
  | k + 1, x0, x1, x12, x13 => if x13 < x12 then (if 0 ≤ x13 then (if x13 < (x0.length : Int) then (if x13 < (x1.length : Int) then (if ((rdOf false x0 x13) != (rdOf false x1 x13)) = true then (some false) else (slices_Equal_bool_bool.l0 k x0 x1 x12 (wrap64 (x13 + 1)))) else (none)) else (none)) else (none)) else (some true)
def slices_Equal_bool_bool.f (k : Nat) (l0 : List Bool) (l1 : List Bool) : Option (Bool) := if (l0.length : Int) = (l1.length : Int) then (slices_Equal_bool_bool.l0 k l0 l1 (l0.length : Int) 0) else (some false)
theorem slices_Equal_bool_bool.mono_l : ∀ k, (∀ y0 y1 y2 y3, LeO (slices_Equal_bool_bool.l0 k y0 y1 y2 y3) (slices_Equal_bool_bool.l0 (k + 1) y0 y1 y2 y3))
  | 0 => fun _ _ _ _ r h => by simp [slices_Equal_bool_bool.l0] at h
  | k + 1 => by
    have ih0 := slices_Equal_bool_bool.mono_l k
    · intro y0 y1 y2 y3
      unfold slices_Equal_bool_bool.l0
      repeat' first
      | (with_reducible exact ih0 _ _ _ _)
      | (with_reducible exact LeO.refl _)
      | (with_reducible exact LeO.none _)
      | (with_reducible refine LeO.ite ?_ ?_)
      | (with_reducible refine LeO.bind ?_ (fun _ => ?_))
      | exact ih0 _ _ _ _
      | exact LeO.none _
      | refine LeO.ite ?_ ?_
      | refine LeO.bind ?_ (fun _ => ?_)
theorem slices_Equal_bool_bool.mono : ∀ a0 a1 k, LeO (slices_Equal_bool_bool.f k a0 a1) (slices_Equal_bool_bool.f (k + 1) a0 a1) := by
  intro a0 a1 k
  have ih0 := slices_Equal_bool_bool.mono_l k
  unfold slices_Equal_bool_bool.f
  repeat' first
      | (with_reducible exact ih0 _ _ _ _)
      | (with_reducible exact LeO.refl _)
      | (with_reducible exact LeO.none _)
      | (with_reducible refine LeO.ite ?_ ?_)
      | (with_reducible refine LeO.bind ?_ (fun _ => ?_))
      | exact ih0 _ _ _ _
      | exact LeO.none _
      | refine LeO.ite ?_ ?_
      | refine LeO.bind ?_ (fun _ => ?_)
set_option maxHeartbeats 8000000 in
set_option maxRecDepth 100000 in
theorem slices_Equal_bool_bool.calls (k : Nat) (A0 : Option Addr) (c0 : Nat) (l0 : List Bool) (A1 : Option Addr) (c1 : Nat) (l1 : List Bool) (r : Bool) (w : World) (hr0 : Kd.C Kd.bool w A0 l0.length l0) (hc0 : l0.length ≤ c0) (hr1 : Kd.C Kd.bool w A1 l1.length l1) (hc1 : l1.length ≤ c1) (h : slices_Equal_bool_bool.f k l0 l1 = some r) :
    Calls Try.prog 31 #[.slice A0 l0.length c0, .slice A1 l1.length c1] w fun e w' => e = .returned (.bool r) ∧ Drawn0 w w' := by
  have HR0 := Aside0.mk hr0
  have HC0 := Aside0.mk hc0
  clear hr0 hc0
  have HR1 := Aside0.mk hr1
  have HC1 := Aside0.mk hc1
  clear hr1 hc1
  have H : (if (l0.length : Int) = (l1.length : Int) then (slices_Equal_bool_bool.l0 k l0 l1 (l0.length : Int) 0) else (some false)) = some r := h
  clear h
  by_cases c3 : (l0.length : Int) = (l1.length : Int)
  · rw [if_pos c3] at H
    have c3b0 : ((l0.length : Int) == (l1.length : Int)) = true := beq_iff_eq.mpr c3
    have c3b1 : ((l0.length : Int) != (l1.length : Int)) = false := bne_eq_false_iff_eq.mpr c3
    have c3b2 : (l0.length == l1.length) = true := by first | simpa using c3 | (simp at c3 ⊢; omega)
    clear c3
    have H' := Aside0.mk H
    clear H
    go_enter Try.func31, Try.ntmps31
    go_wp2
    repeat (go_quiet (fail); try go_wp2)
    go_loopg [13] k (fun kq v13 w' => ∃ (x13_1 : Int), v13 = .int .i64 x13_1 ∧ Aside0 (slices_Equal_bool_bool.l0 kq l0 l1 (l0.length : Int) x13_1 = some r) ∧ Aside0 (kq ≤ k) ∧ Drawn0 w w')
    case atStart => exact ⟨(0), (by first | rfl | (simp; done) | (simp [*]; done)), H', ⟨Nat.le_refl _⟩, by repeat (first | exact Drawn0.refl _ | apply Drawn0.step)⟩
    case round =>
      clear H'
      try clear c1
      try clear p2
      try clear c3
      try clear c3b0
      try clear c3b1
      try clear c3b2
      obtain ⟨x13_1, rfl, HA, HK1, ⟨m1, rfl⟩⟩ := hrel
      cases gk with
      | zero => exact absurd HA.out (by simp [slices_Equal_bool_bool.l0])
      | succ k1 =>
        have H := HA.out
        clear HA
        simp only [slices_Equal_bool_bool.l0] at H
        by_cases c4 : x13_1 < (l0.length : Int)
        · rw [if_pos c4] at H
          have c4b0 : decide (x13_1 < (l0.length : Int)) = true := decide_eq_true c4
          clear c4
          by_cases c5 : 0 ≤ x13_1
          · rw [if_pos c5] at H
            have c5b0 : decide (0 ≤ x13_1) = true := decide_eq_true c5
            clear c5
            by_cases c6 : x13_1 < (l0.length : Int)
            · rw [if_pos c6] at H
              have c6b0 : decide (x13_1 < (l0.length : Int)) = true := decide_eq_true c6
              clear c6
              by_cases c7 : x13_1 < (l1.length : Int)
              · rw [if_pos c7] at H
                have c7b0 : decide (x13_1 < (l1.length : Int)) = true := decide_eq_true c7
                clear c7
                by_cases c8 : ((rdOf false l0 x13_1) != (rdOf false l1 x13_1)) = true
                · rw [if_pos c8] at H
                  have c8b0 : ((rdOf false l0 x13_1) != (rdOf false l1 x13_1)) = true := c8
                  (try (have c8b1 : decide ((rdOf false l0 x13_1) = (rdOf false l1 x13_1)) = false := by simpa using c8))
                  (try (have c8b2 : ((rdOf false l0 x13_1) == (rdOf false l1 x13_1)) = false := by simpa using c8))
                  (try (have c8b3 : ¬ ((rdOf false l0 x13_1) = (rdOf false l1 x13_1)) := by simpa using c8))
                  clear c8
                  obtain rfl := Option.some.inj H
                  have p557 : 0 ≤ (x13_1 : Int) := of_decide_eq_true (by first | (with_reducible assumption) | assumption)
                  have q557 : x13_1 < (l0.length : Int) := of_decide_eq_true (by first | (with_reducible assumption) | assumption)
                  obtain ⟨ad557, e557, hx557_0⟩ := Kd.at_bool HR0.out x13_1 p557 q557
                  cases e557
                  replace p557 := eq_true p557
                  replace q557 := eq_true q557
                  have p558 : 0 ≤ (x13_1 : Int) := of_decide_eq_true (by first | (with_reducible assumption) | assumption)
                  have q558 : x13_1 < (l1.length : Int) := of_decide_eq_true (by first | (with_reducible assumption) | assumption)
                  obtain ⟨ad558, e558, hx558_0⟩ := Kd.at_bool HR1.out x13_1 p558 q558
                  cases e558
                  replace p558 := eq_true p558
                  replace q558 := eq_true q558
                  go_wp2
                  repeat (go_quiet (fail); try go_wp2)
                  go_ret
                  exact ⟨by first | rfl | (simp; done) | (simp [*]; done), by repeat (first | exact Drawn0.refl _ | apply Drawn0.step)⟩
                · rw [if_neg c8] at H
                  have c8b0 : ((rdOf false l0 x13_1) != (rdOf false l1 x13_1)) = false := by simpa using c8
                  (try (have c8b1 : decide ((rdOf false l0 x13_1) = (rdOf false l1 x13_1)) = true := by simpa using c8))
                  (try (have c8b2 : ((rdOf false l0 x13_1) == (rdOf false l1 x13_1)) = true := by simpa using c8))
                  clear c8
                  have H' := Aside0.mk H
                  clear H
                  have p557 : 0 ≤ (x13_1 : Int) := of_decide_eq_true (by first | (with_reducible assumption) | assumption)
                  have q557 : x13_1 < (l0.length : Int) := of_decide_eq_true (by first | (with_reducible assumption) | assumption)
                  obtain ⟨ad557, e557, hx557_0⟩ := Kd.at_bool HR0.out x13_1 p557 q557
                  cases e557
                  replace p557 := eq_true p557
                  replace q557 := eq_true q557
                  have p558 : 0 ≤ (x13_1 : Int) := of_decide_eq_true (by first | (with_reducible assumption) | assumption)
                  have q558 : x13_1 < (l1.length : Int) := of_decide_eq_true (by first | (with_reducible assumption) | assumption)
                  obtain ⟨ad558, e558, hx558_0⟩ := Kd.at_bool HR1.out x13_1 p558 q558
                  cases e558
                  replace p558 := eq_true p558
                  replace q558 := eq_true q558
                  go_wp2
                  repeat (go_quiet (fail); try go_wp2)
                  go_roundg k1
                  case measure => have := HK1.out; omega
                  case rel => exact ⟨(wrap64 (x13_1 + 1)), (by first | rfl | (simp; done) | (simp [*]; done)), H', ⟨by have := HK1.out; omega⟩, by repeat (first | exact Drawn0.refl _ | apply Drawn0.step)⟩
              · rw [if_neg c7] at H
                exact absurd H (by simp)
            · rw [if_neg c6] at H
              exact absurd H (by simp)
          · rw [if_neg c5] at H
            exact absurd H (by simp)
        · rw [if_neg c4] at H
          have c4b0 : decide (x13_1 < (l0.length : Int)) = false := decide_eq_false c4
          clear c4
          obtain rfl := Option.some.inj H
          go_wp2
          repeat (go_quiet (fail); try go_wp2)
          go_ret
          exact ⟨by first | rfl | (simp; done) | (simp [*]; done), by repeat (first | exact Drawn0.refl _ | apply Drawn0.step)⟩
  · rw [if_neg c3] at H
    have c3b0 : ((l0.length : Int) == (l1.length : Int)) = false := beq_eq_false_iff_ne.mpr c3
    have c3b1 : ((l0.length : Int) != (l1.length : Int)) = true := bne_iff_ne.mpr c3
    have c3b2 : (l0.length == l1.length) = false := by first | simpa using c3 | (simp at c3 ⊢; omega)
    obtain rfl := Option.some.inj H
    go_enter Try.func31, Try.ntmps31
    go_wp2
    repeat (go_quiet (fail); try go_wp2)
    go_ret
    exact ⟨by first | rfl | (simp; done) | (simp [*]; done), by repeat (first | exact Drawn0.refl _ | apply Drawn0.step)⟩
end Go.Proofs.Ytphnmaobpefoiaa.XA
end
section
namespace Go.Proofs.Ytphnmaobpefoiaa.XA
open Go.RowKit Go.Proofs.YtphnmaobpefoiaaXW Go.Proofs.YtphnmaobpefoiaaW.PrintWords Go.Proofs.YtphnmaobpefoiaaW.PrintLast Go.Proofs.YtphnmaobpefoiaaW.PrintMore
attribute [local go_sem] max2_int min2_int max_two min_two max_three min_three max_four min_four sleq
set_option linter.unusedVariables false
set_option linter.unusedSimpArgs false
def slices_Equal_int_int.l0 : Nat → List Int → List Int → Int → Int → Option (Bool)
  | 0, _, _, _, _ => none
  | k + 1, x0, x1, x12, x13 => if x13 < x12 then (if 0 ≤ x13 then (if x13 < (x0.length : Int) then (if x13 < (x1.length : Int) then (if (rd x0 x13) = (rd x1 x13) then (slices_Equal_int_int.l0 k x0 x1 x12 (wrap64 (x13 + 1))) else (some false)) else (none)) else (none)) else (none)) else (some true)
def slices_Equal_int_int.f (k : Nat) (l0 : List Int) (l1 : List Int) : Option (Bool) := if (l0.length : Int) = (l1.length : Int) then (slices_Equal_int_int.l0 k l0 l1 (l0.length : Int) 0) else (some false)
theorem slices_Equal_int_int.mono_l : ∀ k, (∀ y0 y1 y2 y3, LeO (slices_Equal_int_int.l0 k y0 y1 y2 y3) (slices_Equal_int_int.l0 (k + 1) y0 y1 y2 y3))
  | 0 => fun _ _ _ _ r h => by simp [slices_Equal_int_int.l0] at h
  | k + 1 => by
    have ih0 := slices_Equal_int_int.mono_l k
    · intro y0 y1 y2 y3
      unfold slices_Equal_int_int.l0
      repeat' first
      | (with_reducible exact ih0 _ _ _ _)
      | (with_reducible exact LeO.refl _)
      | (with_reducible exact LeO.none _)
      | (with_reducible refine LeO.ite ?_ ?_)
      | (with_reducible refine LeO.bind ?_ (fun _ => ?_))
      | exact ih0 _ _ _ _
      | exact LeO.none _
      | refine LeO.ite ?_ ?_
      | refine LeO.bind ?_ (fun _ => ?_)
theorem slices_Equal_int_int.mono : ∀ a0 a1 k, LeO (slices_Equal_int_int.f k a0 a1) (slices_Equal_int_int.f (k + 1) a0 a1) := by
  intro a0 a1 k
  have ih0 := slices_Equal_int_int.mono_l k
  unfold slices_Equal_int_int.f
  repeat' first
      | (with_reducible exact ih0 _ _ _ _)
      | (with_reducible exact LeO.refl _)
      | (with_reducible exact LeO.none _)
      | (with_reducible refine LeO.ite ?_ ?_)
      | (with_reducible refine LeO.bind ?_ (fun _ => ?_))
      | exact ih0 _ _ _ _
      | exact LeO.none _
      | refine LeO.ite ?_ ?_
      | refine LeO.bind ?_ (fun _ => ?_)
set_option maxHeartbeats 8000000 in
set_option maxRecDepth 100000 in
theorem slices_Equal_int_int.calls (k : Nat) (A0 : Option Addr) (c0 : Nat) (l0 : List Int) (A1 : Option Addr) (c1 : Nat) (l1 : List Int) (r : Bool) (w : World) (hr0 : Kd.C (Kd.int .i64) w A0 l0.length l0) (hc0 : l0.length ≤ c0) (hr1 : Kd.C (Kd.int .i64) w A1 l1.length l1) (hc1 : l1.length ≤ c1) (h : slices_Equal_int_int.f k l0 l1 = some r) :
    Calls Try.prog 32 #[.slice A0 l0.length c0, .slice A1 l1.length c1] w fun e w' => e = .returned (.bool r) ∧ Drawn0 w w' := by
  have HR0 := Aside0.mk hr0
  have HC0 := Aside0.mk hc0
  clear hr0 hc0
  have HR1 := Aside0.mk hr1
  have HC1 := Aside0.mk hc1
  clear hr1 hc1
  have H : (if (l0.length : Int) = (l1.length : Int) then (slices_Equal_int_int.l0 k l0 l1 (l0.length : Int) 0) else (some false)) = some r := h
  clear h
  by_cases c3 : (l0.length : Int) = (l1.length : Int)
  · rw [if_pos c3] at H
    have c3b0 : ((l0.length : Int) == (l1.length : Int)) = true := beq_iff_eq.mpr c3
    have c3b1 : ((l0.length : Int) != (l1.length : Int)) = false := bne_eq_false_iff_eq.mpr c3
    have c3b2 : (l0.length == l1.length) = true := by first | simpa using c3 | (simp at c3 ⊢; omega)
    clear c3
    have H' := Aside0.mk H
    clear H
    go_enter Try.func32, Try.ntmps32
    go_wp2
    repeat (go_quiet (fail); try go_wp2)
    go_loopg [13] k (fun kq v13 w' => ∃ (x13_1 : Int), v13 = .int .i64 x13_1 ∧ Aside0 (slices_Equal_int_int.l0 kq l0 l1 (l0.length : Int) x13_1 = some r) ∧ Aside0 (kq ≤ k) ∧ Drawn0 w w')
    case atStart => exact ⟨(0), (by first | rfl | (simp; done) | (simp [*]; done)), H', ⟨Nat.le_refl _⟩, by repeat (first | exact Drawn0.refl _ | apply Drawn0.step)⟩
    case round =>
      clear H'
      try clear c1
      try clear p2
      try clear c3
      try clear c3b0
      try clear c3b1
      try clear c3b2
      obtain ⟨x13_1, rfl, HA, HK1, ⟨m1, rfl⟩⟩ := hrel
      cases gk with
      | zero => exact absurd HA.out (by simp [slices_Equal_int_int.l0])
      | succ k1 =>
        have H := HA.out
        clear HA
        simp only [slices_Equal_int_int.l0] at H
        by_cases c4 : x13_1 < (l0.length : Int)
        · rw [if_pos c4] at H
          have c4b0 : decide (x13_1 < (l0.length : Int)) = true := decide_eq_true c4
          clear c4
          by_cases c5 : 0 ≤ x13_1
          · rw [if_pos c5] at H
            have c5b0 : decide (0 ≤ x13_1) = true := decide_eq_true c5
            clear c5
            by_cases c6 : x13_1 < (l0.length : Int)
            · rw [if_pos c6] at H
              have c6b0 : decide (x13_1 < (l0.length : Int)) = true := decide_eq_true c6
              clear c6
              by_cases c7 : x13_1 < (l1.length : Int)
              · rw [if_pos c7] at H
                have c7b0 : decide (x13_1 < (l1.length : Int)) = true := decide_eq_true c7
                clear c7
                by_cases c8 : (rd l0 x13_1) = (rd l1 x13_1)
                · rw [if_pos c8] at H
                  have c8b0 : ((rd l0 x13_1) == (rd l1 x13_1)) = true := beq_iff_eq.mpr c8
                  have c8b1 : ((rd l0 x13_1) != (rd l1 x13_1)) = false := bne_eq_false_iff_eq.mpr c8
                  clear c8
                  have H' := Aside0.mk H
                  clear H
                  have p559 : 0 ≤ (x13_1 : Int) := of_decide_eq_true (by first | (with_reducible assumption) | assumption)
                  have q559 : x13_1 < (l0.length : Int) := of_decide_eq_true (by first | (with_reducible assumption) | assumption)
                  obtain ⟨ad559, e559, hx559_0⟩ := Kd.at_int HR0.out x13_1 p559 q559
                  cases e559
                  replace p559 := eq_true p559
                  replace q559 := eq_true q559
                  have p560 : 0 ≤ (x13_1 : Int) := of_decide_eq_true (by first | (with_reducible assumption) | assumption)
                  have q560 : x13_1 < (l1.length : Int) := of_decide_eq_true (by first | (with_reducible assumption) | assumption)
                  obtain ⟨ad560, e560, hx560_0⟩ := Kd.at_int HR1.out x13_1 p560 q560
                  cases e560
                  replace p560 := eq_true p560
                  replace q560 := eq_true q560
                  go_wp2
                  repeat (go_quiet (fail); try go_wp2)
                  go_roundg k1
                  case measure => have := HK1.out; omega
                  case rel => exact ⟨(wrap64 (x13_1 + 1)), (by first | rfl | (simp; done) | (simp [*]; done)), H', ⟨by have := HK1.out; omega⟩, by repeat (first | exact Drawn0.refl _ | apply Drawn0.step)⟩
                · rw [if_neg c8] at H
                  have c8b0 : ((rd l0 x13_1) == (rd l1 x13_1)) = false := beq_eq_false_iff_ne.mpr c8
                  have c8b1 : ((rd l0 x13_1) != (rd l1 x13_1)) = true := bne_iff_ne.mpr c8
                  obtain rfl := Option.some.inj H
                  have p559 : 0 ≤ (x13_1 : Int) := of_decide_eq_true (by first | (with_reducible assumption) | assumption)
                  have q559 : x13_1 < (l0.length : Int) := of_decide_eq_true (by first | (with_reducible assumption) | assumption)
                  obtain ⟨ad559, e559, hx559_0⟩ := Kd.at_int HR0.out x13_1 p559 q559
                  cases e559
                  replace p559 := eq_true p559
                  replace q559 := eq_true q559
                  have p560 : 0 ≤ (x13_1 : Int) := of_decide_eq_true (by first | (with_reducible assumption) | assumption)
                  have q560 : x13_1 < (l1.length : Int) := of_decide_eq_true (by first | (with_reducible assumption) | assumption)
                  obtain ⟨ad560, e560, hx560_0⟩ := Kd.at_int HR1.out x13_1 p560 q560
                  cases e560
                  replace p560 := eq_true p560
                  replace q560 := eq_true q560
                  go_wp2
                  repeat (go_quiet (fail); try go_wp2)
                  go_ret
                  exact ⟨by first | rfl | (simp; done) | (simp [*]; done), by repeat (first | exact Drawn0.refl _ | apply Drawn0.step)⟩
              · rw [if_neg c7] at H
                exact absurd H (by simp)
            · rw [if_neg c6] at H
              exact absurd H (by simp)
          · rw [if_neg c5] at H
            exact absurd H (by simp)
        · rw [if_neg c4] at H
          have c4b0 : decide (x13_1 < (l0.length : Int)) = false := decide_eq_false c4
          clear c4
          obtain rfl := Option.some.inj H
          go_wp2
          repeat (go_quiet (fail); try go_wp2)
          go_ret
          exact ⟨by first | rfl | (simp; done) | (simp [*]; done), by repeat (first | exact Drawn0.refl _ | apply Drawn0.step)⟩
  · rw [if_neg c3] at H
    have c3b0 : ((l0.length : Int) == (l1.length : Int)) = false := beq_eq_false_iff_ne.mpr c3
    have c3b1 : ((l0.length : Int) != (l1.length : Int)) = true := bne_iff_ne.mpr c3
    have c3b2 : (l0.length == l1.length) = false := by first | simpa using c3 | (simp at c3 ⊢; omega)
    obtain rfl := Option.some.inj H
    go_enter Try.func32, Try.ntmps32
    go_wp2
    repeat (go_quiet (fail); try go_wp2)
    go_ret
    exact ⟨by first | rfl | (simp; done) | (simp [*]; done), by repeat (first | exact Drawn0.refl _ | apply Drawn0.step)⟩
end Go.Proofs.Ytphnmaobpefoiaa.XA
end
section
namespace Go.Proofs.Ytphnmaobpefoiaa.XA
open Go.RowKit Go.Proofs.YtphnmaobpefoiaaXW Go.Proofs.YtphnmaobpefoiaaW.PrintWords Go.Proofs.YtphnmaobpefoiaaW.PrintLast Go.Proofs.YtphnmaobpefoiaaW.PrintMore
attribute [local go_sem] max2_int min2_int max_two min_two max_three min_three max_four min_four sleq
set_option linter.unusedVariables false
set_option linter.unusedSimpArgs false
def slices_Equal_string_string.l0 : Nat → List ByteArray → List ByteArray → Int → Int → Option (Bool)
  | 0, _, _, _, _ => none
  | k + 1, x0, x1, x12, x13 => if x13 < x12 then (if 0 ≤ x13 then (if x13 < (x0.length : Int) then (if x13 < (x1.length : Int) then (if (rdOf ByteArray.empty x0 x13).toList = (rdOf ByteArray.empty x1 x13).toList then (slices_Equal_string_string.l0 k x0 x1 x12 (wrap64 (x13 + 1))) else (some false)) else (none)) else (none)) else (none)) else (some true)
def slices_Equal_string_string.f (k : Nat) (l0 : List ByteArray) (l1 : List ByteArray) : Option (Bool) := if (l0.length : Int) = (l1.length : Int) then (slices_Equal_string_string.l0 k l0 l1 (l0.length : Int) 0) else (some false)
theorem slices_Equal_string_string.mono_l : ∀ k, (∀ y0 y1 y2 y3, LeO (slices_Equal_string_string.l0 k y0 y1 y2 y3) (slices_Equal_string_string.l0 (k + 1) y0 y1 y2 y3))
  | 0 => fun _ _ _ _ r h => by simp [slices_Equal_string_string.l0] at h
  | k + 1 => by
    have ih0 := slices_Equal_string_string.mono_l k
    · intro y0 y1 y2 y3
      unfold slices_Equal_string_string.l0
      repeat' first
      | (with_reducible exact ih0 _ _ _ _)
      | (with_reducible exact LeO.refl _)
      | (with_reducible exact LeO.none _)
      | (with_reducible refine LeO.ite ?_ ?_)
      | (with_reducible refine LeO.bind ?_ (fun _ => ?_))
      | exact ih0 _ _ _ _
      | exact LeO.none _
      | refine LeO.ite ?_ ?_
      | refine LeO.bind ?_ (fun _ => ?_)
theorem slices_Equal_string_string.mono : ∀ a0 a1 k, LeO (slices_Equal_string_string.f k a0 a1) (slices_Equal_string_string.f (k + 1) a0 a1) := by
  intro a0 a1 k
  have ih0 := slices_Equal_string_string.mono_l k
  unfold slices_Equal_string_string.f
  repeat' first
      | (with_reducible exact ih0 _ _ _ _)
      | (with_reducible exact LeO.refl _)
      | (with_reducible exact LeO.none _)
      | (with_reducible refine LeO.ite ?_ ?_)
      | (with_reducible refine LeO.bind ?_ (fun _ => ?_))
      | exact ih0 _ _ _ _
      | exact LeO.none _
      | refine LeO.ite ?_ ?_
      | refine LeO.bind ?_ (fun _ => ?_)
set_option maxHeartbeats 8000000 in
set_option maxRecDepth 100000 in
theorem slices_Equal_string_string.calls (k : Nat) (A0 : Option Addr) (c0 : Nat) (l0 : List ByteArray) (A1 : Option Addr) (c1 : Nat) (l1 : List ByteArray) (r : Bool) (w : World) (hr0 : Kd.C Kd.string w A0 l0.length l0) (hc0 : l0.length ≤ c0) (hr1 : Kd.C Kd.string w A1 l1.length l1) (hc1 : l1.length ≤ c1) (h : slices_Equal_string_string.f k l0 l1 = some r) :
    Calls Try.prog 33 #[.slice A0 l0.length c0, .slice A1 l1.length c1] w fun e w' => e = .returned (.bool r) ∧ Drawn0 w w' := by
  have HR0 := Aside0.mk hr0
  have HC0 := Aside0.mk hc0
  clear hr0 hc0
  have HR1 := Aside0.mk hr1
  have HC1 := Aside0.mk hc1
  clear hr1 hc1
  have H : (if (l0.length : Int) = (l1.length : Int) then (slices_Equal_string_string.l0 k l0 l1 (l0.length : Int) 0) else (some false)) = some r := h
  clear h
  by_cases c3 : (l0.length : Int) = (l1.length : Int)
  · rw [if_pos c3] at H
    have c3b0 : ((l0.length : Int) == (l1.length : Int)) = true := beq_iff_eq.mpr c3
    have c3b1 : ((l0.length : Int) != (l1.length : Int)) = false := bne_eq_false_iff_eq.mpr c3
    have c3b2 : (l0.length == l1.length) = true := by first | simpa using c3 | (simp at c3 ⊢; omega)
    clear c3
    have H' := Aside0.mk H
    clear H
    go_enter Try.func33, Try.ntmps33
    go_wp2
    repeat (go_quiet (fail); try go_wp2)
    go_loopg [13] k (fun kq v13 w' => ∃ (x13_1 : Int), v13 = .int .i64 x13_1 ∧ Aside0 (slices_Equal_string_string.l0 kq l0 l1 (l0.length : Int) x13_1 = some r) ∧ Aside0 (kq ≤ k) ∧ Drawn0 w w')
    case atStart => exact ⟨(0), (by first | rfl | (simp; done) | (simp [*]; done)), H', ⟨Nat.le_refl _⟩, by repeat (first | exact Drawn0.refl _ | apply Drawn0.step)⟩
    case round =>
      clear H'
      try clear c1
      try clear p2
      try clear c3
      try clear c3b0
      try clear c3b1
      try clear c3b2
      obtain ⟨x13_1, rfl, HA, HK1, ⟨m1, rfl⟩⟩ := hrel
      cases gk with
      | zero => exact absurd HA.out (by simp [slices_Equal_string_string.l0])
      | succ k1 =>
        have H := HA.out
        clear HA
        simp only [slices_Equal_string_string.l0] at H
        by_cases c4 : x13_1 < (l0.length : Int)
        · rw [if_pos c4] at H
          have c4b0 : decide (x13_1 < (l0.length : Int)) = true := decide_eq_true c4
          clear c4
          by_cases c5 : 0 ≤ x13_1
          · rw [if_pos c5] at H
            have c5b0 : decide (0 ≤ x13_1) = true := decide_eq_true c5
            clear c5
            by_cases c6 : x13_1 < (l0.length : Int)
            · rw [if_pos c6] at H
              have c6b0 : decide (x13_1 < (l0.length : Int)) = true := decide_eq_true c6
              clear c6
              by_cases c7 : x13_1 < (l1.length : Int)
              · rw [if_pos c7] at H
                have c7b0 : decide (x13_1 < (l1.length : Int)) = true := decide_eq_true c7
                clear c7
                by_cases c8 : (rdOf ByteArray.empty l0 x13_1).toList = (rdOf ByteArray.empty l1 x13_1).toList
                · rw [if_pos c8] at H
                  have c8b0 : ((rdOf ByteArray.empty l0 x13_1).toList == (rdOf ByteArray.empty l1 x13_1).toList) = true := beq_iff_eq.mpr c8
                  have c8b1 : ((rdOf ByteArray.empty l0 x13_1).toList != (rdOf ByteArray.empty l1 x13_1).toList) = false := bne_eq_false_iff_eq.mpr c8
                  clear c8
                  have H' := Aside0.mk H
                  clear H
                  have p561 : 0 ≤ (x13_1 : Int) := of_decide_eq_true (by first | (with_reducible assumption) | assumption)
                  have q561 : x13_1 < (l0.length : Int) := of_decide_eq_true (by first | (with_reducible assumption) | assumption)
                  obtain ⟨ad561, e561, hx561_0⟩ := Kd.at_string HR0.out x13_1 p561 q561
                  cases e561
                  replace p561 := eq_true p561
                  replace q561 := eq_true q561
                  have p562 : 0 ≤ (x13_1 : Int) := of_decide_eq_true (by first | (with_reducible assumption) | assumption)
                  have q562 : x13_1 < (l1.length : Int) := of_decide_eq_true (by first | (with_reducible assumption) | assumption)
                  obtain ⟨ad562, e562, hx562_0⟩ := Kd.at_string HR1.out x13_1 p562 q562
                  cases e562
                  replace p562 := eq_true p562
                  replace q562 := eq_true q562
                  go_wp2
                  repeat (go_quiet (fail); try go_wp2)
                  go_roundg k1
                  case measure => have := HK1.out; omega
                  case rel => exact ⟨(wrap64 (x13_1 + 1)), (by first | rfl | (simp; done) | (simp [*]; done)), H', ⟨by have := HK1.out; omega⟩, by repeat (first | exact Drawn0.refl _ | apply Drawn0.step)⟩
                · rw [if_neg c8] at H
                  have c8b0 : ((rdOf ByteArray.empty l0 x13_1).toList == (rdOf ByteArray.empty l1 x13_1).toList) = false := beq_eq_false_iff_ne.mpr c8
                  have c8b1 : ((rdOf ByteArray.empty l0 x13_1).toList != (rdOf ByteArray.empty l1 x13_1).toList) = true := bne_iff_ne.mpr c8
                  obtain rfl := Option.some.inj H
                  have p561 : 0 ≤ (x13_1 : Int) := of_decide_eq_true (by first | (with_reducible assumption) | assumption)
                  have q561 : x13_1 < (l0.length : Int) := of_decide_eq_true (by first | (with_reducible assumption) | assumption)
                  obtain ⟨ad561, e561, hx561_0⟩ := Kd.at_string HR0.out x13_1 p561 q561
                  cases e561
                  replace p561 := eq_true p561
                  replace q561 := eq_true q561
                  have p562 : 0 ≤ (x13_1 : Int) := of_decide_eq_true (by first | (with_reducible assumption) | assumption)
                  have q562 : x13_1 < (l1.length : Int) := of_decide_eq_true (by first | (with_reducible assumption) | assumption)
                  obtain ⟨ad562, e562, hx562_0⟩ := Kd.at_string HR1.out x13_1 p562 q562
                  cases e562
                  replace p562 := eq_true p562
                  replace q562 := eq_true q562
                  go_wp2
                  repeat (go_quiet (fail); try go_wp2)
                  go_ret
                  exact ⟨by first | rfl | (simp; done) | (simp [*]; done), by repeat (first | exact Drawn0.refl _ | apply Drawn0.step)⟩
              · rw [if_neg c7] at H
                exact absurd H (by simp)
            · rw [if_neg c6] at H
              exact absurd H (by simp)
          · rw [if_neg c5] at H
            exact absurd H (by simp)
        · rw [if_neg c4] at H
          have c4b0 : decide (x13_1 < (l0.length : Int)) = false := decide_eq_false c4
          clear c4
          obtain rfl := Option.some.inj H
          go_wp2
          repeat (go_quiet (fail); try go_wp2)
          go_ret
          exact ⟨by first | rfl | (simp; done) | (simp [*]; done), by repeat (first | exact Drawn0.refl _ | apply Drawn0.step)⟩
  · rw [if_neg c3] at H
    have c3b0 : ((l0.length : Int) == (l1.length : Int)) = false := beq_eq_false_iff_ne.mpr c3
    have c3b1 : ((l0.length : Int) != (l1.length : Int)) = true := bne_iff_ne.mpr c3
    have c3b2 : (l0.length == l1.length) = false := by first | simpa using c3 | (simp at c3 ⊢; omega)
    obtain rfl := Option.some.inj H
    go_enter Try.func33, Try.ntmps33
    go_wp2
    repeat (go_quiet (fail); try go_wp2)
    go_ret
    exact ⟨by first | rfl | (simp; done) | (simp [*]; done), by repeat (first | exact Drawn0.refl _ | apply Drawn0.step)⟩
end Go.Proofs.Ytphnmaobpefoiaa.XA
end
section
namespace Go.Proofs.Ytphnmaobpefoiaa.XA
open Go.RowKit Go.Proofs.YtphnmaobpefoiaaXW Go.Proofs.YtphnmaobpefoiaaW.PrintWords Go.Proofs.YtphnmaobpefoiaaW.PrintLast Go.Proofs.YtphnmaobpefoiaaW.PrintMore
attribute [local go_sem] max2_int min2_int max_two min_two max_three min_three max_four min_four sleq
set_option linter.unusedVariables false
set_option linter.unusedSimpArgs false
def peristyleref5_SameVector.f (k : Nat) (a0_0 : Int) (l0_1 : List Bool) (l0_2 : List Int) (l0_3 : List ByteArray) (l0_4 : List ByteArray) (l0_5 : List Int) (a1_0 : Int) (l1_1 : List Bool) (l1_2 : List Int) (l1_3 : List ByteArray) (l1_4 : List ByteArray) (l1_5 : List Int) : Option (Bool) := if a0_0 = a1_0 then ((slices_Equal_bool_bool.f k l0_1 l1_1).bind fun t565 => (if t565 = true then ((slices_Equal_int_int.f k l0_2 l1_2).bind fun t566 => (if t566 = true then ((slices_Equal_string_string.f k l0_3 l1_3).bind fun t567 => (if t567 = true then ((slices_Equal_string_string.f k l0_4 l1_4).bind fun t568 => (if t568 = true then ((slices_Equal_int_int.f k l0_5 l1_5).bind fun t569 => (some t569)) else (some false))) else (some false))) else (some false))) else (some false))) else (some false)
theorem peristyleref5_SameVector.mono : ∀ a0 a1 a2 a3 a4 a5 a6 a7 a8 a9 a10 a11 k, LeO (peristyleref5_SameVector.f k a0 a1 a2 a3 a4 a5 a6 a7 a8 a9 a10 a11) (peristyleref5_SameVector.f (k + 1) a0 a1 a2 a3 a4 a5 a6 a7 a8 a9 a10 a11) := by
  intro a0 a1 a2 a3 a4 a5 a6 a7 a8 a9 a10 a11 k
  unfold peristyleref5_SameVector.f
  repeat' first
      | (with_reducible exact slices_Equal_bool_bool.mono _ _ _)
      | (with_reducible exact slices_Equal_int_int.mono _ _ _)
      | (with_reducible exact slices_Equal_string_string.mono _ _ _)
      | (with_reducible exact LeO.refl _)
      | (with_reducible exact LeO.none _)
      | (with_reducible refine LeO.ite ?_ ?_)
      | (with_reducible refine LeO.bind ?_ (fun _ => ?_))
      | exact slices_Equal_bool_bool.mono _ _ _
      | exact slices_Equal_int_int.mono _ _ _
      | exact slices_Equal_string_string.mono _ _ _
      | exact LeO.none _
      | refine LeO.ite ?_ ?_
      | refine LeO.bind ?_ (fun _ => ?_)
set_option maxHeartbeats 8000000 in
set_option maxRecDepth 100000 in
theorem peristyleref5_SameVector.calls (k : Nat) (a0_0 : Int) (A0_1 : Option Addr) (c0_1 : Nat) (l0_1 : List Bool) (A0_2 : Option Addr) (c0_2 : Nat) (l0_2 : List Int) (A0_3 : Option Addr) (c0_3 : Nat) (l0_3 : List ByteArray) (A0_4 : Option Addr) (c0_4 : Nat) (l0_4 : List ByteArray) (A0_5 : Option Addr) (c0_5 : Nat) (l0_5 : List Int) (a1_0 : Int) (A1_1 : Option Addr) (c1_1 : Nat) (l1_1 : List Bool) (A1_2 : Option Addr) (c1_2 : Nat) (l1_2 : List Int) (A1_3 : Option Addr) (c1_3 : Nat) (l1_3 : List ByteArray) (A1_4 : Option Addr) (c1_4 : Nat) (l1_4 : List ByteArray) (A1_5 : Option Addr) (c1_5 : Nat) (l1_5 : List Int) (r : Bool) (w : World) (hr0_1 : Kd.C Kd.bool w A0_1 l0_1.length l0_1) (hc0_1 : l0_1.length ≤ c0_1) (hr0_2 : Kd.C (Kd.int .i64) w A0_2 l0_2.length l0_2) (hc0_2 : l0_2.length ≤ c0_2) (hr0_3 : Kd.C Kd.string w A0_3 l0_3.length l0_3) (hc0_3 : l0_3.length ≤ c0_3) (hr0_4 : Kd.C Kd.string w A0_4 l0_4.length l0_4) (hc0_4 : l0_4.length ≤ c0_4) (hr0_5 : Kd.C (Kd.int .i64) w A0_5 l0_5.length l0_5) (hc0_5 : l0_5.length ≤ c0_5) (hr1_1 : Kd.C Kd.bool w A1_1 l1_1.length l1_1) (hc1_1 : l1_1.length ≤ c1_1) (hr1_2 : Kd.C (Kd.int .i64) w A1_2 l1_2.length l1_2) (hc1_2 : l1_2.length ≤ c1_2) (hr1_3 : Kd.C Kd.string w A1_3 l1_3.length l1_3) (hc1_3 : l1_3.length ≤ c1_3) (hr1_4 : Kd.C Kd.string w A1_4 l1_4.length l1_4) (hc1_4 : l1_4.length ≤ c1_4) (hr1_5 : Kd.C (Kd.int .i64) w A1_5 l1_5.length l1_5) (hc1_5 : l1_5.length ≤ c1_5) (h : peristyleref5_SameVector.f k a0_0 l0_1 l0_2 l0_3 l0_4 l0_5 a1_0 l1_1 l1_2 l1_3 l1_4 l1_5 = some r) :
    Calls Try.prog 11 #[.agg #[.int .i64 a0_0, .slice A0_1 l0_1.length c0_1, .slice A0_2 l0_2.length c0_2, .slice A0_3 l0_3.length c0_3, .slice A0_4 l0_4.length c0_4, .slice A0_5 l0_5.length c0_5], .agg #[.int .i64 a1_0, .slice A1_1 l1_1.length c1_1, .slice A1_2 l1_2.length c1_2, .slice A1_3 l1_3.length c1_3, .slice A1_4 l1_4.length c1_4, .slice A1_5 l1_5.length c1_5]] w fun e w' => e = .returned (.bool r) ∧ Below w.heap.size w w' := by
  have hu39 := Try.underlying39
  have HR0_1 := Aside0.mk hr0_1
  have HC0_1 := Aside0.mk hc0_1
  clear hr0_1 hc0_1
  have HR0_2 := Aside0.mk hr0_2
  have HC0_2 := Aside0.mk hc0_2
  clear hr0_2 hc0_2
  have HR0_3 := Aside0.mk hr0_3
  have HC0_3 := Aside0.mk hc0_3
  clear hr0_3 hc0_3
  have HR0_4 := Aside0.mk hr0_4
  have HC0_4 := Aside0.mk hc0_4
  clear hr0_4 hc0_4
  have HR0_5 := Aside0.mk hr0_5
  have HC0_5 := Aside0.mk hc0_5
  clear hr0_5 hc0_5
  have HR1_1 := Aside0.mk hr1_1
  have HC1_1 := Aside0.mk hc1_1
  clear hr1_1 hc1_1
  have HR1_2 := Aside0.mk hr1_2
  have HC1_2 := Aside0.mk hc1_2
  clear hr1_2 hc1_2
  have HR1_3 := Aside0.mk hr1_3
  have HC1_3 := Aside0.mk hc1_3
  clear hr1_3 hc1_3
  have HR1_4 := Aside0.mk hr1_4
  have HC1_4 := Aside0.mk hc1_4
  clear hr1_4 hc1_4
  have HR1_5 := Aside0.mk hr1_5
  have HC1_5 := Aside0.mk hc1_5
  clear hr1_5 hc1_5
  have HB := Aside0.mk (Below.refl w.heap.size w)
  have H : (if a0_0 = a1_0 then ((slices_Equal_bool_bool.f k l0_1 l1_1).bind fun t565 => (if t565 = true then ((slices_Equal_int_int.f k l0_2 l1_2).bind fun t566 => (if t566 = true then ((slices_Equal_string_string.f k l0_3 l1_3).bind fun t567 => (if t567 = true then ((slices_Equal_string_string.f k l0_4 l1_4).bind fun t568 => (if t568 = true then ((slices_Equal_int_int.f k l0_5 l1_5).bind fun t569 => (some t569)) else (some false))) else (some false))) else (some false))) else (some false))) else (some false)) = some r := h
  clear h
  by_cases c3 : a0_0 = a1_0
  · rw [if_pos c3] at H
    have c3b0 : (a0_0 == a1_0) = true := beq_iff_eq.mpr c3
    have c3b1 : (a0_0 != a1_0) = false := bne_eq_false_iff_eq.mpr c3
    clear c3
    replace H := Option.bind_eq_some_iff.mp H
    obtain ⟨t565, A40, H⟩ := H
    replace H : (if t565 = true then ((slices_Equal_int_int.f k l0_2 l1_2).bind fun t566 => (if t566 = true then ((slices_Equal_string_string.f k l0_3 l1_3).bind fun t567 => (if t567 = true then ((slices_Equal_string_string.f k l0_4 l1_4).bind fun t568 => (if t568 = true then ((slices_Equal_int_int.f k l0_5 l1_5).bind fun t569 => (some t569)) else (some false))) else (some false))) else (some false))) else (some false)) = some r := H
    have A4 := Aside0.mk A40
    clear A40
    by_cases c5 : t565 = true
    · subst c5
      have H1 : ((slices_Equal_int_int.f k l0_2 l1_2).bind fun t566 => (if t566 = true then ((slices_Equal_string_string.f k l0_3 l1_3).bind fun t567 => (if t567 = true then ((slices_Equal_string_string.f k l0_4 l1_4).bind fun t568 => (if t568 = true then ((slices_Equal_int_int.f k l0_5 l1_5).bind fun t569 => (some t569)) else (some false))) else (some false))) else (some false))) = some r := by rw [if_pos rfl] at H; exact H
      clear H
      have H := H1
      clear H1
      replace H := Option.bind_eq_some_iff.mp H
      obtain ⟨t566, A60, H⟩ := H
      replace H : (if t566 = true then ((slices_Equal_string_string.f k l0_3 l1_3).bind fun t567 => (if t567 = true then ((slices_Equal_string_string.f k l0_4 l1_4).bind fun t568 => (if t568 = true then ((slices_Equal_int_int.f k l0_5 l1_5).bind fun t569 => (some t569)) else (some false))) else (some false))) else (some false)) = some r := H
      have A6 := Aside0.mk A60
      clear A60
      by_cases c7 : t566 = true
      · subst c7
        have H1 : ((slices_Equal_string_string.f k l0_3 l1_3).bind fun t567 => (if t567 = true then ((slices_Equal_string_string.f k l0_4 l1_4).bind fun t568 => (if t568 = true then ((slices_Equal_int_int.f k l0_5 l1_5).bind fun t569 => (some t569)) else (some false))) else (some false))) = some r := by rw [if_pos rfl] at H; exact H
        clear H
        have H := H1
        clear H1
        replace H := Option.bind_eq_some_iff.mp H
        obtain ⟨t567, A80, H⟩ := H
        replace H : (if t567 = true then ((slices_Equal_string_string.f k l0_4 l1_4).bind fun t568 => (if t568 = true then ((slices_Equal_int_int.f k l0_5 l1_5).bind fun t569 => (some t569)) else (some false))) else (some false)) = some r := H
        have A8 := Aside0.mk A80
        clear A80
        by_cases c9 : t567 = true
        · subst c9
          have H1 : ((slices_Equal_string_string.f k l0_4 l1_4).bind fun t568 => (if t568 = true then ((slices_Equal_int_int.f k l0_5 l1_5).bind fun t569 => (some t569)) else (some false))) = some r := by rw [if_pos rfl] at H; exact H
          clear H
          have H := H1
          clear H1
          replace H := Option.bind_eq_some_iff.mp H
          obtain ⟨t568, A100, H⟩ := H
          replace H : (if t568 = true then ((slices_Equal_int_int.f k l0_5 l1_5).bind fun t569 => (some t569)) else (some false)) = some r := H
          have A10 := Aside0.mk A100
          clear A100
          by_cases c11 : t568 = true
          · subst c11
            have H1 : ((slices_Equal_int_int.f k l0_5 l1_5).bind fun t569 => (some t569)) = some r := by rw [if_pos rfl] at H; exact H
            clear H
            have H := H1
            clear H1
            replace H := Option.bind_eq_some_iff.mp H
            obtain ⟨t569, A120, H⟩ := H
            replace H : (some t569) = some r := H
            have A12 := Aside0.mk A120
            clear A120
            obtain rfl := Option.some.inj H
            go_enter Try.func11, Try.ntmps11
            go_wp2_with (first | ((with_reducible refine gate_dst (N := 2) rfl ?_); refine box_event ?hg (N := 2) ?hd (cs := #[.int .i64 a0_0, .slice A0_1 l0_1.length c0_1, .slice A0_2 l0_2.length c0_2, .slice A0_3 l0_3.length c0_3, .slice A0_4 l0_4.length c0_4, .slice A0_5 l0_5.length c0_5]) (t := 39) ?hr ?_; (case hd => rfl); (case hg => rfl); (case hr => first | (go_simp; done) | (go_simp; rfl)); intro gb563 hg w13 hbox hb; have n0_ := Aside0.mk (below_step (below_u HB.out) hb); have n1_ := Aside0.mk (hbox); have n2_ := Aside0.mk ((by rw [hg]; exact (below_size (below_u HB.out)) : w.heap.size ≤ gb563)); have n3_ := Aside0.mk ((by rw [hg]; exact (below_size (below_u HB.out)) : w.heap.size ≤ gb563)); clear HB; have HB := n0_; have BK563 := n1_; have GW563 := n2_; have GE563 := n3_; clear n0_ n1_ n2_ n3_; clear hb hbox hg) | ((with_reducible refine gate_dst (N := 3) rfl ?_); refine box_event ?hg (N := 3) ?hd (cs := #[.int .i64 a1_0, .slice A1_1 l1_1.length c1_1, .slice A1_2 l1_2.length c1_2, .slice A1_3 l1_3.length c1_3, .slice A1_4 l1_4.length c1_4, .slice A1_5 l1_5.length c1_5]) (t := 39) ?hr ?_; (case hd => rfl); (case hg => rfl); (case hr => first | (go_simp; done) | (go_simp; rfl)); intro gb564 hg w14 hbox hb; have n0_ := Aside0.mk (blk_below (g := gb563) (o := .cells #[.int .i64 a0_0, .slice A0_1 l0_1.length c0_1, .slice A0_2 l0_2.length c0_2, .slice A0_3 l0_3.length c0_3, .slice A0_4 l0_4.length c0_4, .slice A0_5 l0_5.length c0_5] 39 (0, 0)) (blk_u BK563.out) hb); have n1_ := Aside0.mk (below_step (by repeat (first | (with_reducible first | exact HB.out | apply below_alloc | apply pw_below_drewN | apply below_drew1 | refine below_set ?_ GE563.out) | exact HB.out)) hb); have n2_ := Aside0.mk (hbox); have n3_ := Aside0.mk ((by rw [hg]; exact (below_size (by repeat (first | (with_reducible first | exact HB.out | apply below_alloc | apply pw_below_drewN | apply below_drew1 | refine below_set ?_ GE563.out) | exact HB.out))) : w.heap.size ≤ gb564)); have n4_ := Aside0.mk ((by rw [hg]; exact (below_size (by repeat (first | (with_reducible first | exact HB.out | apply below_alloc | apply pw_below_drewN | apply below_drew1 | refine below_set ?_ GE563.out) | exact HB.out))) : w.heap.size ≤ gb564)); have n5_ := Aside0.mk ((by rw [hg]; exact Nat.ne_of_lt (blk_lt (g := gb563) (o := .cells #[.int .i64 a0_0, .slice A0_1 l0_1.length c0_1, .slice A0_2 l0_2.length c0_2, .slice A0_3 l0_3.length c0_3, .slice A0_4 l0_4.length c0_4, .slice A0_5 l0_5.length c0_5] 39 (0, 0)) (blk_u BK563.out)) : gb563 ≠ gb564)); have n6_ := Aside0.mk ((by rw [hg]; exact Nat.ne_of_gt (blk_lt (g := gb563) (o := .cells #[.int .i64 a0_0, .slice A0_1 l0_1.length c0_1, .slice A0_2 l0_2.length c0_2, .slice A0_3 l0_3.length c0_3, .slice A0_4 l0_4.length c0_4, .slice A0_5 l0_5.length c0_5] 39 (0, 0)) (blk_u BK563.out)) : gb564 ≠ gb563)); clear BK563; clear HB; have BK563 := n0_; have HB := n1_; have BK564 := n2_; have GW564 := n3_; have GE564 := n4_; have NB563_564 := n5_; have NB564_563 := n6_; clear n0_ n1_ n2_ n3_ n4_ n5_ n6_; clear hb hbox hg; have hnb15 := NB563_564.out; have hnc15 := NB564_563.out; have hcz16_0 : w14.cell? ⟨gb563, 0, none⟩ = some (.int .i64 a0_0) := (blk_cell BK563.out 0).trans rfl; have hcz16_1 : w14.cell? ⟨gb563, 1, none⟩ = some (.slice A0_1 l0_1.length c0_1) := (blk_cell BK563.out 1).trans rfl; have hcz16_2 : w14.cell? ⟨gb563, 2, none⟩ = some (.slice A0_2 l0_2.length c0_2) := (blk_cell BK563.out 2).trans rfl; have hcz16_3 : w14.cell? ⟨gb563, 3, none⟩ = some (.slice A0_3 l0_3.length c0_3) := (blk_cell BK563.out 3).trans rfl; have hcz16_4 : w14.cell? ⟨gb563, 4, none⟩ = some (.slice A0_4 l0_4.length c0_4) := (blk_cell BK563.out 4).trans rfl; have hcz16_5 : w14.cell? ⟨gb563, 5, none⟩ = some (.slice A0_5 l0_5.length c0_5) := (blk_cell BK563.out 5).trans rfl; have hfz16_0 := blk_frozen BK563.out 0; have hfz16_1 := blk_frozen BK563.out 1; have hfz16_2 := blk_frozen BK563.out 2; have hfz16_3 := blk_frozen BK563.out 3; have hfz16_4 := blk_frozen BK563.out 4; have hfz16_5 := blk_frozen BK563.out 5; have hcz17_0 : w14.cell? ⟨gb564, 0, none⟩ = some (.int .i64 a1_0) := (blk_cell BK564.out 0).trans rfl; have hcz17_1 : w14.cell? ⟨gb564, 1, none⟩ = some (.slice A1_1 l1_1.length c1_1) := (blk_cell BK564.out 1).trans rfl; have hcz17_2 : w14.cell? ⟨gb564, 2, none⟩ = some (.slice A1_2 l1_2.length c1_2) := (blk_cell BK564.out 2).trans rfl; have hcz17_3 : w14.cell? ⟨gb564, 3, none⟩ = some (.slice A1_3 l1_3.length c1_3) := (blk_cell BK564.out 3).trans rfl; have hcz17_4 : w14.cell? ⟨gb564, 4, none⟩ = some (.slice A1_4 l1_4.length c1_4) := (blk_cell BK564.out 4).trans rfl; have hcz17_5 : w14.cell? ⟨gb564, 5, none⟩ = some (.slice A1_5 l1_5.length c1_5) := (blk_cell BK564.out 5).trans rfl; have hfz17_0 := blk_frozen BK564.out 0; have hfz17_1 := blk_frozen BK564.out 1; have hfz17_2 := blk_frozen BK564.out 2; have hfz17_3 := blk_frozen BK564.out 3; have hfz17_4 := blk_frozen BK564.out 4; have hfz17_5 := blk_frozen BK564.out 5) | (go_at_call 31; (with_reducible refine (slices_Equal_bool_bool.calls k _ _ l0_1 _ _ l1_1 true _ ?side1 ?side2 ?side3 ?side4 A4.out).mono ?_); (case side1 => repeat (first | exact (Kd.C_below HR0_1.out HB.out) | (with_reducible refine Kd.C_alloc ?_ _) | (with_reducible refine Kd.C_drewN ?_ _) | (with_reducible refine Kd.C_drew ?_))); (case side2 => exact HC0_1.out); (case side3 => repeat (first | exact (Kd.C_below HR1_1.out HB.out) | (with_reducible refine Kd.C_alloc ?_ _) | (with_reducible refine Kd.C_drewN ?_ _) | (with_reducible refine Kd.C_drew ?_))); (case side4 => exact HC1_1.out); rintro e w' ⟨rfl, ⟨nd, rfl⟩⟩) | (go_at_call 32; (with_reducible refine (slices_Equal_int_int.calls k _ _ l0_2 _ _ l1_2 true _ ?side1 ?side2 ?side3 ?side4 A6.out).mono ?_); (case side1 => repeat (first | exact (Kd.C_below HR0_2.out (by repeat (first | (with_reducible first | exact HB.out | apply below_alloc | apply pw_below_drewN | apply below_drew1 | refine below_set ?_ GE563.out | refine below_set ?_ GE564.out) | exact HB.out))) | (with_reducible refine Kd.C_alloc ?_ _) | (with_reducible refine Kd.C_drewN ?_ _) | (with_reducible refine Kd.C_drew ?_))); (case side2 => exact HC0_2.out); (case side3 => repeat (first | exact (Kd.C_below HR1_2.out (by repeat (first | (with_reducible first | exact HB.out | apply below_alloc | apply pw_below_drewN | apply below_drew1 | refine below_set ?_ GE563.out | refine below_set ?_ GE564.out) | exact HB.out))) | (with_reducible refine Kd.C_alloc ?_ _) | (with_reducible refine Kd.C_drewN ?_ _) | (with_reducible refine Kd.C_drew ?_))); (case side4 => exact HC1_2.out); rintro e w' ⟨rfl, ⟨nd, rfl⟩⟩) | (go_at_call 33; (with_reducible refine (slices_Equal_string_string.calls k _ _ l0_3 _ _ l1_3 true _ ?side1 ?side2 ?side3 ?side4 A8.out).mono ?_); (case side1 => repeat (first | exact (Kd.C_below HR0_3.out (by repeat (first | (with_reducible first | exact HB.out | apply below_alloc | apply pw_below_drewN | apply below_drew1 | refine below_set ?_ GE563.out | refine below_set ?_ GE564.out) | exact HB.out))) | (with_reducible refine Kd.C_alloc ?_ _) | (with_reducible refine Kd.C_drewN ?_ _) | (with_reducible refine Kd.C_drew ?_))); (case side2 => exact HC0_3.out); (case side3 => repeat (first | exact (Kd.C_below HR1_3.out (by repeat (first | (with_reducible first | exact HB.out | apply below_alloc | apply pw_below_drewN | apply below_drew1 | refine below_set ?_ GE563.out | refine below_set ?_ GE564.out) | exact HB.out))) | (with_reducible refine Kd.C_alloc ?_ _) | (with_reducible refine Kd.C_drewN ?_ _) | (with_reducible refine Kd.C_drew ?_))); (case side4 => exact HC1_3.out); rintro e w' ⟨rfl, ⟨nd, rfl⟩⟩) | (go_at_call 33; (with_reducible refine (slices_Equal_string_string.calls k _ _ l0_4 _ _ l1_4 true _ ?side1 ?side2 ?side3 ?side4 A10.out).mono ?_); (case side1 => repeat (first | exact (Kd.C_below HR0_4.out (by repeat (first | (with_reducible first | exact HB.out | apply below_alloc | apply pw_below_drewN | apply below_drew1 | refine below_set ?_ GE563.out | refine below_set ?_ GE564.out) | exact HB.out))) | (with_reducible refine Kd.C_alloc ?_ _) | (with_reducible refine Kd.C_drewN ?_ _) | (with_reducible refine Kd.C_drew ?_))); (case side2 => exact HC0_4.out); (case side3 => repeat (first | exact (Kd.C_below HR1_4.out (by repeat (first | (with_reducible first | exact HB.out | apply below_alloc | apply pw_below_drewN | apply below_drew1 | refine below_set ?_ GE563.out | refine below_set ?_ GE564.out) | exact HB.out))) | (with_reducible refine Kd.C_alloc ?_ _) | (with_reducible refine Kd.C_drewN ?_ _) | (with_reducible refine Kd.C_drew ?_))); (case side4 => exact HC1_4.out); rintro e w' ⟨rfl, ⟨nd, rfl⟩⟩) | (go_at_call 32; (with_reducible refine (slices_Equal_int_int.calls k _ _ l0_5 _ _ l1_5 t569 _ ?side1 ?side2 ?side3 ?side4 A12.out).mono ?_); (case side1 => repeat (first | exact (Kd.C_below HR0_5.out (by repeat (first | (with_reducible first | exact HB.out | apply below_alloc | apply pw_below_drewN | apply below_drew1 | refine below_set ?_ GE563.out | refine below_set ?_ GE564.out) | exact HB.out))) | (with_reducible refine Kd.C_alloc ?_ _) | (with_reducible refine Kd.C_drewN ?_ _) | (with_reducible refine Kd.C_drew ?_))); (case side2 => exact HC0_5.out); (case side3 => repeat (first | exact (Kd.C_below HR1_5.out (by repeat (first | (with_reducible first | exact HB.out | apply below_alloc | apply pw_below_drewN | apply below_drew1 | refine below_set ?_ GE563.out | refine below_set ?_ GE564.out) | exact HB.out))) | (with_reducible refine Kd.C_alloc ?_ _) | (with_reducible refine Kd.C_drewN ?_ _) | (with_reducible refine Kd.C_drew ?_))); (case side4 => exact HC1_5.out); rintro e w' ⟨rfl, ⟨nd, rfl⟩⟩))
            go_ret
            exact ⟨by first | rfl | (simp [errW_none, errW_some] <;> rfl) | (simp [*, errW_none, errW_some] <;> rfl), by repeat (first | (with_reducible first | exact HB.out | apply below_alloc | apply pw_below_drewN | apply below_drew1 | refine below_set ?_ GE563.out | refine below_set ?_ GE564.out) | exact HB.out)⟩
          · replace c11 := Bool.eq_false_iff.mpr c11
            subst c11
            have H1 : (some false) = some r := by rw [if_neg (show ¬ (false = true) by decide)] at H; exact H
            clear H
            have H := H1
            clear H1
            obtain rfl := Option.some.inj H
            go_enter Try.func11, Try.ntmps11
            go_wp2_with (first | ((with_reducible refine gate_dst (N := 2) rfl ?_); refine box_event ?hg (N := 2) ?hd (cs := #[.int .i64 a0_0, .slice A0_1 l0_1.length c0_1, .slice A0_2 l0_2.length c0_2, .slice A0_3 l0_3.length c0_3, .slice A0_4 l0_4.length c0_4, .slice A0_5 l0_5.length c0_5]) (t := 39) ?hr ?_; (case hd => rfl); (case hg => rfl); (case hr => first | (go_simp; done) | (go_simp; rfl)); intro gb563 hg w18 hbox hb; have n0_ := Aside0.mk (below_step (below_u HB.out) hb); have n1_ := Aside0.mk (hbox); have n2_ := Aside0.mk ((by rw [hg]; exact (below_size (below_u HB.out)) : w.heap.size ≤ gb563)); have n3_ := Aside0.mk ((by rw [hg]; exact (below_size (below_u HB.out)) : w.heap.size ≤ gb563)); clear HB; have HB := n0_; have BK563 := n1_; have GW563 := n2_; have GE563 := n3_; clear n0_ n1_ n2_ n3_; clear hb hbox hg) | ((with_reducible refine gate_dst (N := 3) rfl ?_); refine box_event ?hg (N := 3) ?hd (cs := #[.int .i64 a1_0, .slice A1_1 l1_1.length c1_1, .slice A1_2 l1_2.length c1_2, .slice A1_3 l1_3.length c1_3, .slice A1_4 l1_4.length c1_4, .slice A1_5 l1_5.length c1_5]) (t := 39) ?hr ?_; (case hd => rfl); (case hg => rfl); (case hr => first | (go_simp; done) | (go_simp; rfl)); intro gb564 hg w19 hbox hb; have n0_ := Aside0.mk (blk_below (g := gb563) (o := .cells #[.int .i64 a0_0, .slice A0_1 l0_1.length c0_1, .slice A0_2 l0_2.length c0_2, .slice A0_3 l0_3.length c0_3, .slice A0_4 l0_4.length c0_4, .slice A0_5 l0_5.length c0_5] 39 (0, 0)) (blk_u BK563.out) hb); have n1_ := Aside0.mk (below_step (by repeat (first | (with_reducible first | exact HB.out | apply below_alloc | apply pw_below_drewN | apply below_drew1 | refine below_set ?_ GE563.out) | exact HB.out)) hb); have n2_ := Aside0.mk (hbox); have n3_ := Aside0.mk ((by rw [hg]; exact (below_size (by repeat (first | (with_reducible first | exact HB.out | apply below_alloc | apply pw_below_drewN | apply below_drew1 | refine below_set ?_ GE563.out) | exact HB.out))) : w.heap.size ≤ gb564)); have n4_ := Aside0.mk ((by rw [hg]; exact (below_size (by repeat (first | (with_reducible first | exact HB.out | apply below_alloc | apply pw_below_drewN | apply below_drew1 | refine below_set ?_ GE563.out) | exact HB.out))) : w.heap.size ≤ gb564)); have n5_ := Aside0.mk ((by rw [hg]; exact Nat.ne_of_lt (blk_lt (g := gb563) (o := .cells #[.int .i64 a0_0, .slice A0_1 l0_1.length c0_1, .slice A0_2 l0_2.length c0_2, .slice A0_3 l0_3.length c0_3, .slice A0_4 l0_4.length c0_4, .slice A0_5 l0_5.length c0_5] 39 (0, 0)) (blk_u BK563.out)) : gb563 ≠ gb564)); have n6_ := Aside0.mk ((by rw [hg]; exact Nat.ne_of_gt (blk_lt (g := gb563) (o := .cells #[.int .i64 a0_0, .slice A0_1 l0_1.length c0_1, .slice A0_2 l0_2.length c0_2, .slice A0_3 l0_3.length c0_3, .slice A0_4 l0_4.length c0_4, .slice A0_5 l0_5.length c0_5] 39 (0, 0)) (blk_u BK563.out)) : gb564 ≠ gb563)); clear BK563; clear HB; have BK563 := n0_; have HB := n1_; have BK564 := n2_; have GW564 := n3_; have GE564 := n4_; have NB563_564 := n5_; have NB564_563 := n6_; clear n0_ n1_ n2_ n3_ n4_ n5_ n6_; clear hb hbox hg; have hnb20 := NB563_564.out; have hnc20 := NB564_563.out; have hcz21_0 : w19.cell? ⟨gb563, 0, none⟩ = some (.int .i64 a0_0) := (blk_cell BK563.out 0).trans rfl; have hcz21_1 : w19.cell? ⟨gb563, 1, none⟩ = some (.slice A0_1 l0_1.length c0_1) := (blk_cell BK563.out 1).trans rfl; have hcz21_2 : w19.cell? ⟨gb563, 2, none⟩ = some (.slice A0_2 l0_2.length c0_2) := (blk_cell BK563.out 2).trans rfl; have hcz21_3 : w19.cell? ⟨gb563, 3, none⟩ = some (.slice A0_3 l0_3.length c0_3) := (blk_cell BK563.out 3).trans rfl; have hcz21_4 : w19.cell? ⟨gb563, 4, none⟩ = some (.slice A0_4 l0_4.length c0_4) := (blk_cell BK563.out 4).trans rfl; have hcz21_5 : w19.cell? ⟨gb563, 5, none⟩ = some (.slice A0_5 l0_5.length c0_5) := (blk_cell BK563.out 5).trans rfl; have hfz21_0 := blk_frozen BK563.out 0; have hfz21_1 := blk_frozen BK563.out 1; have hfz21_2 := blk_frozen BK563.out 2; have hfz21_3 := blk_frozen BK563.out 3; have hfz21_4 := blk_frozen BK563.out 4; have hfz21_5 := blk_frozen BK563.out 5; have hcz22_0 : w19.cell? ⟨gb564, 0, none⟩ = some (.int .i64 a1_0) := (blk_cell BK564.out 0).trans rfl; have hcz22_1 : w19.cell? ⟨gb564, 1, none⟩ = some (.slice A1_1 l1_1.length c1_1) := (blk_cell BK564.out 1).trans rfl; have hcz22_2 : w19.cell? ⟨gb564, 2, none⟩ = some (.slice A1_2 l1_2.length c1_2) := (blk_cell BK564.out 2).trans rfl; have hcz22_3 : w19.cell? ⟨gb564, 3, none⟩ = some (.slice A1_3 l1_3.length c1_3) := (blk_cell BK564.out 3).trans rfl; have hcz22_4 : w19.cell? ⟨gb564, 4, none⟩ = some (.slice A1_4 l1_4.length c1_4) := (blk_cell BK564.out 4).trans rfl; have hcz22_5 : w19.cell? ⟨gb564, 5, none⟩ = some (.slice A1_5 l1_5.length c1_5) := (blk_cell BK564.out 5).trans rfl; have hfz22_0 := blk_frozen BK564.out 0; have hfz22_1 := blk_frozen BK564.out 1; have hfz22_2 := blk_frozen BK564.out 2; have hfz22_3 := blk_frozen BK564.out 3; have hfz22_4 := blk_frozen BK564.out 4; have hfz22_5 := blk_frozen BK564.out 5) | (go_at_call 31; (with_reducible refine (slices_Equal_bool_bool.calls k _ _ l0_1 _ _ l1_1 true _ ?side1 ?side2 ?side3 ?side4 A4.out).mono ?_); (case side1 => repeat (first | exact (Kd.C_below HR0_1.out HB.out) | (with_reducible refine Kd.C_alloc ?_ _) | (with_reducible refine Kd.C_drewN ?_ _) | (with_reducible refine Kd.C_drew ?_))); (case side2 => exact HC0_1.out); (case side3 => repeat (first | exact (Kd.C_below HR1_1.out HB.out) | (with_reducible refine Kd.C_alloc ?_ _) | (with_reducible refine Kd.C_drewN ?_ _) | (with_reducible refine Kd.C_drew ?_))); (case side4 => exact HC1_1.out); rintro e w' ⟨rfl, ⟨nd, rfl⟩⟩) | (go_at_call 32; (with_reducible refine (slices_Equal_int_int.calls k _ _ l0_2 _ _ l1_2 true _ ?side1 ?side2 ?side3 ?side4 A6.out).mono ?_); (case side1 => repeat (first | exact (Kd.C_below HR0_2.out (by repeat (first | (with_reducible first | exact HB.out | apply below_alloc | apply pw_below_drewN | apply below_drew1 | refine below_set ?_ GE563.out | refine below_set ?_ GE564.out) | exact HB.out))) | (with_reducible refine Kd.C_alloc ?_ _) | (with_reducible refine Kd.C_drewN ?_ _) | (with_reducible refine Kd.C_drew ?_))); (case side2 => exact HC0_2.out); (case side3 => repeat (first | exact (Kd.C_below HR1_2.out (by repeat (first | (with_reducible first | exact HB.out | apply below_alloc | apply pw_below_drewN | apply below_drew1 | refine below_set ?_ GE563.out | refine below_set ?_ GE564.out) | exact HB.out))) | (with_reducible refine Kd.C_alloc ?_ _) | (with_reducible refine Kd.C_drewN ?_ _) | (with_reducible refine Kd.C_drew ?_))); (case side4 => exact HC1_2.out); rintro e w' ⟨rfl, ⟨nd, rfl⟩⟩) | (go_at_call 33; (with_reducible refine (slices_Equal_string_string.calls k _ _ l0_3 _ _ l1_3 true _ ?side1 ?side2 ?side3 ?side4 A8.out).mono ?_); (case side1 => repeat (first | exact (Kd.C_below HR0_3.out (by repeat (first | (with_reducible first | exact HB.out | apply below_alloc | apply pw_below_drewN | apply below_drew1 | refine below_set ?_ GE563.out | refine below_set ?_ GE564.out) | exact HB.out))) | (with_reducible refine Kd.C_alloc ?_ _) | (with_reducible refine Kd.C_drewN ?_ _) | (with_reducible refine Kd.C_drew ?_))); (case side2 => exact HC0_3.out); (case side3 => repeat (first | exact (Kd.C_below HR1_3.out (by repeat (first | (with_reducible first | exact HB.out | apply below_alloc | apply pw_below_drewN | apply below_drew1 | refine below_set ?_ GE563.out | refine below_set ?_ GE564.out) | exact HB.out))) | (with_reducible refine Kd.C_alloc ?_ _) | (with_reducible refine Kd.C_drewN ?_ _) | (with_reducible refine Kd.C_drew ?_))); (case side4 => exact HC1_3.out); rintro e w' ⟨rfl, ⟨nd, rfl⟩⟩) | (go_at_call 33; (with_reducible refine (slices_Equal_string_string.calls k _ _ l0_4 _ _ l1_4 false _ ?side1 ?side2 ?side3 ?side4 A10.out).mono ?_); (case side1 => repeat (first | exact (Kd.C_below HR0_4.out (by repeat (first | (with_reducible first | exact HB.out | apply below_alloc | apply pw_below_drewN | apply below_drew1 | refine below_set ?_ GE563.out | refine below_set ?_ GE564.out) | exact HB.out))) | (with_reducible refine Kd.C_alloc ?_ _) | (with_reducible refine Kd.C_drewN ?_ _) | (with_reducible refine Kd.C_drew ?_))); (case side2 => exact HC0_4.out); (case side3 => repeat (first | exact (Kd.C_below HR1_4.out (by repeat (first | (with_reducible first | exact HB.out | apply below_alloc | apply pw_below_drewN | apply below_drew1 | refine below_set ?_ GE563.out | refine below_set ?_ GE564.out) | exact HB.out))) | (with_reducible refine Kd.C_alloc ?_ _) | (with_reducible refine Kd.C_drewN ?_ _) | (with_reducible refine Kd.C_drew ?_))); (case side4 => exact HC1_4.out); rintro e w' ⟨rfl, ⟨nd, rfl⟩⟩))
            go_ret
            exact ⟨by first | rfl | (simp [errW_none, errW_some] <;> rfl) | (simp [*, errW_none, errW_some] <;> rfl), by repeat (first | (with_reducible first | exact HB.out | apply below_alloc | apply pw_below_drewN | apply below_drew1 | refine below_set ?_ GE563.out | refine below_set ?_ GE564.out) | exact HB.out)⟩
        · replace c9 := Bool.eq_false_iff.mpr c9
          subst c9
          have H1 : (some false) = some r := by rw [if_neg (show ¬ (false = true) by decide)] at H; exact H
          clear H
          have H := H1
          clear H1
          obtain rfl := Option.some.inj H
          go_enter Try.func11, Try.ntmps11
          go_wp2_with (first | ((with_reducible refine gate_dst (N := 2) rfl ?_); refine box_event ?hg (N := 2) ?hd (cs := #[.int .i64 a0_0, .slice A0_1 l0_1.length c0_1, .slice A0_2 l0_2.length c0_2, .slice A0_3 l0_3.length c0_3, .slice A0_4 l0_4.length c0_4, .slice A0_5 l0_5.length c0_5]) (t := 39) ?hr ?_; (case hd => rfl); (case hg => rfl); (case hr => first | (go_simp; done) | (go_simp; rfl)); intro gb563 hg w23 hbox hb; have n0_ := Aside0.mk (below_step (below_u HB.out) hb); have n1_ := Aside0.mk (hbox); have n2_ := Aside0.mk ((by rw [hg]; exact (below_size (below_u HB.out)) : w.heap.size ≤ gb563)); have n3_ := Aside0.mk ((by rw [hg]; exact (below_size (below_u HB.out)) : w.heap.size ≤ gb563)); clear HB; have HB := n0_; have BK563 := n1_; have GW563 := n2_; have GE563 := n3_; clear n0_ n1_ n2_ n3_; clear hb hbox hg) | ((with_reducible refine gate_dst (N := 3) rfl ?_); refine box_event ?hg (N := 3) ?hd (cs := #[.int .i64 a1_0, .slice A1_1 l1_1.length c1_1, .slice A1_2 l1_2.length c1_2, .slice A1_3 l1_3.length c1_3, .slice A1_4 l1_4.length c1_4, .slice A1_5 l1_5.length c1_5]) (t := 39) ?hr ?_; (case hd => rfl); (case hg => rfl); (case hr => first | (go_simp; done) | (go_simp; rfl)); intro gb564 hg w24 hbox hb; have n0_ := Aside0.mk (blk_below (g := gb563) (o := .cells #[.int .i64 a0_0, .slice A0_1 l0_1.length c0_1, .slice A0_2 l0_2.length c0_2, .slice A0_3 l0_3.length c0_3, .slice A0_4 l0_4.length c0_4, .slice A0_5 l0_5.length c0_5] 39 (0, 0)) (blk_u BK563.out) hb); have n1_ := Aside0.mk (below_step (by repeat (first | (with_reducible first | exact HB.out | apply below_alloc | apply pw_below_drewN | apply below_drew1 | refine below_set ?_ GE563.out) | exact HB.out)) hb); have n2_ := Aside0.mk (hbox); have n3_ := Aside0.mk ((by rw [hg]; exact (below_size (by repeat (first | (with_reducible first | exact HB.out | apply below_alloc | apply pw_below_drewN | apply below_drew1 | refine below_set ?_ GE563.out) | exact HB.out))) : w.heap.size ≤ gb564)); have n4_ := Aside0.mk ((by rw [hg]; exact (below_size (by repeat (first | (with_reducible first | exact HB.out | apply below_alloc | apply pw_below_drewN | apply below_drew1 | refine below_set ?_ GE563.out) | exact HB.out))) : w.heap.size ≤ gb564)); have n5_ := Aside0.mk ((by rw [hg]; exact Nat.ne_of_lt (blk_lt (g := gb563) (o := .cells #[.int .i64 a0_0, .slice A0_1 l0_1.length c0_1, .slice A0_2 l0_2.length c0_2, .slice A0_3 l0_3.length c0_3, .slice A0_4 l0_4.length c0_4, .slice A0_5 l0_5.length c0_5] 39 (0, 0)) (blk_u BK563.out)) : gb563 ≠ gb564)); have n6_ := Aside0.mk ((by rw [hg]; exact Nat.ne_of_gt (blk_lt (g := gb563) (o := .cells #[.int .i64 a0_0, .slice A0_1 l0_1.length c0_1, .slice A0_2 l0_2.length c0_2, .slice A0_3 l0_3.length c0_3, .slice A0_4 l0_4.length c0_4, .slice A0_5 l0_5.length c0_5] 39 (0, 0)) (blk_u BK563.out)) : gb564 ≠ gb563)); clear BK563; clear HB; have BK563 := n0_; have HB := n1_; have BK564 := n2_; have GW564 := n3_; have GE564 := n4_; have NB563_564 := n5_; have NB564_563 := n6_; clear n0_ n1_ n2_ n3_ n4_ n5_ n6_; clear hb hbox hg; have hnb25 := NB563_564.out; have hnc25 := NB564_563.out; have hcz26_0 : w24.cell? ⟨gb563, 0, none⟩ = some (.int .i64 a0_0) := (blk_cell BK563.out 0).trans rfl; have hcz26_1 : w24.cell? ⟨gb563, 1, none⟩ = some (.slice A0_1 l0_1.length c0_1) := (blk_cell BK563.out 1).trans rfl; have hcz26_2 : w24.cell? ⟨gb563, 2, none⟩ = some (.slice A0_2 l0_2.length c0_2) := (blk_cell BK563.out 2).trans rfl; have hcz26_3 : w24.cell? ⟨gb563, 3, none⟩ = some (.slice A0_3 l0_3.length c0_3) := (blk_cell BK563.out 3).trans rfl; have hcz26_4 : w24.cell? ⟨gb563, 4, none⟩ = some (.slice A0_4 l0_4.length c0_4) := (blk_cell BK563.out 4).trans rfl; have hcz26_5 : w24.cell? ⟨gb563, 5, none⟩ = some (.slice A0_5 l0_5.length c0_5) := (blk_cell BK563.out 5).trans rfl; have hfz26_0 := blk_frozen BK563.out 0; have hfz26_1 := blk_frozen BK563.out 1; have hfz26_2 := blk_frozen BK563.out 2; have hfz26_3 := blk_frozen BK563.out 3; have hfz26_4 := blk_frozen BK563.out 4; have hfz26_5 := blk_frozen BK563.out 5; have hcz27_0 : w24.cell? ⟨gb564, 0, none⟩ = some (.int .i64 a1_0) := (blk_cell BK564.out 0).trans rfl; have hcz27_1 : w24.cell? ⟨gb564, 1, none⟩ = some (.slice A1_1 l1_1.length c1_1) := (blk_cell BK564.out 1).trans rfl; have hcz27_2 : w24.cell? ⟨gb564, 2, none⟩ = some (.slice A1_2 l1_2.length c1_2) := (blk_cell BK564.out 2).trans rfl; have hcz27_3 : w24.cell? ⟨gb564, 3, none⟩ = some (.slice A1_3 l1_3.length c1_3) := (blk_cell BK564.out 3).trans rfl; have hcz27_4 : w24.cell? ⟨gb564, 4, none⟩ = some (.slice A1_4 l1_4.length c1_4) := (blk_cell BK564.out 4).trans rfl; have hcz27_5 : w24.cell? ⟨gb564, 5, none⟩ = some (.slice A1_5 l1_5.length c1_5) := (blk_cell BK564.out 5).trans rfl; have hfz27_0 := blk_frozen BK564.out 0; have hfz27_1 := blk_frozen BK564.out 1; have hfz27_2 := blk_frozen BK564.out 2; have hfz27_3 := blk_frozen BK564.out 3; have hfz27_4 := blk_frozen BK564.out 4; have hfz27_5 := blk_frozen BK564.out 5) | (go_at_call 31; (with_reducible refine (slices_Equal_bool_bool.calls k _ _ l0_1 _ _ l1_1 true _ ?side1 ?side2 ?side3 ?side4 A4.out).mono ?_); (case side1 => repeat (first | exact (Kd.C_below HR0_1.out HB.out) | (with_reducible refine Kd.C_alloc ?_ _) | (with_reducible refine Kd.C_drewN ?_ _) | (with_reducible refine Kd.C_drew ?_))); (case side2 => exact HC0_1.out); (case side3 => repeat (first | exact (Kd.C_below HR1_1.out HB.out) | (with_reducible refine Kd.C_alloc ?_ _) | (with_reducible refine Kd.C_drewN ?_ _) | (with_reducible refine Kd.C_drew ?_))); (case side4 => exact HC1_1.out); rintro e w' ⟨rfl, ⟨nd, rfl⟩⟩) | (go_at_call 32; (with_reducible refine (slices_Equal_int_int.calls k _ _ l0_2 _ _ l1_2 true _ ?side1 ?side2 ?side3 ?side4 A6.out).mono ?_); (case side1 => repeat (first | exact (Kd.C_below HR0_2.out (by repeat (first | (with_reducible first | exact HB.out | apply below_alloc | apply pw_below_drewN | apply below_drew1 | refine below_set ?_ GE563.out | refine below_set ?_ GE564.out) | exact HB.out))) | (with_reducible refine Kd.C_alloc ?_ _) | (with_reducible refine Kd.C_drewN ?_ _) | (with_reducible refine Kd.C_drew ?_))); (case side2 => exact HC0_2.out); (case side3 => repeat (first | exact (Kd.C_below HR1_2.out (by repeat (first | (with_reducible first | exact HB.out | apply below_alloc | apply pw_below_drewN | apply below_drew1 | refine below_set ?_ GE563.out | refine below_set ?_ GE564.out) | exact HB.out))) | (with_reducible refine Kd.C_alloc ?_ _) | (with_reducible refine Kd.C_drewN ?_ _) | (with_reducible refine Kd.C_drew ?_))); (case side4 => exact HC1_2.out); rintro e w' ⟨rfl, ⟨nd, rfl⟩⟩) | (go_at_call 33; (with_reducible refine (slices_Equal_string_string.calls k _ _ l0_3 _ _ l1_3 false _ ?side1 ?side2 ?side3 ?side4 A8.out).mono ?_); (case side1 => repeat (first | exact (Kd.C_below HR0_3.out (by repeat (first | (with_reducible first | exact HB.out | apply below_alloc | apply pw_below_drewN | apply below_drew1 | refine below_set ?_ GE563.out | refine below_set ?_ GE564.out) | exact HB.out))) | (with_reducible refine Kd.C_alloc ?_ _) | (with_reducible refine Kd.C_drewN ?_ _) | (with_reducible refine Kd.C_drew ?_))); (case side2 => exact HC0_3.out); (case side3 => repeat (first | exact (Kd.C_below HR1_3.out (by repeat (first | (with_reducible first | exact HB.out | apply below_alloc | apply pw_below_drewN | apply below_drew1 | refine below_set ?_ GE563.out | refine below_set ?_ GE564.out) | exact HB.out))) | (with_reducible refine Kd.C_alloc ?_ _) | (with_reducible refine Kd.C_drewN ?_ _) | (with_reducible refine Kd.C_drew ?_))); (case side4 => exact HC1_3.out); rintro e w' ⟨rfl, ⟨nd, rfl⟩⟩))
          go_ret
          exact ⟨by first | rfl | (simp [errW_none, errW_some] <;> rfl) | (simp [*, errW_none, errW_some] <;> rfl), by repeat (first | (with_reducible first | exact HB.out | apply below_alloc | apply pw_below_drewN | apply below_drew1 | refine below_set ?_ GE563.out | refine below_set ?_ GE564.out) | exact HB.out)⟩
      · replace c7 := Bool.eq_false_iff.mpr c7
        subst c7
        have H1 : (some false) = some r := by rw [if_neg (show ¬ (false = true) by decide)] at H; exact H
        clear H
        have H := H1
        clear H1
        obtain rfl := Option.some.inj H
        go_enter Try.func11, Try.ntmps11
        go_wp2_with (first | ((with_reducible refine gate_dst (N := 2) rfl ?_); refine box_event ?hg (N := 2) ?hd (cs := #[.int .i64 a0_0, .slice A0_1 l0_1.length c0_1, .slice A0_2 l0_2.length c0_2, .slice A0_3 l0_3.length c0_3, .slice A0_4 l0_4.length c0_4, .slice A0_5 l0_5.length c0_5]) (t := 39) ?hr ?_; (case hd => rfl); (case hg => rfl); (case hr => first | (go_simp; done) | (go_simp; rfl)); intro gb563 hg w28 hbox hb; have n0_ := Aside0.mk (below_step (below_u HB.out) hb); have n1_ := Aside0.mk (hbox); have n2_ := Aside0.mk ((by rw [hg]; exact (below_size (below_u HB.out)) : w.heap.size ≤ gb563)); have n3_ := Aside0.mk ((by rw [hg]; exact (below_size (below_u HB.out)) : w.heap.size ≤ gb563)); clear HB; have HB := n0_; have BK563 := n1_; have GW563 := n2_; have GE563 := n3_; clear n0_ n1_ n2_ n3_; clear hb hbox hg) | ((with_reducible refine gate_dst (N := 3) rfl ?_); refine box_event ?hg (N := 3) ?hd (cs := #[.int .i64 a1_0, .slice A1_1 l1_1.length c1_1, .slice A1_2 l1_2.length c1_2, .slice A1_3 l1_3.length c1_3, .slice A1_4 l1_4.length c1_4, .slice A1_5 l1_5.length c1_5]) (t := 39) ?hr ?_; (case hd => rfl); (case hg => rfl); (case hr => first | (go_simp; done) | (go_simp; rfl)); intro gb564 hg w29 hbox hb; have n0_ := Aside0.mk (blk_below (g := gb563) (o := .cells #[.int .i64 a0_0, .slice A0_1 l0_1.length c0_1, .slice A0_2 l0_2.length c0_2, .slice A0_3 l0_3.length c0_3, .slice A0_4 l0_4.length c0_4, .slice A0_5 l0_5.length c0_5] 39 (0, 0)) (blk_u BK563.out) hb); have n1_ := Aside0.mk (below_step (by repeat (first | (with_reducible first | exact HB.out | apply below_alloc | apply pw_below_drewN | apply below_drew1 | refine below_set ?_ GE563.out) | exact HB.out)) hb); have n2_ := Aside0.mk (hbox); have n3_ := Aside0.mk ((by rw [hg]; exact (below_size (by repeat (first | (with_reducible first | exact HB.out | apply below_alloc | apply pw_below_drewN | apply below_drew1 | refine below_set ?_ GE563.out) | exact HB.out))) : w.heap.size ≤ gb564)); have n4_ := Aside0.mk ((by rw [hg]; exact (below_size (by repeat (first | (with_reducible first | exact HB.out | apply below_alloc | apply pw_below_drewN | apply below_drew1 | refine below_set ?_ GE563.out) | exact HB.out))) : w.heap.size ≤ gb564)); have n5_ := Aside0.mk ((by rw [hg]; exact Nat.ne_of_lt (blk_lt (g := gb563) (o := .cells #[.int .i64 a0_0, .slice A0_1 l0_1.length c0_1, .slice A0_2 l0_2.length c0_2, .slice A0_3 l0_3.length c0_3, .slice A0_4 l0_4.length c0_4, .slice A0_5 l0_5.length c0_5] 39 (0, 0)) (blk_u BK563.out)) : gb563 ≠ gb564)); have n6_ := Aside0.mk ((by rw [hg]; exact Nat.ne_of_gt (blk_lt (g := gb563) (o := .cells #[.int .i64 a0_0, .slice A0_1 l0_1.length c0_1, .slice A0_2 l0_2.length c0_2, .slice A0_3 l0_3.length c0_3, .slice A0_4 l0_4.length c0_4, .slice A0_5 l0_5.length c0_5] 39 (0, 0)) (blk_u BK563.out)) : gb564 ≠ gb563)); clear BK563; clear HB; have BK563 := n0_; have HB := n1_; have BK564 := n2_; have GW564 := n3_; have GE564 := n4_; have NB563_564 := n5_; have NB564_563 := n6_; clear n0_ n1_ n2_ n3_ n4_ n5_ n6_; clear hb hbox hg; have hnb30 := NB563_564.out; have hnc30 := NB564_563.out; have hcz31_0 : w29.cell? ⟨gb563, 0, none⟩ = some (.int .i64 a0_0) := (blk_cell BK563.out 0).trans rfl; have hcz31_1 : w29.cell? ⟨gb563, 1, none⟩ = some (.slice A0_1 l0_1.length c0_1) := (blk_cell BK563.out 1).trans rfl; have hcz31_2 : w29.cell? ⟨gb563, 2, none⟩ = some (.slice A0_2 l0_2.length c0_2) := (blk_cell BK563.out 2).trans rfl; have hcz31_3 : w29.cell? ⟨gb563, 3, none⟩ = some (.slice A0_3 l0_3.length c0_3) := (blk_cell BK563.out 3).trans rfl; have hcz31_4 : w29.cell? ⟨gb563, 4, none⟩ = some (.slice A0_4 l0_4.length c0_4) := (blk_cell BK563.out 4).trans rfl; have hcz31_5 : w29.cell? ⟨gb563, 5, none⟩ = some (.slice A0_5 l0_5.length c0_5) := (blk_cell BK563.out 5).trans rfl; have hfz31_0 := blk_frozen BK563.out 0; have hfz31_1 := blk_frozen BK563.out 1; have hfz31_2 := blk_frozen BK563.out 2; have hfz31_3 := blk_frozen BK563.out 3; have hfz31_4 := blk_frozen BK563.out 4; have hfz31_5 := blk_frozen BK563.out 5; have hcz32_0 : w29.cell? ⟨gb564, 0, none⟩ = some (.int .i64 a1_0) := (blk_cell BK564.out 0).trans rfl; have hcz32_1 : w29.cell? ⟨gb564, 1, none⟩ = some (.slice A1_1 l1_1.length c1_1) := (blk_cell BK564.out 1).trans rfl; have hcz32_2 : w29.cell? ⟨gb564, 2, none⟩ = some (.slice A1_2 l1_2.length c1_2) := (blk_cell BK564.out 2).trans rfl; have hcz32_3 : w29.cell? ⟨gb564, 3, none⟩ = some (.slice A1_3 l1_3.length c1_3) := (blk_cell BK564.out 3).trans rfl; have hcz32_4 : w29.cell? ⟨gb564, 4, none⟩ = some (.slice A1_4 l1_4.length c1_4) := (blk_cell BK564.out 4).trans rfl; have hcz32_5 : w29.cell? ⟨gb564, 5, none⟩ = some (.slice A1_5 l1_5.length c1_5) := (blk_cell BK564.out 5).trans rfl; have hfz32_0 := blk_frozen BK564.out 0; have hfz32_1 := blk_frozen BK564.out 1; have hfz32_2 := blk_frozen BK564.out 2; have hfz32_3 := blk_frozen BK564.out 3; have hfz32_4 := blk_frozen BK564.out 4; have hfz32_5 := blk_frozen BK564.out 5) | (go_at_call 31; (with_reducible refine (slices_Equal_bool_bool.calls k _ _ l0_1 _ _ l1_1 true _ ?side1 ?side2 ?side3 ?side4 A4.out).mono ?_); (case side1 => repeat (first | exact (Kd.C_below HR0_1.out HB.out) | (with_reducible refine Kd.C_alloc ?_ _) | (with_reducible refine Kd.C_drewN ?_ _) | (with_reducible refine Kd.C_drew ?_))); (case side2 => exact HC0_1.out); (case side3 => repeat (first | exact (Kd.C_below HR1_1.out HB.out) | (with_reducible refine Kd.C_alloc ?_ _) | (with_reducible refine Kd.C_drewN ?_ _) | (with_reducible refine Kd.C_drew ?_))); (case side4 => exact HC1_1.out); rintro e w' ⟨rfl, ⟨nd, rfl⟩⟩) | (go_at_call 32; (with_reducible refine (slices_Equal_int_int.calls k _ _ l0_2 _ _ l1_2 false _ ?side1 ?side2 ?side3 ?side4 A6.out).mono ?_); (case side1 => repeat (first | exact (Kd.C_below HR0_2.out (by repeat (first | (with_reducible first | exact HB.out | apply below_alloc | apply pw_below_drewN | apply below_drew1 | refine below_set ?_ GE563.out | refine below_set ?_ GE564.out) | exact HB.out))) | (with_reducible refine Kd.C_alloc ?_ _) | (with_reducible refine Kd.C_drewN ?_ _) | (with_reducible refine Kd.C_drew ?_))); (case side2 => exact HC0_2.out); (case side3 => repeat (first | exact (Kd.C_below HR1_2.out (by repeat (first | (with_reducible first | exact HB.out | apply below_alloc | apply pw_below_drewN | apply below_drew1 | refine below_set ?_ GE563.out | refine below_set ?_ GE564.out) | exact HB.out))) | (with_reducible refine Kd.C_alloc ?_ _) | (with_reducible refine Kd.C_drewN ?_ _) | (with_reducible refine Kd.C_drew ?_))); (case side4 => exact HC1_2.out); rintro e w' ⟨rfl, ⟨nd, rfl⟩⟩))
        go_ret
        exact ⟨by first | rfl | (simp [errW_none, errW_some] <;> rfl) | (simp [*, errW_none, errW_some] <;> rfl), by repeat (first | (with_reducible first | exact HB.out | apply below_alloc | apply pw_below_drewN | apply below_drew1 | refine below_set ?_ GE563.out | refine below_set ?_ GE564.out) | exact HB.out)⟩
    · replace c5 := Bool.eq_false_iff.mpr c5
      subst c5
      have H1 : (some false) = some r := by rw [if_neg (show ¬ (false = true) by decide)] at H; exact H
      clear H
      have H := H1
      clear H1
      obtain rfl := Option.some.inj H
      go_enter Try.func11, Try.ntmps11
      go_wp2_with (first | ((with_reducible refine gate_dst (N := 2) rfl ?_); refine box_event ?hg (N := 2) ?hd (cs := #[.int .i64 a0_0, .slice A0_1 l0_1.length c0_1, .slice A0_2 l0_2.length c0_2, .slice A0_3 l0_3.length c0_3, .slice A0_4 l0_4.length c0_4, .slice A0_5 l0_5.length c0_5]) (t := 39) ?hr ?_; (case hd => rfl); (case hg => rfl); (case hr => first | (go_simp; done) | (go_simp; rfl)); intro gb563 hg w33 hbox hb; have n0_ := Aside0.mk (below_step (below_u HB.out) hb); have n1_ := Aside0.mk (hbox); have n2_ := Aside0.mk ((by rw [hg]; exact (below_size (below_u HB.out)) : w.heap.size ≤ gb563)); have n3_ := Aside0.mk ((by rw [hg]; exact (below_size (below_u HB.out)) : w.heap.size ≤ gb563)); clear HB; have HB := n0_; have BK563 := n1_; have GW563 := n2_; have GE563 := n3_; clear n0_ n1_ n2_ n3_; clear hb hbox hg) | ((with_reducible refine gate_dst (N := 3) rfl ?_); refine box_event ?hg (N := 3) ?hd (cs := #[.int .i64 a1_0, .slice A1_1 l1_1.length c1_1, .slice A1_2 l1_2.length c1_2, .slice A1_3 l1_3.length c1_3, .slice A1_4 l1_4.length c1_4, .slice A1_5 l1_5.length c1_5]) (t := 39) ?hr ?_; (case hd => rfl); (case hg => rfl); (case hr => first | (go_simp; done) | (go_simp; rfl)); intro gb564 hg w34 hbox hb; have n0_ := Aside0.mk (blk_below (g := gb563) (o := .cells #[.int .i64 a0_0, .slice A0_1 l0_1.length c0_1, .slice A0_2 l0_2.length c0_2, .slice A0_3 l0_3.length c0_3, .slice A0_4 l0_4.length c0_4, .slice A0_5 l0_5.length c0_5] 39 (0, 0)) (blk_u BK563.out) hb); have n1_ := Aside0.mk (below_step (by repeat (first | (with_reducible first | exact HB.out | apply below_alloc | apply pw_below_drewN | apply below_drew1 | refine below_set ?_ GE563.out) | exact HB.out)) hb); have n2_ := Aside0.mk (hbox); have n3_ := Aside0.mk ((by rw [hg]; exact (below_size (by repeat (first | (with_reducible first | exact HB.out | apply below_alloc | apply pw_below_drewN | apply below_drew1 | refine below_set ?_ GE563.out) | exact HB.out))) : w.heap.size ≤ gb564)); have n4_ := Aside0.mk ((by rw [hg]; exact (below_size (by repeat (first | (with_reducible first | exact HB.out | apply below_alloc | apply pw_below_drewN | apply below_drew1 | refine below_set ?_ GE563.out) | exact HB.out))) : w.heap.size ≤ gb564)); have n5_ := Aside0.mk ((by rw [hg]; exact Nat.ne_of_lt (blk_lt (g := gb563) (o := .cells #[.int .i64 a0_0, .slice A0_1 l0_1.length c0_1, .slice A0_2 l0_2.length c0_2, .slice A0_3 l0_3.length c0_3, .slice A0_4 l0_4.length c0_4, .slice A0_5 l0_5.length c0_5] 39 (0, 0)) (blk_u BK563.out)) : gb563 ≠ gb564)); have n6_ := Aside0.mk ((by rw [hg]; exact Nat.ne_of_gt (blk_lt (g := gb563) (o := .cells #[.int .i64 a0_0, .slice A0_1 l0_1.length c0_1, .slice A0_2 l0_2.length c0_2, .slice A0_3 l0_3.length c0_3, .slice A0_4 l0_4.length c0_4, .slice A0_5 l0_5.length c0_5] 39 (0, 0)) (blk_u BK563.out)) : gb564 ≠ gb563)); clear BK563; clear HB; have BK563 := n0_; have HB := n1_; have BK564 := n2_; have GW564 := n3_; have GE564 := n4_; have NB563_564 := n5_; have NB564_563 := n6_; clear n0_ n1_ n2_ n3_ n4_ n5_ n6_; clear hb hbox hg; have hnb35 := NB563_564.out; have hnc35 := NB564_563.out; have hcz36_0 : w34.cell? ⟨gb563, 0, none⟩ = some (.int .i64 a0_0) := (blk_cell BK563.out 0).trans rfl; have hcz36_1 : w34.cell? ⟨gb563, 1, none⟩ = some (.slice A0_1 l0_1.length c0_1) := (blk_cell BK563.out 1).trans rfl; have hcz36_2 : w34.cell? ⟨gb563, 2, none⟩ = some (.slice A0_2 l0_2.length c0_2) := (blk_cell BK563.out 2).trans rfl; have hcz36_3 : w34.cell? ⟨gb563, 3, none⟩ = some (.slice A0_3 l0_3.length c0_3) := (blk_cell BK563.out 3).trans rfl; have hcz36_4 : w34.cell? ⟨gb563, 4, none⟩ = some (.slice A0_4 l0_4.length c0_4) := (blk_cell BK563.out 4).trans rfl; have hcz36_5 : w34.cell? ⟨gb563, 5, none⟩ = some (.slice A0_5 l0_5.length c0_5) := (blk_cell BK563.out 5).trans rfl; have hfz36_0 := blk_frozen BK563.out 0; have hfz36_1 := blk_frozen BK563.out 1; have hfz36_2 := blk_frozen BK563.out 2; have hfz36_3 := blk_frozen BK563.out 3; have hfz36_4 := blk_frozen BK563.out 4; have hfz36_5 := blk_frozen BK563.out 5; have hcz37_0 : w34.cell? ⟨gb564, 0, none⟩ = some (.int .i64 a1_0) := (blk_cell BK564.out 0).trans rfl; have hcz37_1 : w34.cell? ⟨gb564, 1, none⟩ = some (.slice A1_1 l1_1.length c1_1) := (blk_cell BK564.out 1).trans rfl; have hcz37_2 : w34.cell? ⟨gb564, 2, none⟩ = some (.slice A1_2 l1_2.length c1_2) := (blk_cell BK564.out 2).trans rfl; have hcz37_3 : w34.cell? ⟨gb564, 3, none⟩ = some (.slice A1_3 l1_3.length c1_3) := (blk_cell BK564.out 3).trans rfl; have hcz37_4 : w34.cell? ⟨gb564, 4, none⟩ = some (.slice A1_4 l1_4.length c1_4) := (blk_cell BK564.out 4).trans rfl; have hcz37_5 : w34.cell? ⟨gb564, 5, none⟩ = some (.slice A1_5 l1_5.length c1_5) := (blk_cell BK564.out 5).trans rfl; have hfz37_0 := blk_frozen BK564.out 0; have hfz37_1 := blk_frozen BK564.out 1; have hfz37_2 := blk_frozen BK564.out 2; have hfz37_3 := blk_frozen BK564.out 3; have hfz37_4 := blk_frozen BK564.out 4; have hfz37_5 := blk_frozen BK564.out 5) | (go_at_call 31; (with_reducible refine (slices_Equal_bool_bool.calls k _ _ l0_1 _ _ l1_1 false _ ?side1 ?side2 ?side3 ?side4 A4.out).mono ?_); (case side1 => repeat (first | exact (Kd.C_below HR0_1.out HB.out) | (with_reducible refine Kd.C_alloc ?_ _) | (with_reducible refine Kd.C_drewN ?_ _) | (with_reducible refine Kd.C_drew ?_))); (case side2 => exact HC0_1.out); (case side3 => repeat (first | exact (Kd.C_below HR1_1.out HB.out) | (with_reducible refine Kd.C_alloc ?_ _) | (with_reducible refine Kd.C_drewN ?_ _) | (with_reducible refine Kd.C_drew ?_))); (case side4 => exact HC1_1.out); rintro e w' ⟨rfl, ⟨nd, rfl⟩⟩))
      go_ret
      exact ⟨by first | rfl | (simp [errW_none, errW_some] <;> rfl) | (simp [*, errW_none, errW_some] <;> rfl), by repeat (first | (with_reducible first | exact HB.out | apply below_alloc | apply pw_below_drewN | apply below_drew1 | refine below_set ?_ GE563.out | refine below_set ?_ GE564.out) | exact HB.out)⟩
  · rw [if_neg c3] at H
    have c3b0 : (a0_0 == a1_0) = false := beq_eq_false_iff_ne.mpr c3
    have c3b1 : (a0_0 != a1_0) = true := bne_iff_ne.mpr c3
    obtain rfl := Option.some.inj H
    go_enter Try.func11, Try.ntmps11
    go_wp2_with (first | ((with_reducible refine gate_dst (N := 2) rfl ?_); refine box_event ?hg (N := 2) ?hd (cs := #[.int .i64 a0_0, .slice A0_1 l0_1.length c0_1, .slice A0_2 l0_2.length c0_2, .slice A0_3 l0_3.length c0_3, .slice A0_4 l0_4.length c0_4, .slice A0_5 l0_5.length c0_5]) (t := 39) ?hr ?_; (case hd => rfl); (case hg => rfl); (case hr => first | (go_simp; done) | (go_simp; rfl)); intro gb563 hg w38 hbox hb; have n0_ := Aside0.mk (below_step (below_u HB.out) hb); have n1_ := Aside0.mk (hbox); have n2_ := Aside0.mk ((by rw [hg]; exact (below_size (below_u HB.out)) : w.heap.size ≤ gb563)); have n3_ := Aside0.mk ((by rw [hg]; exact (below_size (below_u HB.out)) : w.heap.size ≤ gb563)); clear HB; have HB := n0_; have BK563 := n1_; have GW563 := n2_; have GE563 := n3_; clear n0_ n1_ n2_ n3_; clear hb hbox hg) | ((with_reducible refine gate_dst (N := 3) rfl ?_); refine box_event ?hg (N := 3) ?hd (cs := #[.int .i64 a1_0, .slice A1_1 l1_1.length c1_1, .slice A1_2 l1_2.length c1_2, .slice A1_3 l1_3.length c1_3, .slice A1_4 l1_4.length c1_4, .slice A1_5 l1_5.length c1_5]) (t := 39) ?hr ?_; (case hd => rfl); (case hg => rfl); (case hr => first | (go_simp; done) | (go_simp; rfl)); intro gb564 hg w39 hbox hb; have n0_ := Aside0.mk (blk_below (g := gb563) (o := .cells #[.int .i64 a0_0, .slice A0_1 l0_1.length c0_1, .slice A0_2 l0_2.length c0_2, .slice A0_3 l0_3.length c0_3, .slice A0_4 l0_4.length c0_4, .slice A0_5 l0_5.length c0_5] 39 (0, 0)) (blk_u BK563.out) hb); have n1_ := Aside0.mk (below_step (by repeat (first | (with_reducible first | exact HB.out | apply below_alloc | apply pw_below_drewN | apply below_drew1 | refine below_set ?_ GE563.out) | exact HB.out)) hb); have n2_ := Aside0.mk (hbox); have n3_ := Aside0.mk ((by rw [hg]; exact (below_size (by repeat (first | (with_reducible first | exact HB.out | apply below_alloc | apply pw_below_drewN | apply below_drew1 | refine below_set ?_ GE563.out) | exact HB.out))) : w.heap.size ≤ gb564)); have n4_ := Aside0.mk ((by rw [hg]; exact (below_size (by repeat (first | (with_reducible first | exact HB.out | apply below_alloc | apply pw_below_drewN | apply below_drew1 | refine below_set ?_ GE563.out) | exact HB.out))) : w.heap.size ≤ gb564)); have n5_ := Aside0.mk ((by rw [hg]; exact Nat.ne_of_lt (blk_lt (g := gb563) (o := .cells #[.int .i64 a0_0, .slice A0_1 l0_1.length c0_1, .slice A0_2 l0_2.length c0_2, .slice A0_3 l0_3.length c0_3, .slice A0_4 l0_4.length c0_4, .slice A0_5 l0_5.length c0_5] 39 (0, 0)) (blk_u BK563.out)) : gb563 ≠ gb564)); have n6_ := Aside0.mk ((by rw [hg]; exact Nat.ne_of_gt (blk_lt (g := gb563) (o := .cells #[.int .i64 a0_0, .slice A0_1 l0_1.length c0_1, .slice A0_2 l0_2.length c0_2, .slice A0_3 l0_3.length c0_3, .slice A0_4 l0_4.length c0_4, .slice A0_5 l0_5.length c0_5] 39 (0, 0)) (blk_u BK563.out)) : gb564 ≠ gb563)); clear BK563; clear HB; have BK563 := n0_; have HB := n1_; have BK564 := n2_; have GW564 := n3_; have GE564 := n4_; have NB563_564 := n5_; have NB564_563 := n6_; clear n0_ n1_ n2_ n3_ n4_ n5_ n6_; clear hb hbox hg; have hnb40 := NB563_564.out; have hnc40 := NB564_563.out; have hcz41_0 : w39.cell? ⟨gb563, 0, none⟩ = some (.int .i64 a0_0) := (blk_cell BK563.out 0).trans rfl; have hcz41_1 : w39.cell? ⟨gb563, 1, none⟩ = some (.slice A0_1 l0_1.length c0_1) := (blk_cell BK563.out 1).trans rfl; have hcz41_2 : w39.cell? ⟨gb563, 2, none⟩ = some (.slice A0_2 l0_2.length c0_2) := (blk_cell BK563.out 2).trans rfl; have hcz41_3 : w39.cell? ⟨gb563, 3, none⟩ = some (.slice A0_3 l0_3.length c0_3) := (blk_cell BK563.out 3).trans rfl; have hcz41_4 : w39.cell? ⟨gb563, 4, none⟩ = some (.slice A0_4 l0_4.length c0_4) := (blk_cell BK563.out 4).trans rfl; have hcz41_5 : w39.cell? ⟨gb563, 5, none⟩ = some (.slice A0_5 l0_5.length c0_5) := (blk_cell BK563.out 5).trans rfl; have hfz41_0 := blk_frozen BK563.out 0; have hfz41_1 := blk_frozen BK563.out 1; have hfz41_2 := blk_frozen BK563.out 2; have hfz41_3 := blk_frozen BK563.out 3; have hfz41_4 := blk_frozen BK563.out 4; have hfz41_5 := blk_frozen BK563.out 5; have hcz42_0 : w39.cell? ⟨gb564, 0, none⟩ = some (.int .i64 a1_0) := (blk_cell BK564.out 0).trans rfl; have hcz42_1 : w39.cell? ⟨gb564, 1, none⟩ = some (.slice A1_1 l1_1.length c1_1) := (blk_cell BK564.out 1).trans rfl; have hcz42_2 : w39.cell? ⟨gb564, 2, none⟩ = some (.slice A1_2 l1_2.length c1_2) := (blk_cell BK564.out 2).trans rfl; have hcz42_3 : w39.cell? ⟨gb564, 3, none⟩ = some (.slice A1_3 l1_3.length c1_3) := (blk_cell BK564.out 3).trans rfl; have hcz42_4 : w39.cell? ⟨gb564, 4, none⟩ = some (.slice A1_4 l1_4.length c1_4) := (blk_cell BK564.out 4).trans rfl; have hcz42_5 : w39.cell? ⟨gb564, 5, none⟩ = some (.slice A1_5 l1_5.length c1_5) := (blk_cell BK564.out 5).trans rfl; have hfz42_0 := blk_frozen BK564.out 0; have hfz42_1 := blk_frozen BK564.out 1; have hfz42_2 := blk_frozen BK564.out 2; have hfz42_3 := blk_frozen BK564.out 3; have hfz42_4 := blk_frozen BK564.out 4; have hfz42_5 := blk_frozen BK564.out 5))
    go_ret
    exact ⟨by first | rfl | (simp [errW_none, errW_some] <;> rfl) | (simp [*, errW_none, errW_some] <;> rfl), by repeat (first | (with_reducible first | exact HB.out | apply below_alloc | apply pw_below_drewN | apply below_drew1 | refine below_set ?_ GE563.out | refine below_set ?_ GE564.out) | exact HB.out)⟩
end Go.Proofs.Ytphnmaobpefoiaa.XA
end
section
namespace Go.Proofs.Ytphnmaobpefoiaa.XA
open Go.RowKit Go.Proofs.YtphnmaobpefoiaaXW Go.Proofs.YtphnmaobpefoiaaW.PrintWords Go.Proofs.YtphnmaobpefoiaaW.PrintLast Go.Proofs.YtphnmaobpefoiaaW.PrintMore
theorem w_in (x : Int) (h0 : -4611686018427387904 ≤ x) (h1 : x ≤ 4611686018427387904) : wrap64 x = x := by unfold wrap64; omega
theorem rdOf_nat {α : Type} (d : α) (l : List α) (i : Nat) (h : i < l.length) : rdOf d l (i : Int) = l[i] := by
  simp [rdOf, List.getD_eq_getElem?_getD, h]
theorem toList_ba (s : ByteArray) : s.toList = s.data.toList := Lib.toList_data s
theorem str_eq (s t : ByteArray) : s.toList = t.toList ↔ s = t := by
  rw [toList_ba, toList_ba]
  constructor
  · intro h
    cases s; cases t
    simp at h
    simp [h]
  · intro h; rw [h]
theorem str_nil (s : ByteArray) : s.toList = ([] : List UInt8) ↔ s = ⟨#[]⟩ := by
  have h := str_eq s ⟨#[]⟩
  rw [← h, toList_ba ⟨#[]⟩]
def okText (s : ByteArray) : Prop := s.size ≤ 200 ∧ ∀ i : Nat, i < s.size → 32 ≤ bt s i ∧ bt s i ≤ 126
def okNum (a n : Int) : Prop := (a = 1 → 0 ≤ n ∧ n ≤ 1) ∧ (a = 2 → -1000000000000000 ≤ n ∧ n ≤ 1000000000000000)
theorem textLoop (s : ByteArray) (hs : s.size ≤ 200) (x y : Int) (z : ByteArray) (d : Nat) : ∀ (k : Nat) (i : Nat), i + d = s.size → d < k →
    ∃ r, value_CheckValue.l0 k (s.size : Int) (i : Int) x y s = some r ∧ (r = 0 ↔ ∀ j : Nat, i ≤ j → j < s.size → 32 ≤ bt s j ∧ bt s j ≤ 126) := by
  induction d with
  | zero =>
    intro k i hi hk
    obtain ⟨k, rfl⟩ : ∃ m, k = m + 1 := ⟨k - 1, by omega⟩
    refine ⟨0, by simp only [value_CheckValue.l0]; rw [if_neg (by omega)], by simp; intro j h1 h2; omega⟩
  | succ d ih =>
    intro k i hi hk
    obtain ⟨k, rfl⟩ : ∃ m, k = m + 1 := ⟨k - 1, by omega⟩
    have hb := bt_range s i
    have hw : wrap64 (bt s (i : Int)) = bt s i := w_in _ (by omega) (by omega)
    have hw1 : wrap64 ((i : Int) + 1) = ((i + 1 : Nat) : Int) := by rw [w_in _ (by omega) (by omega)]; simp
    simp only [value_CheckValue.l0]
    rw [if_pos (by omega), if_pos (by omega), if_pos (by omega), hw]
    simp only [kit_In.f]
    by_cases h1 : (32 : Int) ≤ bt s i
    · rw [if_pos h1]
      simp only [Option.bind_some]
      by_cases h2 : bt s i ≤ 126
      · rw [if_pos (by simpa using h2), hw1]
        obtain ⟨r, hr, he⟩ := ih k (i + 1) (by omega) (by omega)
        refine ⟨r, hr, he.trans ⟨fun h j h3 h4 => ?_, fun h j h3 h4 => h j (by omega) h4⟩⟩
        rcases Nat.lt_or_ge i j with h5 | h5
        · exact h j h5 h4
        · have : j = i := by omega
          subst this; exact ⟨h1, h2⟩
      · rw [if_neg (by simpa using h2)]
        refine ⟨3, rfl, by simp, fun h => ?_⟩
        exact absurd (h i (Nat.le_refl _) (by omega)).2 h2
    · rw [if_neg h1]
      simp only [Option.bind_some]
      rw [if_neg (by simp)]
      refine ⟨3, rfl, by simp, fun h => ?_⟩
      exact absurd (h i (Nat.le_refl _) (by omega)).1 h1
theorem checkText_ev (s : ByteArray) (k : Nat) (hk : 300 ≤ k) : ∃ r, value_CheckValue.f k 3 0 s = some r ∧ (r = 0 ↔ okText s) := by
  obtain ⟨k, rfl⟩ : ∃ m, k = m + 1 := ⟨k - 1, by omega⟩
  unfold value_CheckValue.f
  rw [if_neg (by decide), if_neg (by decide)]
  simp only [value_CheckValue.j0]
  rw [if_neg (by decide)]
  simp only [if_true]
  by_cases h : (s.size : Int) > 200
  · rw [if_pos h]
    exact ⟨2, rfl, by simp, fun h2 => by have := h2.1; omega⟩
  · rw [if_neg h]
    obtain ⟨r, hr, he⟩ := textLoop s (by omega) 3 0 s s.size k 0 (by omega) (by omega)
    exact ⟨r, hr, he.trans ⟨fun h1 => ⟨by omega, fun i hi => h1 i (Nat.zero_le _) hi⟩, fun h1 j _ h2 => h1.2 j h2⟩⟩
theorem in_f (a b c : Int) : kit_In.f a b c = some (decide (b ≤ a ∧ a ≤ c)) := by
  unfold kit_In.f
  split
  · rename_i h; simp [h]
  · rename_i h; simp [h]
theorem range_f (a b c : Int) : kit_Range.f a b c = some (if b ≤ a ∧ a ≤ c then 0 else 1) := by
  unfold kit_Range.f
  rw [in_f]
  simp only [Option.bind_some]
  by_cases h : b ≤ a ∧ a ≤ c
  · rw [if_pos (by simpa using h), if_pos h]
  · rw [if_neg (by simpa using h), if_neg h]
theorem checkNum_ev (a n : Int) (ha : a = 1 ∨ a = 2) (k : Nat) (hk : 2 ≤ k) : ∃ r, value_CheckValue.f k a n ⟨#[]⟩ = some r ∧ (r = 0 ↔ okNum a n) := by
  obtain ⟨k, rfl⟩ : ∃ m, k = m + 1 := ⟨k - 1, by omega⟩
  have he : (⟨#[]⟩ : ByteArray).toList = ([] : List UInt8) := (str_nil _).2 rfl
  unfold value_CheckValue.f okNum
  rcases ha with rfl | rfl
  · rw [if_neg (by decide), if_pos rfl]
    simp only [value_CheckValue.j0]
    rw [if_pos (by decide), if_pos he]
    simp only [if_true, range_f, Option.bind_some]
    refine ⟨_, rfl, ?_⟩
    split <;> simp_all
  · rw [if_neg (by decide), if_neg (by decide)]
    simp only [value_CheckValue.j0]
    rw [if_pos (by decide), if_pos he, if_neg (by decide), range_f]
    simp only [Option.bind_some]
    refine ⟨_, rfl, ?_⟩
    split <;> simp_all
theorem textsLoop (l : List ByteArray) (hl : l.length < 4611686018427387904) (d : Nat) : ∀ (k : Nat) (i : Nat), i + d = l.length → d + 300 < k →
    ∃ r, vector_checkTexts.l0 k l (l.length : Int) (i : Int) = some r ∧ (r = 0 ↔ ∀ (j : Nat) (h : j < l.length), i ≤ j → okText l[j]) := by
  induction d with
  | zero =>
    intro k i hi hk
    obtain ⟨k, rfl⟩ : ∃ m, k = m + 1 := ⟨k - 1, by omega⟩
    refine ⟨0, by simp only [vector_checkTexts.l0]; rw [if_neg (by omega)], by simp; intro j h1 h2; omega⟩
  | succ d ih =>
    intro k i hi hk
    obtain ⟨k, rfl⟩ : ∃ m, k = m + 1 := ⟨k - 1, by omega⟩
    have hw1 : wrap64 ((i : Int) + 1) = ((i + 1 : Nat) : Int) := by rw [w_in _ (by omega) (by omega)]; simp
    simp only [vector_checkTexts.l0]
    rw [if_pos (by omega), if_pos (by omega), if_pos (by omega), rdOf_nat _ _ _ (by omega)]
    simp only [kit_Text.f, Option.bind_some]
    obtain ⟨r, hr, he⟩ := checkText_ev l[i] k (by omega)
    rw [hr]
    simp only [Option.bind_some]
    by_cases h0 : r = 0
    · rw [if_pos h0, hw1]
      obtain ⟨q, hq, hqe⟩ := ih k (i + 1) (by omega) (by omega)
      refine ⟨q, hq, hqe.trans ⟨fun h j h3 h4 => ?_, fun h j h3 h4 => h j h3 (by omega)⟩⟩
      rcases Nat.lt_or_ge i j with h5 | h5
      · exact h j h3 h5
      · have : j = i := by omega
        subst this; exact he.1 h0
    · rw [if_neg h0]
      refine ⟨r, rfl, fun h => absurd h h0, fun h => ?_⟩
      exact absurd (he.2 (h i (by omega) (Nat.le_refl _))) h0
theorem checkTexts_ev (l : List ByteArray) (hl : l.length < 4611686018427387904) (k : Nat) (hk : l.length + 300 < k) : ∃ r, vector_checkTexts.f k l = some r ∧ (r = 0 ↔ ∀ s ∈ l, okText s) := by
  obtain ⟨r, hr, he⟩ := textsLoop l hl l.length k 0 (by omega) (by omega)
  refine ⟨r, hr, he.trans ⟨fun h s hs => ?_, fun h j hj _ => h _ (List.getElem_mem hj)⟩⟩
  obtain ⟨j, hj, rfl⟩ := List.getElem_of_mem hs
  exact h j hj (Nat.zero_le _)
theorem indexLoop (l : List Bool) (b : Bool) (hl : l.length < 4611686018427387904) (d : Nat) : ∀ (k : Nat) (i : Nat), i + d = l.length → d < k →
    ∃ r, slices_Index_bool_bool.l0 k l b (l.length : Int) (i : Int) = some r ∧ (0 ≤ r ↔ ∃ (j : Nat) (h : j < l.length), i ≤ j ∧ l[j] = b) := by
  induction d with
  | zero =>
    intro k i hi hk
    obtain ⟨k, rfl⟩ : ∃ m, k = m + 1 := ⟨k - 1, by omega⟩
    refine ⟨-1, by simp only [slices_Index_bool_bool.l0]; rw [if_neg (by omega)], ?_⟩
    constructor
    · intro h; omega
    · rintro ⟨j, h1, h2, _⟩; omega
  | succ d ih =>
    intro k i hi hk
    obtain ⟨k, rfl⟩ : ∃ m, k = m + 1 := ⟨k - 1, by omega⟩
    have hw1 : wrap64 ((i : Int) + 1) = ((i + 1 : Nat) : Int) := by rw [w_in _ (by omega) (by omega)]; simp
    simp only [slices_Index_bool_bool.l0]
    rw [if_pos (by omega), if_pos (by omega), if_pos (by omega), rdOf_nat _ _ _ (by omega)]
    by_cases h0 : b = l[i]
    · rw [if_pos (by simp [← h0])]
      refine ⟨i, rfl, fun _ => ⟨i, by omega, Nat.le_refl _, h0.symm⟩, fun _ => by omega⟩
    · rw [if_neg (by simpa using h0), hw1]
      obtain ⟨q, hq, hqe⟩ := ih k (i + 1) (by omega) (by omega)
      refine ⟨q, hq, hqe.trans ⟨fun ⟨j, h1, h2, h3⟩ => ⟨j, h1, by omega, h3⟩, fun ⟨j, h1, h2, h3⟩ => ?_⟩⟩
      rcases Nat.lt_or_ge i j with h5 | h5
      · exact ⟨j, h1, h5, h3⟩
      · have : j = i := by omega
        subst this; exact absurd h3.symm h0
theorem contains_ev (l : List Bool) (b : Bool) (hl : l.length < 4611686018427387904) (k : Nat) (hk : l.length < k) : slices_Contains_bool_bool.f k l b = some (decide (b ∈ l)) := by
  obtain ⟨r, hr, he⟩ := indexLoop l b hl l.length k 0 (by omega) hk
  unfold slices_Contains_bool_bool.f slices_Index_bool_bool.f
  rw [show ((0 : Int)) = ((0 : Nat) : Int) from rfl, hr]
  simp only [Option.bind_some]
  congr 1
  rw [decide_eq_decide]
  have h2 : (0 ≤ r) ↔ b ∈ l := he.trans ⟨fun ⟨j, h1, _, h3⟩ => h3 ▸ List.getElem_mem h1, fun h => by
    obtain ⟨j, h1, h3⟩ := List.getElem_of_mem h
    exact ⟨j, h1, Nat.zero_le _, h3⟩⟩
  exact h2
end Go.Proofs.Ytphnmaobpefoiaa.XA
end
section
namespace Go.Proofs.Ytphnmaobpefoiaa.XA
open Go.RowKit Go.Proofs.YtphnmaobpefoiaaXW Go.Proofs.YtphnmaobpefoiaaW.PrintWords Go.Proofs.YtphnmaobpefoiaaW.PrintLast Go.Proofs.YtphnmaobpefoiaaW.PrintMore
def hasD (dc : List ByteArray) (cd : List Int) : Bool := !(dc.isEmpty && cd.isEmpty)
theorem hasD_f {a : Int} {nl : List Bool} {nm : List Int} {tx dc : List ByteArray} {cd : List Int} : vector_coded.f a nl nm tx dc cd = some (hasD dc cd) := by
  unfold vector_coded.f hasD
  cases dc with
  | cons x l => simp
  | nil =>
    cases cd with
    | nil => simp
    | cons x l => simp
theorem hasD_false {dc : List ByteArray} {cd : List Int} : hasD dc cd = false ↔ dc = [] ∧ cd = [] := by
  cases dc <;> cases cd <;> simp [hasD]
def FormOk (a : Int) (nl : List Bool) (nm : List Int) (tx dc : List ByteArray) (cd : List Int) (n : Int) : Prop :=
  (nl = [] ∨ ((nl.length : Int) = n ∧ true ∈ nl)) ∧ (a ≠ 3 → tx = [] ∧ dc = [] ∧ cd = [] ∧ (nm.length : Int) = n) ∧
  (a = 3 → nm = [] ∧ dc.length ≤ 1000 ∧ (hasD dc cd = true → tx = [] ∧ (cd.length : Int) = n) ∧ (hasD dc cd = false → (tx.length : Int) = n))
theorem len_pos {α : Type} (l : List α) : ((l.length : Int) > 0) ↔ l ≠ [] := by
  cases l <;> simp
theorem form_j0 (a : Int) (nl : List Bool) (nm : List Int) (tx dc : List ByteArray) (cd : List Int) (n : Int) (x : Bool) (k : Nat) (hk : 10 ≤ k) :
    ∃ r, vector_checkForm.j0 k n x a nl nm tx dc cd = some r ∧ (r = 0 ↔ x = false ∧ (a ≠ 3 → tx = [] ∧ dc = [] ∧ cd = [] ∧ (nm.length : Int) = n) ∧
  (a = 3 → nm = [] ∧ dc.length ≤ 1000 ∧ (hasD dc cd = true → tx = [] ∧ (cd.length : Int) = n) ∧ (hasD dc cd = false → (tx.length : Int) = n))) := by
  obtain ⟨k, rfl⟩ : ∃ m, k = m + 4 := ⟨k - 4, by omega⟩
  simp only [vector_checkForm.j0]
  by_cases hx : x = true
  · rw [if_pos hx]
    exact ⟨3, rfl, by simp [hx]⟩
  rw [if_neg hx]
  have hx' : x = false := by simpa using hx
  by_cases ha : a = 3
  · rw [if_pos ha]
    have e1 : ∀ y, vector_checkForm.j4 (k + 1) y = some (if y = true then 3 else 0) := by
      intro y; simp only [vector_checkForm.j4]; split <;> rfl
    have e2 : ∀ (x5 y : Bool), vector_checkForm.j3 (k + 2) n x5 y a nl nm tx dc cd = some (if y = true then 3 else if x5 = true then (if (cd.length : Int) = n then 0 else 3) else (if (tx.length : Int) = n then 0 else 3)) := by
      intro x5 y
      simp only [vector_checkForm.j3, e1]
      by_cases h : (tx.length : Int) = n <;> by_cases h2 : (cd.length : Int) = n <;> cases y <;> cases x5 <;> simp [h, h2]
    have e3 : ∀ (x5 : Bool), vector_checkForm.j2 (k + 3) n x5 a nl nm tx dc cd = some (if nm ≠ [] ∨ (x5 = true ∧ tx ≠ []) ∨ dc.length > 1000 then 3 else if x5 = true then (if (cd.length : Int) = n then 0 else 3) else (if (tx.length : Int) = n then 0 else 3)) := by
      intro x5
      simp only [vector_checkForm.j2, e2, len_pos]
      have hd : ((dc.length : Int) > 1000) ↔ dc.length > 1000 := by omega
      simp only [hd]
      by_cases h1 : nm = [] <;> by_cases h2 : tx = [] <;> by_cases h3 : dc.length > 1000 <;> cases x5 <;> simp [h1, h2, h3]
    have e4 : (if (dc.length : Int) > 0 then vector_checkForm.j2 (k + 3) n true a nl nm tx dc cd else vector_checkForm.j2 (k + 3) n (decide ((cd.length : Int) > 0)) a nl nm tx dc cd) = vector_checkForm.j2 (k + 3) n (hasD dc cd) a nl nm tx dc cd := by
      cases dc with
      | cons y l => rw [if_pos (by simp)]; simp [hasD]
      | nil =>
        rw [if_neg (by simp)]
        cases cd with
        | nil => simp [hasD]
        | cons y l => simp [hasD]
    rw [e4, e3]
    refine ⟨_, rfl, ?_⟩
    simp only [hx', ha, true_and, ne_eq, not_true, false_implies, true_implies]
    by_cases h1 : nm = [] <;> by_cases h2 : tx = [] <;> by_cases h3 : dc.length > 1000 <;> cases hd : hasD dc cd <;> simp [h1, h2, h3] <;> omega
  · rw [if_neg ha]
    have e1 : ∀ y, vector_checkForm.j1 (k + 3) y = some (if y = true then 3 else 0) := by
      intro y; simp only [vector_checkForm.j1]; split <;> rfl
    simp only [e1, len_pos]
    simp only [hx', ha, true_and, false_implies, and_true, ne_eq, not_false_iff, true_implies]
    by_cases h1 : tx = [] <;> by_cases h2 : dc = [] <;> by_cases h3 : cd = [] <;> by_cases h4 : (nm.length : Int) = n <;> simp [h1, h2, h3, h4]
theorem form_ev (a : Int) (nl : List Bool) (nm : List Int) (tx dc : List ByteArray) (cd : List Int) (n : Int) (hn : n ≤ 1000) (k : Nat) (hk : 2000 ≤ k) :
    ∃ r, vector_checkForm.f k a nl nm tx dc cd n = some r ∧ (r = 0 ↔ FormOk a nl nm tx dc cd n) := by
  unfold vector_checkForm.f FormOk
  by_cases h1 : nl = []
  · rw [if_neg (by rw [len_pos]; simp [h1])]
    obtain ⟨r, hr, he⟩ := form_j0 a nl nm tx dc cd n false k (by omega)
    exact ⟨r, hr, he.trans (by simp [h1])⟩
  · rw [if_pos ((len_pos _).2 h1)]
    by_cases h2 : (nl.length : Int) = n
    · rw [if_pos h2, contains_ev nl true (by omega) k (by omega)]
      simp only [Option.bind_some]
      obtain ⟨r, hr, he⟩ := form_j0 a nl nm tx dc cd n (!decide (true ∈ nl)) k (by omega)
      exact ⟨r, hr, he.trans (by simp [h1, h2])⟩
    · rw [if_neg h2]
      obtain ⟨r, hr, he⟩ := form_j0 a nl nm tx dc cd n true k (by omega)
      exact ⟨r, hr, he.trans (by simp [h1, h2])⟩
def nullAt (nl : List Bool) (i : Nat) : Bool := nl.getD i false
theorem null_f {a : Int} {nl : List Bool} {nm : List Int} {tx dc : List ByteArray} {cd : List Int} {i : Nat} (h : nl = [] ∨ i < nl.length) : vector_null.f a nl nm tx dc cd (i : Int) = some (nullAt nl i) := by
  unfold vector_null.f nullAt
  rcases h with rfl | h
  · simp
  · rw [if_pos (by omega), if_pos (by omega), if_pos (by omega)]
    rfl
def RowOk (a : Int) (nl : List Bool) (nm : List Int) (tx dc : List ByteArray) (cd : List Int) (i : Nat) : Prop :=
  (a ≠ 3 → (nullAt nl i = true → nm.getD i 0 = 0) ∧ (nullAt nl i = false → okNum a (nm.getD i 0))) ∧
  (a = 3 → hasD dc cd = false → nullAt nl i = true → tx.getD i ⟨#[]⟩ = ⟨#[]⟩) ∧
  (a = 3 → hasD dc cd = true → (nullAt nl i = true → cd.getD i 0 = 0) ∧ (nullAt nl i = false → 0 ≤ cd.getD i 0 ∧ cd.getD i 0 < dc.length))
theorem rd_getD (l : List Int) (i : Nat) : rd l (i : Int) = l.getD i 0 := by simp [rd]
theorem rdOf_getD {α : Type} (d : α) (l : List α) (i : Nat) : rdOf d l (i : Int) = l.getD i d := by simp [rdOf]
theorem row_ev {a : Int} {nl : List Bool} {nm : List Int} {tx dc : List ByteArray} {cd : List Int} {n : Nat} (ha : 1 ≤ a ∧ a ≤ 3) (hF : FormOk a nl nm tx dc cd n) (i : Nat) (hi : i < n) (k : Nat) (hk : 300 ≤ k) :
    ∃ r, vector_checkRow.f k a nl nm tx dc cd (i : Int) = some r ∧ (r = 0 ↔ RowOk a nl nm tx dc cd i) := by
  obtain ⟨k, rfl⟩ : ∃ m, k = m + 1 := ⟨k - 1, by omega⟩
  unfold vector_checkRow.f
  rw [null_f (by rcases hF.1 with h | h; exact .inl h; exact .inr (by omega))]
  simp only [Option.bind_some]
  unfold RowOk
  by_cases h3 : a = 3
  · obtain ⟨_, hdl, hc, ht⟩ := hF.2.2 h3
    rw [if_pos h3, hasD_f]
    simp only [Option.bind_some]
    cases hd : hasD dc cd with
    | true =>
      obtain ⟨_, hcl⟩ := hc hd
      rw [if_pos rfl]
      simp only [h3, ne_eq, not_true, false_implies, true_implies, true_and, Bool.true_eq_false, Bool.false_eq_true]
      have hw : wrap64 ((dc.length : Int) - 1) = (dc.length : Int) - 1 := w_in _ (by omega) (by omega)
      cases hnl : nullAt nl i with
      | true =>
        rw [if_pos rfl, if_pos (by omega), if_pos (by omega)]
        simp only [vector_checkRow.j0, rd_getD]
        generalize cd.getD i 0 = x
        by_cases h0 : x = 0
        · exact ⟨0, by simp [h0], by simp [h0]⟩
        · exact ⟨3, by simp [h0], by simp [h0]⟩
      | false =>
        rw [if_neg (by simp)]
        simp only [vector_checkRow.j0, rd_getD]
        generalize cd.getD i 0 = x
        simp only [Bool.false_eq_true, if_false]
        rw [if_pos (by omega), if_pos (by omega), range_f, hw]
        simp only [Option.bind_some]
        refine ⟨_, rfl, ?_⟩
        by_cases h0 : 0 ≤ x ∧ x ≤ (dc.length : Int) - 1
        · rw [if_pos h0]; simp; omega
        · rw [if_neg h0]; simp; omega
    | false =>
      have htl := ht hd
      rw [if_neg (by simp)]
      simp only [h3, ne_eq, not_true, false_implies, true_implies, true_and, Bool.true_eq_false, Bool.false_eq_true, and_true]
      cases hnl : nullAt nl i with
      | true =>
        rw [if_pos rfl, if_pos (by omega), if_pos (by omega)]
        rw [rdOf_getD, show ByteArray.empty = (⟨#[]⟩ : ByteArray) from rfl]
        generalize tx.getD i ⟨#[]⟩ = x
        by_cases h0 : x = ⟨#[]⟩
        · rw [if_pos ((str_nil _).2 h0)]; exact ⟨0, rfl, by simp [h0]⟩
        · rw [if_neg (fun h => h0 ((str_nil _).1 h))]; exact ⟨3, rfl, by simp [h0]⟩
      | false =>
        rw [if_neg (by simp)]
        exact ⟨0, rfl, by simp⟩
  · obtain ⟨_, _, _, hnm⟩ := hF.2.1 h3
    rw [if_neg h3]
    simp only [h3, ne_eq, not_false_iff, false_implies, true_implies, and_true]
    cases hnl : nullAt nl i with
    | true =>
      rw [if_pos rfl, if_pos (by omega), if_pos (by omega)]
      simp only [vector_checkRow.j1, rd_getD]
      generalize nm.getD i 0 = x
      by_cases h0 : x = 0
      · exact ⟨0, by simp [h0], by simp [h0]⟩
      · exact ⟨3, by simp [h0], by simp [h0]⟩
    | false =>
      rw [if_neg (by simp)]
      simp only [vector_checkRow.j1, rd_getD, Bool.false_eq_true, if_false]
      rw [if_pos (by omega), if_pos (by omega)]
      obtain ⟨r, hr, he⟩ := checkNum_ev a (nm.getD i 0) (by omega) k (by omega)
      rw [hr]
      exact ⟨r, rfl, by simpa using he⟩
structure Valid (a : Int) (nl : List Bool) (nm : List Int) (tx dc : List ByteArray) (cd : List Int) (n : Nat) : Prop where
  le : n ≤ 1000
  kind : 1 ≤ a ∧ a ≤ 3
  form : FormOk a nl nm tx dc cd n
  okd : ∀ s ∈ dc, okText s
  okt : ∀ s ∈ tx, okText s
  ord : ∀ (i : Nat) (h : i + 1 < dc.length), Op.bytesLess dc[i].toList dc[i + 1].toList = true
  row : ∀ i, i < n → RowOk a nl nm tx dc cd i
theorem rowsLoop {a : Int} {nl : List Bool} {nm : List Int} {tx dc : List ByteArray} {cd : List Int} {n : Nat} (hn : n ≤ 1000) (ha : 1 ≤ a ∧ a ≤ 3) (hF : FormOk a nl nm tx dc cd n) (d : Nat) : ∀ (k : Nat) (i : Nat), i + d = n → d + 300 < k →
    ∃ r, vector_CheckVector.l1 k (n : Int) (i : Int) a nl nm tx dc cd = some r ∧ (r = 0 ↔ ∀ j, i ≤ j → j < n → RowOk a nl nm tx dc cd j) := by
  induction d with
  | zero =>
    intro k i hi hk
    obtain ⟨k, rfl⟩ : ∃ m, k = m + 1 := ⟨k - 1, by omega⟩
    refine ⟨0, by simp only [vector_CheckVector.l1]; rw [if_neg (by omega)], by simp; intro j h1 h2; omega⟩
  | succ d ih =>
    intro k i hi hk
    obtain ⟨k, rfl⟩ : ∃ m, k = m + 1 := ⟨k - 1, by omega⟩
    have hw1 : wrap64 ((i : Int) + 1) = ((i + 1 : Nat) : Int) := by rw [w_in _ (by omega) (by omega)]; simp
    simp only [vector_CheckVector.l1]
    rw [if_pos (by omega)]
    obtain ⟨r, hr, he⟩ := row_ev ha hF i (by omega) k (by omega)
    rw [hr]
    simp only [Option.bind_some]
    by_cases h0 : r = 0
    · rw [if_pos h0, hw1]
      obtain ⟨q, hq, hqe⟩ := ih k (i + 1) (by omega) (by omega)
      refine ⟨q, hq, hqe.trans ⟨fun h j h3 h4 => ?_, fun h j h3 h4 => h j (by omega) h4⟩⟩
      rcases Nat.lt_or_ge i j with h5 | h5
      · exact h j h5 h4
      · have : j = i := by omega
        subst this; exact he.1 h0
    · rw [if_neg h0]
      refine ⟨r, rfl, fun h => absurd h h0, fun h => ?_⟩
      exact absurd (he.2 (h i (Nat.le_refl _) (by omega))) h0
theorem dictLoop {a : Int} {nl : List Bool} {nm : List Int} {tx dc : List ByteArray} {cd : List Int} {n : Nat} (hn : n ≤ 1000) (ha : 1 ≤ a ∧ a ≤ 3) (hF : FormOk a nl nm tx dc cd n) (hd : dc.length ≤ 1000) (d : Nat) : ∀ (k : Nat) (i : Nat), i + d = dc.length → d + 1400 < k →
    ∃ r, vector_CheckVector.l0 k (n : Int) dc (dc.length : Int) (i : Int) a nl nm tx dc cd = some r ∧ (r = 0 ↔ (∀ (j : Nat) (h : j + 1 < dc.length), i ≤ j + 1 → Op.bytesLess dc[j].toList dc[j + 1].toList = true) ∧ ∀ j, j < n → RowOk a nl nm tx dc cd j) := by
  induction d with
  | zero =>
    intro k i hi hk
    obtain ⟨k, rfl⟩ : ∃ m, k = m + 1 := ⟨k - 1, by omega⟩
    simp only [vector_CheckVector.l0]
    rw [if_neg (by omega)]
    obtain ⟨r, hr, he⟩ := rowsLoop hn ha hF n k 0 (by omega) (by omega)
    refine ⟨r, hr, he.trans ⟨fun h => ⟨fun j h1 h2 => by omega, fun j hj => h j (Nat.zero_le _) hj⟩, fun h j _ hj => h.2 j hj⟩⟩
  | succ d ih =>
    intro k i hi hk
    obtain ⟨k, rfl⟩ : ∃ m, k = m + 1 := ⟨k - 1, by omega⟩
    have hw1 : wrap64 ((i : Int) + 1) = ((i + 1 : Nat) : Int) := by rw [w_in _ (by omega) (by omega)]; simp
    simp only [vector_CheckVector.l0]
    rw [if_pos (by omega), if_pos (by omega), if_pos (by omega), hw1]
    obtain ⟨q, hq, hqe⟩ := ih k (i + 1) (by omega) (by omega)
    by_cases h0 : (i : Int) > 0
    · obtain ⟨j, rfl⟩ : ∃ m, i = m + 1 := ⟨i - 1, by omega⟩
      have hw2 : wrap64 (((j + 1 : Nat) : Int) - 1) = (j : Int) := by rw [w_in _ (by omega) (by omega)]; omega
      rw [if_pos h0, hw2, if_pos (by omega), if_pos (by omega), rdOf_nat _ _ _ (by omega), rdOf_nat _ _ _ (by omega)]
      by_cases hb : Op.bytesLess dc[j].toList dc[j + 1].toList = true
      · rw [if_pos hb]
        refine ⟨q, hq, hqe.trans ⟨fun h => ⟨fun m h3 h4 => ?_, h.2⟩, fun h => ⟨fun m h3 h4 => h.1 m h3 (by omega), h.2⟩⟩⟩
        rcases Nat.lt_or_ge j m with h5 | h5
        · exact h.1 m h3 (by omega)
        · have : m = j := by omega
          subst this; exact hb
      · rw [if_neg hb]
        exact ⟨8, rfl, by simp, fun h => absurd (h.1 j (by omega) (Nat.le_refl _)) hb⟩
    · rw [if_neg h0]
      refine ⟨q, hq, hqe.trans ⟨fun h => ⟨fun m h3 h4 => h.1 m h3 (by omega), h.2⟩, fun h => ⟨fun m h3 h4 => h.1 m h3 (by omega), h.2⟩⟩⟩
theorem check_ev (a : Int) (nl : List Bool) (nm : List Int) (tx dc : List ByteArray) (cd : List Int) (n : Int) (k : Nat) (hk : 5000 ≤ k) :
    ∃ r, vector_CheckVector.f k a nl nm tx dc cd n = some r ∧ (r = 0 ↔ 0 ≤ n ∧ Valid a nl nm tx dc cd n.toNat) := by
  unfold vector_CheckVector.f
  rw [in_f]
  simp only [Option.bind_some]
  by_cases h1 : 0 ≤ n ∧ n ≤ 1000
  rotate_left
  · rw [if_neg (by simpa using h1)]
    refine ⟨1, rfl, by simp, fun h => absurd ⟨h.1, ?_⟩ h1⟩
    have := h.2.le; omega
  rw [if_pos (by simpa using h1), in_f]
  simp only [Option.bind_some]
  obtain ⟨n, rfl⟩ : ∃ m : Nat, n = m := ⟨n.toNat, by omega⟩
  have hn : n ≤ 1000 := by omega
  simp only [Int.toNat_natCast]
  by_cases h2 : 1 ≤ a ∧ a ≤ 3
  rotate_left
  · rw [if_neg (by simpa using h2)]
    exact ⟨4, rfl, by simp, fun h => absurd h.2.kind h2⟩
  rw [if_pos (by simpa using h2)]
  obtain ⟨r, hr, he⟩ := form_ev a nl nm tx dc cd n (by omega) k (by omega)
  rw [hr]
  simp only [Option.bind_some]
  by_cases h3 : r = 0
  rotate_left
  · rw [if_neg h3]
    exact ⟨r, rfl, fun h => absurd h h3, fun h => absurd (he.2 h.2.form) h3⟩
  rw [if_pos h3]
  have hF := he.1 h3
  have hd : dc.length ≤ 1000 := by
    by_cases h4 : a = 3
    · exact (hF.2.2 h4).2.1
    · rw [(hF.2.1 h4).2.1]; simp
  have ht : tx.length ≤ 1000 := by
    by_cases h4 : a = 3
    · cases h5 : hasD dc cd with
      | true => rw [((hF.2.2 h4).2.2.1 h5).1]; simp
      | false => have := (hF.2.2 h4).2.2.2 h5; omega
    · rw [(hF.2.1 h4).1]; simp
  obtain ⟨r2, hr2, he2⟩ := checkTexts_ev dc (by omega) k (by omega)
  rw [hr2]
  simp only [Option.bind_some]
  by_cases h4 : r2 = 0
  rotate_left
  · rw [if_neg h4]
    exact ⟨r2, rfl, fun h => absurd h h4, fun h => absurd (he2.2 h.2.okd) h4⟩
  rw [if_pos h4]
  obtain ⟨r3, hr3, he3⟩ := checkTexts_ev tx (by omega) k (by omega)
  rw [hr3]
  simp only [Option.bind_some]
  by_cases h5 : r3 = 0
  rotate_left
  · rw [if_neg h5]
    exact ⟨r3, rfl, fun h => absurd h h5, fun h => absurd (he3.2 h.2.okt) h5⟩
  rw [if_pos h5]
  obtain ⟨q, hq, hqe⟩ := dictLoop hn h2 hF hd dc.length k 0 (by omega) (by omega)
  refine ⟨q, hq, hqe.trans ⟨fun h => ⟨by omega, hn, h2, hF, he2.1 h4, he3.1 h5, fun i hi => h.1 i hi (Nat.zero_le _), h.2⟩, fun h => ⟨fun j hj _ => h.2.ord j hj, h.2.row⟩⟩⟩
end Go.Proofs.Ytphnmaobpefoiaa.XA
end
section
namespace Go.Proofs.Ytphnmaobpefoiaa.XA
open Go.RowKit Go.Sort Go.Proofs.YtphnmaobpefoiaaXW Go.Proofs.YtphnmaobpefoiaaW.PrintWords Go.Proofs.YtphnmaobpefoiaaW.PrintLast Go.Proofs.YtphnmaobpefoiaaW.PrintMore
abbrev e0 : ByteArray := ⟨#[]⟩
abbrev nullV : S41 := ⟨0, 0, e0⟩
def valAt (a : Int) (nl : List Bool) (nm : List Int) (tx dc : List ByteArray) (cd : List Int) (i : Nat) : S41 :=
  if nullAt nl i = true then nullV else if a = 3 then (if hasD dc cd = true then ⟨3, 0, dc.getD (cd.getD i 0).toNat e0⟩ else ⟨3, 0, tx.getD i e0⟩) else ⟨a, nm.getD i 0, e0⟩
section
variable {a : Int} {nl : List Bool} {nm : List Int} {tx dc : List ByteArray} {cd : List Int} {n : Nat}
theorem Valid.nl_len (h : Valid a nl nm tx dc cd n) (i : Nat) (hi : i < n) : nl = [] ∨ i < nl.length := by
  rcases h.form.1 with h1 | h1
  · exact .inl h1
  · exact .inr (by omega)
theorem at_f (h : Valid a nl nm tx dc cd n) (i : Nat) (hi : i < n) : vector_at.f a nl nm tx dc cd (i : Int) = some ((valAt a nl nm tx dc cd i).f0, (valAt a nl nm tx dc cd i).f1, (valAt a nl nm tx dc cd i).f2) := by
  unfold vector_at.f
  rw [null_f (h.nl_len i hi)]
  simp only [Option.bind_some]
  unfold valAt
  have hr := h.row i hi
  cases hn : nullAt nl i with
  | true => simp
  | false =>
    simp only [Bool.false_eq_true, if_false]
    by_cases h3 : a = 3
    · obtain ⟨_, _, hc, ht⟩ := h.form.2.2 h3
      rw [if_pos h3, if_pos h3, hasD_f]
      simp only [Option.bind_some]
      cases hd : hasD dc cd with
      | true =>
        have hcl := (hc hd).2
        have hr2 := (hr.2.2 h3 hd).2 hn
        simp only [if_true, rd_getD]
        rw [if_pos (by omega), if_pos (by omega), if_pos hr2.1, if_pos hr2.2]
        rfl
      | false =>
        have htl := ht hd
        simp only [Bool.false_eq_true, if_false]
        rw [if_pos (by omega), if_pos (by omega)]
        rfl
    · obtain ⟨_, _, _, hnm⟩ := h.form.2.1 h3
      rw [if_neg h3, if_neg h3, if_pos (by omega), if_pos (by omega), rd_getD]
def longN (nm : List Int) (tx : List ByteArray) (cd : List Int) : Nat := max (max nm.length tx.length) cd.length
theorem long_f : vector_long.f a nl nm tx dc cd = some ((longN nm tx cd : Nat) : Int) := by
  unfold vector_long.f longN
  split <;> split <;> congr 1 <;> omega
theorem Valid.long (h : Valid a nl nm tx dc cd n) : longN nm tx cd = n := by
  unfold longN
  by_cases h3 : a = 3
  · obtain ⟨h1, _, hc, ht⟩ := h.form.2.2 h3
    subst h1
    cases hd : hasD dc cd with
    | true => obtain ⟨h2, h4⟩ := hc hd; subst h2; simp; omega
    | false =>
      obtain ⟨_, h4⟩ := hasD_false.1 hd
      have := ht hd
      subst h4; simp; omega
  · obtain ⟨h1, _, h2, h4⟩ := h.form.2.1 h3
    subst h1; subst h2; simp; omega
def vals (a : Int) (nl : List Bool) (nm : List Int) (tx dc : List ByteArray) (cd : List Int) (n : Nat) : List S41 := (List.range n).map (valAt a nl nm tx dc cd)
theorem vals_length : (vals a nl nm tx dc cd n).length = n := by simp [vals]
theorem allLoop (h : Valid a nl nm tx dc cd n) (d : Nat) : ∀ (k : Nat) (i : Nat), i + d = n → d < k →
    vector_all.l0 k (vals a nl nm tx dc cd i) (n : Int) (i : Int) a nl nm tx dc cd = some (vals a nl nm tx dc cd n) := by
  induction d with
  | zero =>
    intro k i hi hk
    obtain ⟨k, rfl⟩ : ∃ m, k = m + 1 := ⟨k - 1, by omega⟩
    simp only [vector_all.l0]
    rw [if_neg (by omega)]
    rw [show i = n by omega]
  | succ d ih =>
    intro k i hi hk
    obtain ⟨k, rfl⟩ : ∃ m, k = m + 1 := ⟨k - 1, by omega⟩
    have hl := h.le
    have hw1 : wrap64 ((i : Int) + 1) = ((i + 1 : Nat) : Int) := by rw [w_in _ (by omega) (by omega)]; simp
    simp only [vector_all.l0]
    rw [if_pos (by omega), at_f h i (by omega)]
    simp only [Option.bind_some]
    rw [if_pos (by rw [vals_length]; omega), hw1]
    have e : vals a nl nm tx dc cd i ++ [(⟨(valAt a nl nm tx dc cd i).f0, (valAt a nl nm tx dc cd i).f1, (valAt a nl nm tx dc cd i).f2⟩ : S41)] = vals a nl nm tx dc cd (i + 1) := by
      simp [vals, List.range_succ]
    rw [e]
    exact ih k (i + 1) (by omega) (by omega)
theorem all_f (h : Valid a nl nm tx dc cd n) (k : Nat) (hk : n < k) : vector_all.f k a nl nm tx dc cd = some (vals a nl nm tx dc cd n) := by
  unfold vector_all.f
  rw [long_f, h.long]
  simp only [Option.bind_some]
  exact allLoop h n k 0 (by omega) hk
end
def nullsOf (l : List S41) : List Bool := l.map fun v => v.f0 == 0
def onlyNulls (l : List Bool) : List Bool := if true ∈ l then l else []
def numsOf (a : Int) (l : List S41) : List Int := if a = 3 then [] else l.map (·.f1)
def textsOf (a : Int) (l : List S41) : List ByteArray := if a = 3 then l.map (·.f2) else []
theorem rdT_nat (l : List S41) (i : Nat) (h : i < l.length) : rd_T41 l (i : Int) = l[i] := by
  simp [rd_T41, List.getD_eq_getElem?_getD, h]
theorem ofLoop (a x : Int) (l : List S41) (hl : l.length ≤ 1000000) (d : Nat) : ∀ (k : Nat) (i : Nat), i + d = l.length → l.length + d + 1 < k →
    vector_of.l0 k a (nullsOf (l.take i)) l (l.length : Int) (i : Int) x (numsOf a (l.take i)) (textsOf a (l.take i)) = some (x, onlyNulls (nullsOf l), numsOf a l, textsOf a l, [], []) := by
  induction d with
  | zero =>
    intro k i hi hk
    obtain ⟨k, rfl⟩ : ∃ m, k = m + 1 := ⟨k - 1, by omega⟩
    simp only [vector_of.l0]
    rw [if_neg (by omega)]
    rw [List.take_of_length_le (by omega), contains_ev _ _ (by simp [nullsOf]; omega) k (by simp [nullsOf]; omega)]
    simp only [Option.bind_some, onlyNulls]
    by_cases h : true ∈ nullsOf l
    · rw [if_pos (by simpa using h), if_pos h]
    · rw [if_neg (by simpa using h), if_neg h]
  | succ d ih =>
    intro k i hi hk
    obtain ⟨k, rfl⟩ : ∃ m, k = m + 1 := ⟨k - 1, by omega⟩
    have hw1 : wrap64 ((i : Int) + 1) = ((i + 1 : Nat) : Int) := by rw [w_in _ (by omega) (by omega)]; simp
    have ht : l.take (i + 1) = l.take i ++ [l[i]] := by rw [List.take_succ_eq_append_getElem (by omega)]
    have e1 : nullsOf (l.take (i + 1)) = nullsOf (l.take i) ++ [l[i].f0 == 0] := by simp only [nullsOf, ht, List.map_append, List.map_cons, List.map_nil]
    simp only [vector_of.l0]
    rw [if_pos (by omega), if_pos (by omega), if_pos (by omega), rdT_nat _ _ (by omega)]
    simp only [kit_IsNull.f, Option.bind_some]
    rw [if_pos (by simp [nullsOf]; omega), ← e1, hw1]
    have := ih k (i + 1) (by omega) (by omega)
    by_cases h3 : a = 3
    · rw [if_pos h3, if_pos (by simp [textsOf, h3]; omega)]
      have e2 : textsOf a (l.take (i + 1)) = textsOf a (l.take i) ++ [l[i].f2] := by simp only [textsOf, if_pos h3, ht, List.map_append, List.map_cons, List.map_nil]
      have e3 : numsOf a (l.take (i + 1)) = numsOf a (l.take i) := by simp [numsOf, h3]
      rw [e2, e3] at this
      exact this
    · rw [if_neg h3, if_pos (by simp [numsOf, h3]; omega)]
      have e2 : textsOf a (l.take (i + 1)) = textsOf a (l.take i) := by simp [textsOf, h3]
      have e3 : numsOf a (l.take (i + 1)) = numsOf a (l.take i) ++ [l[i].f1] := by simp only [numsOf, if_neg h3, ht, List.map_append, List.map_cons, List.map_nil]
      rw [e2, e3] at this
      exact this
theorem of_f (a : Int) (l : List S41) (hl : l.length ≤ 1000000) (k : Nat) (hk : 2 * l.length + 1 < k) : vector_of.f k a l = some (a, onlyNulls (nullsOf l), numsOf a l, textsOf a l, [], []) := by
  have := ofLoop a a l hl l.length k 0 (by omega) (by omega)
  simp only [List.take_zero] at this
  unfold vector_of.f
  have e1 : numsOf a [] = [] := by unfold numsOf; split <;> rfl
  have e2 : textsOf a [] = [] := by unfold textsOf; split <;> rfl
  rw [e1, e2] at this
  exact this
def ColVal (a : Int) (v : S41) : Prop := v = nullV ∨ (v.f0 = a ∧ (a = 3 → v.f1 = 0 ∧ okText v.f2) ∧ (a ≠ 3 → v.f2 = e0 ∧ okNum a v.f1))
theorem Valid.colVal {a : Int} {nl : List Bool} {nm : List Int} {tx dc : List ByteArray} {cd : List Int} {n : Nat} (h : Valid a nl nm tx dc cd n) (i : Nat) (hi : i < n) : ColVal a (valAt a nl nm tx dc cd i) := by
  unfold valAt
  have hr := h.row i hi
  cases hn : nullAt nl i with
  | true => simp [ColVal]
  | false =>
    simp only [Bool.false_eq_true, if_false]
    right
    by_cases h3 : a = 3
    · obtain ⟨_, _, hc, ht⟩ := h.form.2.2 h3
      rw [if_pos h3]
      cases hd : hasD dc cd with
      | true =>
        have hr2 := (hr.2.2 h3 hd).2 hn
        simp only [if_true]
        refine ⟨h3.symm, fun _ => ⟨by simp, ?_⟩, fun h => absurd h3 h⟩
        have hj : (cd.getD i 0).toNat < dc.length := by omega
        show okText (dc.getD (cd.getD i 0).toNat e0)
        rw [List.getD_eq_getElem?_getD, List.getElem?_eq_getElem hj]
        exact h.okd _ (List.getElem_mem hj)
      | false =>
        have htl := ht hd
        simp only [Bool.false_eq_true, if_false]
        refine ⟨h3.symm, fun _ => ⟨by simp, ?_⟩, fun h => absurd h3 h⟩
        have hj : i < tx.length := by omega
        show okText (tx.getD i e0)
        rw [List.getD_eq_getElem?_getD, List.getElem?_eq_getElem hj]
        exact h.okt _ (List.getElem_mem hj)
    · rw [if_neg h3]
      exact ⟨rfl, fun h => absurd h h3, fun _ => ⟨rfl, (hr.1 h3).2 hn⟩⟩
theorem vals_col {a : Int} {nl : List Bool} {nm : List Int} {tx dc : List ByteArray} {cd : List Int} {n : Nat} (h : Valid a nl nm tx dc cd n) : ∀ v ∈ vals a nl nm tx dc cd n, ColVal a v := by
  intro v hv
  simp only [vals, List.mem_map, List.mem_range] at hv
  obtain ⟨i, hi, rfl⟩ := hv
  exact h.colVal i hi
theorem nullAt_only (l : List S41) (i : Nat) (hi : i < l.length) : nullAt (onlyNulls (nullsOf l)) i = (l[i].f0 == 0) := by
  unfold onlyNulls nullAt
  have e : (nullsOf l).getD i false = (l[i].f0 == 0) := by simp [nullsOf, List.getD_eq_getElem?_getD, hi]
  by_cases h : true ∈ nullsOf l
  · rw [if_pos h, e]
  · rw [if_neg h]
    have h1 : (l[i].f0 == 0) ≠ true := fun h2 => h (by
      rw [← h2]; simp only [nullsOf]; exact List.mem_map.2 ⟨l[i], List.getElem_mem hi, rfl⟩)
    simpa using h1
theorem onlyNulls_form (l : List S41) : onlyNulls (nullsOf l) = [] ∨ (((onlyNulls (nullsOf l)).length : Int) = (l.length : Nat) ∧ true ∈ onlyNulls (nullsOf l)) := by
  unfold onlyNulls
  by_cases h : true ∈ nullsOf l
  · rw [if_pos h]; exact .inr ⟨by simp [nullsOf], h⟩
  · rw [if_neg h]; exact .inl rfl
theorem ColVal.null_iff {a : Int} {v : S41} (ha : 1 ≤ a) (h : ColVal a v) : v.f0 = 0 ↔ v = nullV := by
  constructor
  · intro h0
    rcases h with h | h
    · exact h
    · omega
  · intro h0; rw [h0]
theorem ColVal.empty {a : Int} {v : S41} (h : ColVal a v) (h3 : a ≠ 3) : v.f2 = e0 := by
  rcases h with h | h
  · rw [h]
  · exact (h.2.2 h3).1
theorem okText_e0 : okText e0 := ⟨by decide, fun i hi => absurd hi (by simp [ByteArray.size])⟩
theorem ColVal.okT {v : S41} (h : ColVal 3 v) : okText v.f2 ∧ v.f1 = 0 := by
  rcases h with h | h
  · rw [h]; exact ⟨okText_e0, rfl⟩
  · exact ⟨(h.2.1 rfl).2, (h.2.1 rfl).1⟩
theorem S41_ext {v w : S41} (h0 : v.f0 = w.f0) (h1 : v.f1 = w.f1) (h2 : v.f2 = w.f2) : v = w := by
  cases v; cases w; simp_all
theorem of_valid {a : Int} (ha : 1 ≤ a ∧ a ≤ 3) {l : List S41} (hl : l.length ≤ 1000) (h : ∀ v ∈ l, ColVal a v) : Valid a (onlyNulls (nullsOf l)) (numsOf a l) (textsOf a l) [] [] l.length where
  le := hl
  kind := ha
  form := ⟨onlyNulls_form l, fun h3 => ⟨by simp [textsOf, h3], rfl, rfl, by simp [numsOf, h3]⟩, fun h3 => ⟨by simp [numsOf, h3], by simp, fun hd => by simp [hasD] at hd, fun _ => by simp [textsOf, h3]⟩⟩
  okd := by simp
  okt := by
    intro s hs
    unfold textsOf at hs
    split at hs
    · rename_i h3
      obtain ⟨v, hv, rfl⟩ := List.mem_map.1 hs
      subst h3
      exact (h v hv).okT.1
    · cases hs
  ord := by intro i hi; simp at hi
  row := by
    intro i hi
    have hc := h l[i] (List.getElem_mem hi)
    have hn := nullAt_only l i hi
    refine ⟨fun h3 => ?_, fun h3 _ hnl => ?_, fun _ hd => by simp [hasD] at hd⟩
    · have e : (numsOf a l).getD i 0 = l[i].f1 := by simp [numsOf, h3, List.getD_eq_getElem?_getD, hi]
      rw [e, hn]
      constructor
      · intro h0
        have := (hc.null_iff ha.1).1 (by simpa using h0)
        rw [this]
      · intro h0
        rcases hc with hc | hc
        · rw [hc] at h0; simp at h0
        · exact (hc.2.2 h3).2
    · rw [hn] at hnl
      have := (hc.null_iff ha.1).1 (by simpa using hnl)
      simp [textsOf, h3, List.getD_eq_getElem?_getD, hi, this]
theorem of_vals {a : Int} (ha : 1 ≤ a ∧ a ≤ 3) {l : List S41} (h : ∀ v ∈ l, ColVal a v) (i : Nat) (hi : i < l.length) : valAt a (onlyNulls (nullsOf l)) (numsOf a l) (textsOf a l) [] [] i = l[i] := by
  have hc := h l[i] (List.getElem_mem hi)
  unfold valAt
  rw [nullAt_only l i hi]
  by_cases h0 : l[i].f0 = 0
  · rw [if_pos (by simpa using h0)]
    exact ((hc.null_iff ha.1).1 h0).symm
  · rw [if_neg (by simpa using h0)]
    have hc2 := hc.resolve_left (fun h1 => h0 (by rw [h1]))
    by_cases h3 : a = 3
    · rw [if_pos h3, if_neg (by simp [hasD])]
      apply S41_ext
      · simp [hc2.1, h3]
      · simp [(hc2.2.1 h3).1]
      · simp [textsOf, h3, List.getD_eq_getElem?_getD, hi]
    · rw [if_neg h3]
      apply S41_ext
      · simp [hc2.1]
      · simp [numsOf, h3, List.getD_eq_getElem?_getD, hi]
      · exact (hc.empty h3).symm
theorem Valid.eq_of {a : Int} {nl : List Bool} {nm : List Int} {tx dc : List ByteArray} {cd : List Int} {n : Nat} (h : Valid a nl nm tx dc cd n) (h3 : a ≠ 3) :
    nl = onlyNulls (nullsOf (vals a nl nm tx dc cd n)) ∧ nm = numsOf a (vals a nl nm tx dc cd n) ∧ tx = [] ∧ dc = [] ∧ cd = [] := by
  obtain ⟨h1, h2, h4, hnm⟩ := h.form.2.1 h3
  have ha := h.kind
  have hv : ∀ i, i < n → (valAt a nl nm tx dc cd i).f0 = (if nullAt nl i = true then 0 else a) ∧ (valAt a nl nm tx dc cd i).f1 = nm.getD i 0 := by
    intro i hi
    unfold valAt
    have hr := (h.row i hi).1 h3
    cases hn : nullAt nl i with
    | true =>
      refine ⟨by simp, ?_⟩
      rw [hr.1 hn]; simp
    | false => simp [h3]
  refine ⟨?_, ?_, h1, h2, h4⟩
  · have e : nullsOf (vals a nl nm tx dc cd n) = (List.range n).map (nullAt nl) := by
      simp only [nullsOf, vals, List.map_map]
      apply List.map_congr_left
      intro i hi
      simp only [Function.comp, (hv i (List.mem_range.1 hi)).1]
      cases nullAt nl i with
      | true => simp
      | false => simp; omega
    rw [e]
    rcases h.form.1 with h5 | h5
    · subst h5
      unfold onlyNulls
      rw [if_neg]
      simp [nullAt]
    · have e2 : (List.range n).map (nullAt nl) = nl := by
        apply List.ext_getElem
        · simp; omega
        · intro i h6 h7
          simp [nullAt, List.getD_eq_getElem?_getD, h7]
      rw [e2]
      unfold onlyNulls
      rw [if_pos h5.2]
  · unfold numsOf
    rw [if_neg h3]
    apply List.ext_getElem
    · simp [vals]; omega
    · intro i h6 h7
      have hi : i < n := by omega
      simp [vals, (hv i hi).2, List.getD_eq_getElem?_getD, h6]
end Go.Proofs.Ytphnmaobpefoiaa.XA
end
section
namespace Go.Proofs.Ytphnmaobpefoiaa.XA
open Go.RowKit Go.Sort Go.Proofs.YtphnmaobpefoiaaXW Go.Proofs.YtphnmaobpefoiaaW.PrintWords Go.Proofs.YtphnmaobpefoiaaW.PrintLast Go.Proofs.YtphnmaobpefoiaaW.PrintMore
abbrev BL := List UInt8
theorem bl_trans {a b c : BL} (h1 : a < b) (h2 : b < c) : a < c := List.lt_trans h1 h2
theorem bl_irrefl (a : BL) : ¬ a < a := List.lt_irrefl a
theorem bl_le (a b : BL) : a ≤ b ↔ a < b ∨ a = b := List.le_iff_lt_or_eq
theorem compact_upto {zs : List BL} (hs : ∀ (i j : Nat) (hi : i < j) (hj : j < zs.length), zs[i] ≤ zs[j]) (m : Nat) (hm : m ≤ zs.length) :
    (Lib.compactUpTo zs.toArray m).Pairwise (· < ·) ∧ ∀ x, x ∈ Lib.compactUpTo zs.toArray m ↔ ∃ (j : Nat) (h : j < zs.length), j < m ∧ zs[j] = x := by
  induction m with
  | zero => simp [Lib.compactUpTo]
  | succ m ih =>
    obtain ⟨ih1, ih2⟩ := ih (by omega)
    have hb : ∀ (j : Nat) (h : j < zs.length), zs.toArray[j]! = zs[j] := fun j h => by simp [h]
    rw [Lib.compactUpTo_succ]
    by_cases hk : Lib.keeps zs.toArray m = true
    · rw [if_pos hk, hb m (by omega)]
      have hk2 : m = 0 ∨ zs.toArray[m]! ≠ zs.toArray[m - 1]! := by simpa [Lib.keeps] using hk
      refine ⟨List.pairwise_append.2 ⟨ih1, by simp, ?_⟩, ?_⟩
      · intro x hx y hy
        rw [List.mem_singleton.1 hy]
        obtain ⟨j, h1, h2, h3⟩ := (ih2 x).1 hx
        have hle : x ≤ zs[m] := by rw [← h3]; exact hs j m h2 (by omega)
        rcases (bl_le _ _).1 hle with h4 | h4
        · exact h4
        · exfalso
          rcases hk2 with h5 | h5
          · omega
          · rw [hb m (by omega), hb (m - 1) (by omega)] at h5
            have h6 : zs[m - 1] ≤ zs[m] := hs (m - 1) m (by omega) (by omega)
            have h7 : x ≤ zs[m - 1] := by
              rcases Nat.lt_or_ge j (m - 1) with h8 | h8
              · rw [← h3]; exact hs j (m - 1) h8 (by omega)
              · have : j = m - 1 := by omega
                subst this; rw [h3]; exact List.le_refl _
            rw [h4] at h7
            rcases (bl_le _ _).1 h6 with h8 | h8
            · rcases (bl_le _ _).1 h7 with h9 | h9
              · exact bl_irrefl _ (bl_trans h8 h9)
              · exact h5 h9
            · exact h5 h8.symm
      · intro x
        rw [List.mem_append, ih2, List.mem_singleton]
        constructor
        · rintro (⟨j, h1, h2, h3⟩ | h3)
          · exact ⟨j, h1, by omega, h3⟩
          · exact ⟨m, by omega, by omega, h3.symm⟩
        · rintro ⟨j, h1, h2, h3⟩
          rcases Nat.lt_or_ge j m with h4 | h4
          · exact .inl ⟨j, h1, h4, h3⟩
          · have : j = m := by omega
            subst this; exact .inr h3.symm
    · rw [if_neg hk, List.append_nil]
      have hk2 : ¬ (m = 0 ∨ zs.toArray[m]! ≠ zs.toArray[m - 1]!) := by simpa [Lib.keeps] using hk
      have hm0 : m ≠ 0 := fun h => hk2 (.inl h)
      have he : zs[m] = zs[m - 1] := by
        have h1 : zs.toArray[m]! = zs.toArray[m - 1]! := Classical.byContradiction fun h => hk2 (.inr h)
        rwa [hb m (by omega), hb (m - 1) (by omega)] at h1
      refine ⟨ih1, fun x => (ih2 x).trans ⟨fun ⟨j, h1, h2, h3⟩ => ⟨j, h1, by omega, h3⟩, fun ⟨j, h1, h2, h3⟩ => ?_⟩⟩
      rcases Nat.lt_or_ge j m with h4 | h4
      · exact ⟨j, h1, h4, h3⟩
      · have : j = m := by omega
        subst this
        exact ⟨j - 1, by omega, by omega, by rw [← he]; exact h3⟩
def dictOf (l : List ByteArray) : List ByteArray := compactB (sortB l)
theorem map_bytesL_sortB (l : List ByteArray) : (sortB l).map bytesL = (l.map bytesL).mergeSort fun x y => decide (x ≤ y) := by
  unfold sortB
  rw [List.map_map]
  conv => rhs; rw [← List.map_id ((l.map bytesL).mergeSort fun x y => decide (x ≤ y))]
  apply List.map_congr_left
  intro x _
  exact bytesL_ofBytes x
theorem dict_spec (l : List ByteArray) : ((dictOf l).map bytesL).Pairwise (· < ·) ∧ (∀ s, s ∈ dictOf l ↔ s ∈ l) ∧ (dictOf l).length ≤ l.length := by
  have hs : ∀ (i j : Nat) (hi : i < j) (hj : j < ((sortB l).map bytesL).length), ((sortB l).map bytesL)[i] ≤ ((sortB l).map bytesL)[j] := by
    have h := List.pairwise_mergeSort (le := fun x y : BL => decide (x ≤ y)) (fun a b c h1 h2 => by simp at *; exact List.le_trans h1 h2) (fun a b => by simp; exact List.le_total a b) (l.map bytesL)
    rw [← map_bytesL_sortB] at h
    intro i j hi hj
    have := List.pairwise_iff_getElem.1 h i j (by omega) hj hi
    simpa using this
  obtain ⟨h1, h2⟩ := compact_upto hs _ (Nat.le_refl _)
  have e : (dictOf l).map bytesL = Lib.compactUpTo ((sortB l).map bytesL).toArray ((sortB l).map bytesL).length := by
    unfold dictOf compactB Lib.compact
    rw [List.map_map]
    conv => rhs; rw [← List.map_id (Lib.compactUpTo ((sortB l).map bytesL).toArray ((sortB l).map bytesL).length)]
    apply List.map_congr_left
    intro x _
    exact bytesL_ofBytes x
  refine ⟨by rw [e]; exact h1, fun s => ?_, ?_⟩
  · have h3 : s ∈ dictOf l ↔ bytesL s ∈ (dictOf l).map bytesL := by
      constructor
      · exact fun h => List.mem_map.2 ⟨s, h, rfl⟩
      · intro h
        obtain ⟨t, ht, he⟩ := List.mem_map.1 h
        have : t = s := by rw [← ofBytes_bytesL t, he, ofBytes_bytesL]
        rwa [← this]
    rw [h3, e, h2]
    have h4 : (∃ (j : Nat) (h : j < ((sortB l).map bytesL).length), j < ((sortB l).map bytesL).length ∧ ((sortB l).map bytesL)[j] = bytesL s) ↔ bytesL s ∈ (sortB l).map bytesL := by
      constructor
      · rintro ⟨j, h, _, h5⟩; exact h5 ▸ List.getElem_mem h
      · intro h
        obtain ⟨j, hj, h5⟩ := List.getElem_of_mem h
        exact ⟨j, hj, hj, h5⟩
    rw [h4, map_bytesL_sortB, List.mem_mergeSort]
    constructor
    · intro h
      obtain ⟨t, ht, he⟩ := List.mem_map.1 h
      have : t = s := by rw [← ofBytes_bytesL t, he, ofBytes_bytesL]
      rwa [← this]
    · exact fun h => List.mem_map.2 ⟨s, h, rfl⟩
  · exact Nat.le_trans (compactB_le _) (by rw [sortB_length]; exact Nat.le_refl _)
theorem less_f (a b : ByteArray) : cmp_Less_string.f a b = some (decide (bytesL a < bytesL b)) := by
  unfold cmp_Less_string.f cmp_isNaN_string.f
  simp only [Option.bind_some, bne_self_eq_false, Bool.false_eq_true, if_false, bytesLess_eq, toList_ba]
  rfl
def Inc (D : List ByteArray) : Prop := (D.map bytesL).Pairwise (· < ·)
theorem Inc.lt {D : List ByteArray} (h : Inc D) (i j : Nat) (hi : i < j) (hj : j < D.length) : bytesL D[i] < bytesL D[j] := by
  have := List.pairwise_iff_getElem.1 h i j (by simp; omega) (by simpa using hj) hi
  simpa using this
theorem u64_in (x : Int) (h0 : 0 ≤ x) (h1 : x < 18446744073709551616) : IntKind.u64.wrap x = x := by
  simp [IntKind.wrap, IntKind.signed, IntKind.bits]; omega
theorem searchLoop {D : List ByteArray} (hD : Inc D) (hl : D.length < 2000000000) (t : Nat) (ht : t < D.length) (m : Nat) : ∀ (k lo hi : Nat), hi - lo ≤ m → lo ≤ t → t ≤ hi → hi ≤ D.length → m < k →
    slices_BinarySearch_string_string.l0 k D D[t] (D.length : Int) (lo : Int) (hi : Int) = some ((t : Int), true) := by
  induction m with
  | zero =>
    intro k lo hi h1 h2 h3 h4 hk
    obtain ⟨k, rfl⟩ : ∃ m, k = m + 1 := ⟨k - 1, by omega⟩
    have h5 : lo = t := by omega
    have h6 : hi = t := by omega
    subst h5; subst h6
    simp only [slices_BinarySearch_string_string.l0]
    rw [if_neg (by omega), if_pos (by omega), if_pos (by omega), if_pos (by omega), rdOf_nat _ _ _ ht]
    rw [if_pos rfl]
  | succ m ih =>
    intro k lo hi h1 h2 h3 h4 hk
    obtain ⟨k, rfl⟩ : ∃ m, k = m + 1 := ⟨k - 1, by omega⟩
    by_cases h7 : lo = hi
    · have h5 : lo = t := by omega
      subst h5; subst h7
      simp only [slices_BinarySearch_string_string.l0]
      rw [if_neg (by omega), if_pos (by omega), if_pos (by omega), if_pos (by omega), rdOf_nat _ _ _ ht]
      rw [if_pos rfl]
    · have hw : (wrap64 ((IntKind.u64.wrap (wrap64 ((lo : Int) + (hi : Int)))) / 2)) = (((lo + hi) / 2 : Nat) : Int) := by
        have h1 : wrap64 ((lo : Int) + (hi : Int)) = (lo : Int) + (hi : Int) := w_in _ (by omega) (by omega)
        have h2 : IntKind.u64.wrap ((lo : Int) + (hi : Int)) = (lo : Int) + (hi : Int) := u64_in _ (by omega) (by omega)
        rw [h1, h2, w_in _ (by omega) (by omega)]
        omega
      simp only [slices_BinarySearch_string_string.l0, hw]
      rw [if_pos (by omega), if_pos (by omega), if_pos (by omega), rdOf_nat _ _ _ (by omega), less_f]
      simp only [Option.bind_some]
      have hw2 : wrap64 ((((lo + hi) / 2 : Nat) : Int) + 1) = (((lo + hi) / 2 + 1 : Nat) : Int) := by rw [w_in _ (by omega) (by omega)]; simp
      by_cases h8 : bytesL D[(lo + hi) / 2] < bytesL D[t]
      · rw [if_pos (by simpa using h8), hw2]
        have h9 : (lo + hi) / 2 < t := by
          apply Classical.byContradiction
          intro h9
          rcases Nat.lt_or_ge t ((lo + hi) / 2) with h10 | h10
          · exact bl_irrefl _ (bl_trans h8 (hD.lt _ _ h10 (by omega)))
          · have : t = (lo + hi) / 2 := by omega
            simp only [← this] at h8
            exact bl_irrefl _ h8
        exact ih k _ _ (by omega) (by omega) (by omega) h4 (by omega)
      · rw [if_neg (by simpa using h8)]
        have h9 : t ≤ (lo + hi) / 2 := by
          apply Classical.byContradiction
          intro h9
          exact h8 (hD.lt _ _ (by omega) ht)
        exact ih k _ _ (by omega) (by omega) (by omega) (by omega) (by omega)
theorem search_f {D : List ByteArray} (hD : Inc D) (hl : D.length < 2000000000) (t : Nat) (ht : t < D.length) (k : Nat) (hk : D.length < k) : slices_BinarySearch_string_string.f k D D[t] = some ((t : Int), true) := by
  unfold slices_BinarySearch_string_string.f
  exact searchLoop hD hl t ht D.length k 0 D.length (by omega) (by omega) (by omega) (by omega) hk
def indexIn (D : List ByteArray) (s : ByteArray) : Nat := D.findIdx (fun x => bytesL x == bytesL s)
theorem index_spec {D : List ByteArray} {s : ByteArray} (h : s ∈ D) : ∃ h : indexIn D s < D.length, D[indexIn D s] = s := by
  have h1 : indexIn D s < D.length := List.findIdx_lt_length_of_exists ⟨s, h, by simp⟩
  refine ⟨h1, ?_⟩
  have h2 := List.findIdx_getElem (w := h1)
  have h3 : bytesL D[indexIn D s] = bytesL s := eq_of_beq (show (bytesL D[indexIn D s] == bytesL s) = true from h2)
  rw [← ofBytes_bytesL D[indexIn D s], h3, ofBytes_bytesL]
theorem search_of {D : List ByteArray} (hD : Inc D) (hl : D.length < 2000000000) {s : ByteArray} (hs : s ∈ D) (k : Nat) (hk : D.length < k) : slices_BinarySearch_string_string.f k D s = some ((indexIn D s : Int), true) := by
  obtain ⟨h1, h2⟩ := index_spec hs
  have := search_f hD hl (indexIn D s) h1 k hk
  rwa [h2] at this
def occ (nl : List Bool) (tx : List ByteArray) (i : Nat) : List ByteArray := ((List.range i).filter fun j => !nullAt nl j).map fun j => tx.getD j e0
theorem occ_succ (nl : List Bool) (tx : List ByteArray) (i : Nat) : occ nl tx (i + 1) = occ nl tx i ++ (if nullAt nl i = true then [] else [tx.getD i e0]) := by
  unfold occ
  rw [List.range_succ, List.filter_append, List.map_append]
  cases h : nullAt nl i <;> simp [h]
theorem occ_length (nl : List Bool) (tx : List ByteArray) (i : Nat) : (occ nl tx i).length ≤ i := by
  unfold occ
  rw [List.length_map]
  exact Nat.le_trans (List.length_filter_le _ _) (by simp)
def codesOf (nl : List Bool) (tx D : List ByteArray) (i : Nat) : List Int := (List.range i).map fun j => if nullAt nl j = true then 0 else (indexIn D (tx.getD j e0) : Int)
theorem mem_occ {nl : List Bool} {tx : List ByteArray} {i : Nat} (hi : i < tx.length) (hn : nullAt nl i = false) : tx.getD i e0 ∈ occ nl tx tx.length :=
  List.mem_map.2 ⟨i, List.mem_filter.2 ⟨List.mem_range.2 hi, by simp [hn]⟩, rfl⟩
section
variable {a : Int} {nl : List Bool} {nm : List Int} {tx dc : List ByteArray} {cd : List Int}
theorem codesLoop (x : Int) (y : List Bool) (hl : tx.length ≤ 100000) (hnl : nl = [] ∨ nl.length = tx.length) (d : Nat) : ∀ (k : Nat) (i : Nat), i + d = tx.length → tx.length + d < k →
    vector_withDict.l1 k tx (tx.length : Int) (i : Int) a nl nm tx dc cd x y (dictOf (occ nl tx tx.length)) (codesOf nl tx (dictOf (occ nl tx tx.length)) i) =
      some (x, y, [], [], dictOf (occ nl tx tx.length), codesOf nl tx (dictOf (occ nl tx tx.length)) tx.length) := by
  obtain ⟨hD, hm, hdl⟩ := dict_spec (occ nl tx tx.length)
  have hol := occ_length nl tx tx.length
  generalize hDe : dictOf (occ nl tx tx.length) = D at *
  induction d with
  | zero =>
    intro k i hi hk
    obtain ⟨k, rfl⟩ : ∃ m, k = m + 1 := ⟨k - 1, by omega⟩
    simp only [vector_withDict.l1]
    rw [if_neg (by omega), show i = tx.length by omega]
  | succ d ih =>
    intro k i hi hk
    obtain ⟨k, rfl⟩ : ∃ m, k = m + 1 := ⟨k - 1, by omega⟩
    have hw1 : wrap64 ((i : Int) + 1) = ((i + 1 : Nat) : Int) := by rw [w_in _ (by omega) (by omega)]; simp
    have hcl : (codesOf nl tx D i).length = i := by simp [codesOf]
    have hs : codesOf nl tx D (i + 1) = codesOf nl tx D i ++ [if nullAt nl i = true then 0 else (indexIn D (tx.getD i e0) : Int)] := by
      simp [codesOf, List.range_succ]
    have := ih k (i + 1) (by omega) (by omega)
    rw [hs] at this
    simp only [vector_withDict.l1]
    rw [if_pos (by omega), if_pos (by omega), if_pos (by omega), null_f (by rcases hnl with h | h; exact .inl h; exact .inr (by omega))]
    simp only [Option.bind_some]
    cases hn : nullAt nl i with
    | true =>
      rw [hn] at this
      simp only [if_true] at this ⊢
      rw [if_pos (by rw [hcl]; omega), hw1]
      exact this
    | false =>
      rw [hn] at this
      simp only [Bool.false_eq_true, if_false] at this ⊢
      have hin : tx.getD i e0 ∈ D := (hm _).2 (mem_occ (by omega) hn)
      have e : rdOf ByteArray.empty tx (i : Int) = tx.getD i e0 := rfl
      rw [e, search_of hD (by omega) hin k (by omega)]
      simp only [Option.bind_some]
      rw [if_pos (by rw [hcl]; omega), hw1]
      exact this
theorem dictLoop0 (x : Int) (y : List Bool) (hl : tx.length ≤ 100000) (hnl : nl = [] ∨ nl.length = tx.length) (d : Nat) : ∀ (k : Nat) (i : Nat), i + d = tx.length → tx.length + tx.length + d + 1 < k →
    vector_withDict.l0 k tx (tx.length : Int) (i : Int) a nl nm tx dc cd x y (occ nl tx i) =
      some (x, y, [], [], dictOf (occ nl tx tx.length), codesOf nl tx (dictOf (occ nl tx tx.length)) tx.length) := by
  have hol := occ_length nl tx
  induction d with
  | zero =>
    intro k i hi hk
    obtain ⟨k, rfl⟩ : ∃ m, k = m + 1 := ⟨k - 1, by omega⟩
    simp only [vector_withDict.l0]
    have hi2 : i = tx.length := by omega
    subst hi2
    rw [if_neg (by omega)]
    simp only [slices_Sort_string_string.f, slices_Compact_string_string.f]
    rw [if_pos (by have := hol tx.length; omega)]
    simp only [Option.bind_some]
    have := codesLoop (a := a) (nm := nm) (dc := dc) (cd := cd) x y hl hnl tx.length k 0 (by omega) (by omega)
    simpa [codesOf, dictOf] using this
  | succ d ih =>
    intro k i hi hk
    obtain ⟨k, rfl⟩ : ∃ m, k = m + 1 := ⟨k - 1, by omega⟩
    have hw1 : wrap64 ((i : Int) + 1) = ((i + 1 : Nat) : Int) := by rw [w_in _ (by omega) (by omega)]; simp
    have := ih k (i + 1) (by omega) (by omega)
    rw [occ_succ] at this
    simp only [vector_withDict.l0]
    rw [if_pos (by omega), if_pos (by omega), if_pos (by omega), null_f (by rcases hnl with h | h; exact .inl h; exact .inr (by omega))]
    simp only [Option.bind_some]
    cases hn : nullAt nl i with
    | true =>
      rw [hn] at this
      simp only [if_true, List.append_nil] at this ⊢
      rw [hw1]
      exact this
    | false =>
      rw [hn] at this
      simp only [Bool.false_eq_true, if_false] at this ⊢
      rw [if_pos (by have := hol i; omega), hw1]
      exact this
theorem withDict_f (hl : tx.length ≤ 100000) (hnl : nl = [] ∨ nl.length = tx.length) (k : Nat) (hk : 3 * tx.length + 1 < k) :
    vector_withDict.f k a nl nm tx dc cd = some (a, nl, [], [], dictOf (occ nl tx tx.length), codesOf nl tx (dictOf (occ nl tx tx.length)) tx.length) := by
  have := dictLoop0 (a := a) (nm := nm) (dc := dc) (cd := cd) a nl hl hnl tx.length k 0 (by omega) (by omega)
  unfold vector_withDict.f
  simpa [occ] using this
end
def dictL (l : List S41) : List ByteArray := dictOf (occ (onlyNulls (nullsOf l)) (textsOf 3 l) l.length)
def codesL (l : List S41) : List Int := codesOf (onlyNulls (nullsOf l)) (textsOf 3 l) (dictL l) l.length
theorem codesL_length (l : List S41) : (codesL l).length = l.length := by simp [codesL, codesOf]
theorem coded_valid {l : List S41} (hl : l.length ≤ 1000) (h : ∀ v ∈ l, ColVal 3 v) : Valid 3 (onlyNulls (nullsOf l)) [] [] (dictL l) (codesL l) l.length ∧
    ∀ (i : Nat) (hi : i < l.length), valAt 3 (onlyNulls (nullsOf l)) [] [] (dictL l) (codesL l) i = l[i] := by
  have htl : (textsOf 3 l).length = l.length := by simp [textsOf]
  obtain ⟨hD, hm, hdl⟩ := dict_spec (occ (onlyNulls (nullsOf l)) (textsOf 3 l) l.length)
  have hol := occ_length (onlyNulls (nullsOf l)) (textsOf 3 l) l.length
  have hdl2 : (dictL l).length ≤ 1000 := by unfold dictL; omega
  have hg : ∀ (i : Nat) (hi : i < l.length), (textsOf 3 l).getD i e0 = l[i].f2 := fun i hi => by simp [textsOf, List.getD_eq_getElem?_getD, hi]
  have hc : ∀ (i : Nat) (hi : i < l.length), (codesL l).getD i 0 = if l[i].f0 = 0 then 0 else (indexIn (dictL l) l[i].f2 : Int) := by
    intro i hi
    have hn := nullAt_only l i hi
    simp only [codesL, codesOf, List.getD_eq_getElem?_getD, List.getElem?_map, List.getElem?_range hi, Option.map_some, Option.getD_some]
    rw [hn, ← List.getD_eq_getElem?_getD, hg i hi]
    by_cases h0 : l[i].f0 = 0 <;> simp [h0]
  have hin : ∀ (i : Nat) (hi : i < l.length), l[i].f0 ≠ 0 → l[i].f2 ∈ dictL l := by
    intro i hi h0
    unfold dictL
    rw [hm, ← hg i hi]
    have := mem_occ (nl := onlyNulls (nullsOf l)) (tx := textsOf 3 l) (i := i) (by omega) (by rw [nullAt_only l i hi]; simpa using h0)
    rwa [htl] at this
  have hhas : 0 < l.length → hasD (dictL l) (codesL l) = true := by
    intro h0
    cases hd : hasD (dictL l) (codesL l) with
    | true => rfl
    | false =>
      have := codesL_length l
      rw [(hasD_false.1 hd).2] at this
      simp at this; omega
  refine ⟨⟨hl, by decide, ⟨onlyNulls_form l, fun h3 => absurd rfl h3, fun _ => ⟨rfl, hdl2, fun _ => ⟨rfl, by rw [codesL_length]⟩, fun hd => ?_⟩⟩, ?_, by simp, ?_, ?_⟩, ?_⟩
  · have h0 : l.length = 0 := by
      have := codesL_length l
      rw [(hasD_false.1 hd).2] at this
      exact this.symm
    simp [h0]
  · intro s hs
    have := (hm s).1 hs
    simp only [occ, List.mem_map, List.mem_filter, List.mem_range] at this
    obtain ⟨j, ⟨hj, _⟩, rfl⟩ := this
    rw [hg j hj]
    exact (h _ (List.getElem_mem hj)).okT.1
  · intro i hi
    rw [bytesLess_eq, toList_ba, toList_ba]
    have := Inc.lt (D := dictL l) hD i (i + 1) (by omega) hi
    simpa [bytesL] using this
  · intro i hi
    have hn := nullAt_only l i hi
    refine ⟨fun h3 => absurd rfl h3, fun _ hd => ?_, fun _ _ => ?_⟩
    · rw [hhas (by omega)] at hd; cases hd
    · rw [hc i hi, hn]
      constructor
      · intro h0
        rw [if_pos (by simpa using h0)]
      · intro h0
        have h0' : l[i].f0 ≠ 0 := by simpa using h0
        rw [if_neg h0']
        obtain ⟨h1, _⟩ := index_spec (hin i hi h0')
        omega
  · intro i hi
    have hn := nullAt_only l i hi
    unfold valAt
    rw [hn]
    by_cases h0 : l[i].f0 = 0
    · rw [if_pos (by simpa using h0)]
      exact (((h _ (List.getElem_mem hi)).null_iff (by decide)).1 h0).symm
    · rw [if_neg (by simpa using h0), if_pos rfl, if_pos (hhas (by omega)), hc i hi, if_neg h0]
      obtain ⟨h1, h2⟩ := index_spec (hin i hi h0)
      have hv := (h _ (List.getElem_mem hi)).resolve_left (fun h3 => h0 (by rw [h3]))
      apply S41_ext
      · simp [hv.1]
      · simp [(hv.2.1 rfl).1]
      · simp only [Int.toNat_natCast]
        rw [List.getD_eq_getElem?_getD, List.getElem?_eq_getElem h1]
        exact h2
end Go.Proofs.Ytphnmaobpefoiaa.XA
end
