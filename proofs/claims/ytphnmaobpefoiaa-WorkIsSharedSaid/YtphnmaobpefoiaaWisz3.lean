/- A part of the proof of: WorkIsShared: for every input the call returns true and each argument reads as before; no condition. -/
import Derived.Test.YtphnmaobpefoiaaWisz2
set_option linter.unusedVariables false
set_option linter.unusedSimpArgs false
section
namespace Go.Proofs.Ytphnmaobpefoiaa.XW
open Go.RowKit Go.Proofs.YtphnmaobpefoiaaXW Go.Proofs.YtphnmaobpefoiaaW.PrintWords Go.Proofs.YtphnmaobpefoiaaW.PrintLast Go.Proofs.YtphnmaobpefoiaaW.PrintMore
attribute [local go_sem] max2_int min2_int max_two min_two max_three min_three max_four min_four sleq
set_option linter.unusedVariables false
set_option linter.unusedSimpArgs false
def Qbe.f (k : Nat) (q7 : Int) (q2 : List Bool) (q3 : List Int) (q4 : List ByteArray) (q5 : List ByteArray) (q6 : List Int) (a1 : Int) : Option (Int × Int × ByteArray × Int) := (Qba.f q7 q2 q3 q4 q5 q6).bind fun z3 => ((Qaf.f k q7 q2 q3 q4 q5 q6 z3).bind fun j1 => (if j1 = 0 then ((Qba.f q7 q2 q3 q4 q5 q6).bind fun z2 => ((Qau.f a1 0 (wrap64 (z2 - 1))).bind fun z6 => (if z6 = true then ((Qav.f q7 q2 q3 q4 q5 q6 a1).bind fun q9 => (some (q9.1, q9.2.1, q9.2.2, 0))) else (some (0, 0, (⟨#[]⟩ : ByteArray), 1))))) else (some (0, 0, (⟨#[]⟩ : ByteArray), j1))))
set_option maxHeartbeats 8000000 in
set_option maxRecDepth 100000 in
theorem Qbe.calls (k : Nat) (q7 : Int) (j2 : Option Addr) (j3 : Nat) (q2 : List Bool) (j4 : Option Addr) (j5 : Nat) (q3 : List Int) (j6 : Option Addr) (j7 : Nat) (q4 : List ByteArray) (j8 : Option Addr) (j9 : Nat) (q5 : List ByteArray) (z0 : Option Addr) (z1 : Nat) (q6 : List Int) (a1 : Int) (r1 : Int) (r2 : Int) (r3 : ByteArray) (r4 : Int) (w : World) (Q0 : Kd.C Kd.bool w j2 q2.length q2) (Q1 : q2.length ≤ j3) (Q2 : Kd.C (Kd.int .i64) w j4 q3.length q3) (Q3 : q3.length ≤ j5) (Q4 : Kd.C Kd.string w j6 q4.length q4) (Q5 : q4.length ≤ j7) (Q6 : Kd.C Kd.string w j8 q5.length q5) (Q7 : q5.length ≤ j9) (Q8 : Kd.C (Kd.int .i64) w z0 q6.length q6) (Q9 : q6.length ≤ z1) (h : Qbe.f k q7 q2 q3 q4 q5 q6 a1 = some (r1, r2, r3, r4)) :
  Calls Try.prog 8 #[.agg #[.int .i64 q7, .slice j2 q2.length j3, .slice j4 q3.length j5, .slice j6 q4.length j7, .slice j8 q5.length j9, .slice z0 q6.length z1], .int .i64 a1] w fun e w' => e = .returned (.tuple #[.agg #[.int .i64 r1, .int .i64 r2, .string r3], .int .i64 r4]) ∧ Below w.heap.size w w' := by
 have hu39 := Try.underlying39
 have hu41 := Try.underlying41
 have z7 := Qaa.mk Q0
 have z8 := Qaa.mk Q1
 clear Q0 Q1
 have z9 := Qaa.mk Q2
 have y0 := Qaa.mk Q3
 clear Q2 Q3
 have y1 := Qaa.mk Q4
 have y2 := Qaa.mk Q5
 clear Q4 Q5
 have y3 := Qaa.mk Q6
 have y4 := Qaa.mk Q7
 clear Q6 Q7
 have y5 := Qaa.mk Q8
 have y6 := Qaa.mk Q9
 clear Q8 Q9
 have HB := Qaa.mk (Below.refl w.heap.size w)
 have H : ((Qba.f q7 q2 q3 q4 q5 q6).bind fun z3 => ((Qaf.f k q7 q2 q3 q4 q5 q6 z3).bind fun j1 => (if j1 = 0 then ((Qba.f q7 q2 q3 q4 q5 q6).bind fun z2 => ((Qau.f a1 0 (wrap64 (z2 - 1))).bind fun z6 => (if z6 = true then ((Qav.f q7 q2 q3 q4 q5 q6 a1).bind fun q9 => (some (q9.1, q9.2.1, q9.2.2, 0))) else (some (0, 0, (⟨#[]⟩ : ByteArray), 1))))) else (some (0, 0, (⟨#[]⟩ : ByteArray), j1))))) = some (r1, r2, r3, r4) := h
 clear h
 replace H := Option.bind_eq_some_iff.mp H
 obtain ⟨z3, A30, H⟩ := H
 replace H : ((Qaf.f k q7 q2 q3 q4 q5 q6 z3).bind fun j1 => (if j1 = 0 then ((Qba.f q7 q2 q3 q4 q5 q6).bind fun z2 => ((Qau.f a1 0 (wrap64 (z2 - 1))).bind fun z6 => (if z6 = true then ((Qav.f q7 q2 q3 q4 q5 q6 a1).bind fun q9 => (some (q9.1, q9.2.1, q9.2.2, 0))) else (some (0, 0, (⟨#[]⟩ : ByteArray), 1))))) else (some (0, 0, (⟨#[]⟩ : ByteArray), j1)))) = some (r1, r2, r3, r4) := H
 have A3 := Qaa.mk A30
 clear A30
 replace H := Option.bind_eq_some_iff.mp H
 obtain ⟨j1, A40, H⟩ := H
 replace H : (if j1 = 0 then ((Qba.f q7 q2 q3 q4 q5 q6).bind fun z2 => ((Qau.f a1 0 (wrap64 (z2 - 1))).bind fun z6 => (if z6 = true then ((Qav.f q7 q2 q3 q4 q5 q6 a1).bind fun q9 => (some (q9.1, q9.2.1, q9.2.2, 0))) else (some (0, 0, (⟨#[]⟩ : ByteArray), 1))))) else (some (0, 0, (⟨#[]⟩ : ByteArray), j1))) = some (r1, r2, r3, r4) := H
 have A4 := Qaa.mk A40
 clear A40
 by_cases c5 : j1 = 0
 ·
  rw [if_pos c5] at H
  have Qe : (j1 == 0) = true := beq_iff_eq.mpr c5
  have Qf : (j1 != 0) = false := bne_eq_false_iff_eq.mpr c5
  clear c5
  replace H := Option.bind_eq_some_iff.mp H
  obtain ⟨z2, A60, H⟩ := H
  replace H : ((Qau.f a1 0 (wrap64 (z2 - 1))).bind fun z6 => (if z6 = true then ((Qav.f q7 q2 q3 q4 q5 q6 a1).bind fun q9 => (some (q9.1, q9.2.1, q9.2.2, 0))) else (some (0, 0, (⟨#[]⟩ : ByteArray), 1)))) = some (r1, r2, r3, r4) := H
  have A6 := Qaa.mk A60
  clear A60
  replace H := Option.bind_eq_some_iff.mp H
  obtain ⟨z6, A70, H⟩ := H
  replace H : (if z6 = true then ((Qav.f q7 q2 q3 q4 q5 q6 a1).bind fun q9 => (some (q9.1, q9.2.1, q9.2.2, 0))) else (some (0, 0, (⟨#[]⟩ : ByteArray), 1))) = some (r1, r2, r3, r4) := H
  have A7 := Qaa.mk A70
  clear A70
  by_cases c8 : z6 = true
  ·
   subst c8
   have H1 : ((Qav.f q7 q2 q3 q4 q5 q6 a1).bind fun q9 => (some (q9.1, q9.2.1, q9.2.2, 0))) = some (r1, r2, r3, r4) := by rw [if_pos rfl] at H; exact H
   clear H
   have H := H1
   clear H1
   replace H := Option.bind_eq_some_iff.mp H
   obtain ⟨⟨y7, y8, y9⟩, A90, H⟩ := H
   replace H : (some (y7, y8, y9, 0)) = some (r1, r2, r3, r4) := H
   have A9 := Qaa.mk A90
   clear A90
   simp only [Option.some.injEq, Prod.mk.injEq] at H
   obtain ⟨rfl, rfl, rfl, rfl⟩ := H
   go_enter Try.func8, Try.ntmps8
   try go_wp2_with (first | ((with_reducible refine gate_dst (N := 2) rfl ?_); refine bx 2 #[.int .i64 q7, .slice j2 q2.length j3, .slice j4 q3.length j5, .slice j6 q4.length j7, .slice j8 q5.length j9, .slice z0 q6.length z1] 39 ?_; intro q8 hg w10 hbox hb; have q0 := Qaa.mk (hbox); have Qa := Qaa.mk ((by rw [hg]; exact (below_size (bl HB)) : w.heap.size ≤ q8)); have Qb := Qaa.mk ((by rw [hg]; exact (below_size (bl HB)) : w.heap.size ≤ q8)); replace HB := bs HB hb; clear hb hbox hg) | ((with_reducible refine gate_dst (N := 4) rfl ?_); refine bx 4 #[.int .i64 0, .int .i64 0, .string (⟨#[]⟩ : ByteArray)] 41 ?_; intro j0 hg w11 hbox hb; have q1 := Qaa.mk (hbox); have Qc := Qaa.mk ((by rw [hg]; exact (below_size (bl HB)) : w.heap.size ≤ j0)); have Qd := Qaa.mk ((by rw [hg]; exact (below_size (bl HB)) : w.heap.size ≤ j0)); have z4 := Qaa.mk ((by rw [hg]; exact Nat.ne_of_lt (blk_lt (Ub q0)) : q8 ≠ j0)); have z5 := Qaa.mk ((by rw [hg]; exact Nat.ne_of_gt (blk_lt (Ub q0)) : j0 ≠ q8)); replace q0 := Bb q0 hb; replace HB := bs HB hb; clear hb hbox hg))
   replace q0 := Qaa.mk (blk_drew q0.out)
   replace q1 := Qaa.mk (blk_drew q1.out)
   replace HB := Qaa.mk (below_drew1 HB.out)
   refine start_ (n := 5) (S := fun w' => w'.cell? ⟨q8, 0, none⟩ = some (.int .i64 q7) ∧ w'.cell? ⟨q8, 1, none⟩ = some (.slice j2 q2.length j3) ∧ w'.cell? ⟨q8, 2, none⟩ = some (.slice j4 q3.length j5) ∧ w'.cell? ⟨q8, 3, none⟩ = some (.slice j6 q4.length j7) ∧ w'.cell? ⟨q8, 4, none⟩ = some (.slice j8 q5.length j9) ∧ w'.cell? ⟨q8, 5, none⟩ = some (.slice z0 q6.length z1)) (ds := []) #[false, false, false, false, false] (by kernel_rfl) rfl rfl ⟨(blk_cell q0.out 0).trans rfl, (blk_cell q0.out 1).trans rfl, (blk_cell q0.out 2).trans rfl, (blk_cell q0.out 3).trans rfl, (blk_cell q0.out 4).trans rfl, (blk_cell q0.out 5).trans rfl⟩ (fun hHeld => ?_)
   generalize w11.drew = w12 at q0 q1 HB hHeld ⊢
   refine take_ (i := 0) (N := some 7) (v := ?_) (a' := ?_) #[true, false, false, false, false] rfl rfl (by kernel_rfl) (fun _ _ _ h => h) (Or.inl ⟨by rfl, ?_⟩) hHeld ?_ ?_
   rotate_left
   ·
    rintro w' ⟨s0, s1, s2, s3, s4, s5⟩
    go_simp
    with_reducible rfl
   rotate_left
   ·
    simp only [Act.put, List.setIfInBounds_toArray, List.set_cons_zero, List.set_cons_succ, i64_w, i32_w]
    rfl
   refine take_ (i := 1) (N := some 8) (v := ?_) (a' := ?_) #[true, true, false, false, false] rfl rfl (by kernel_rfl) (fun _ _ _ h => h) (Or.inl ⟨by rfl, ?_⟩) hHeld ?_ ?_
   rotate_left
   ·
    rintro w' ⟨s0, s1, s2, s3, s4, s5⟩
    go_simp
    with_reducible rfl
   rotate_left
   ·
    simp only [Act.put, List.setIfInBounds_toArray, List.set_cons_zero, List.set_cons_succ, i64_w, i32_w]
    rfl
   refine one_ (i := 2) (N := some 9) #[true, true, true, false, false] rfl rfl (by kernel_rfl) (by decide) (fun K hK => ?_)
   refine goes_ Try.func24 (by kernel_rfl) rfl #[.agg #[.int .i64 q7, .slice j2 q2.length j3, .slice j4 q3.length j5, .slice j6 q4.length j7, .slice j8 q5.length j9, .slice z0 q6.length z1]] (by rfl) rfl rfl (by (try simp only [List.map_toArray, List.map_cons, List.map_nil]); first | done | rfl | (simp only [List.length_drop, List.length_take]; rfl)) ?_
   with_reducible refine (Qba.calls q7 _ _ q2 _ _ q3 _ _ q4 _ _ q5 _ _ q6 z3 _ ?side1 ?side2 ?side3 ?side4 ?side5 ?side6 ?side7 ?side8 ?side9 ?side10 A3.out).mono ?_
   (case side1 => exact Cb z7 HB)
   (case side2 => exact z8.out)
   (case side3 => exact Cb z9 HB)
   (case side4 => exact y0.out)
   (case side5 => exact Cb y1 HB)
   (case side6 => exact y2.out)
   (case side7 => exact Cb y3 HB)
   (case side8 => exact y4.out)
   (case side9 => exact Cb y5 HB)
   (case side10 => exact y6.out)
   rintro e w13 ⟨rfl, hb⟩
   refine ⟨_, rfl, ?_⟩
   replace q0 := Bb q0 hb
   replace q1 := Bb q1 hb
   replace HB := bs HB hb
   (try clear hb)
   (try clear hb2)
   (try clear hk)
   (try clear hi)
   refine hK.out _ _ ⟨(blk_cell q0.out 0).trans rfl, (blk_cell q0.out 1).trans rfl, (blk_cell q0.out 2).trans rfl, (blk_cell q0.out 3).trans rfl, (blk_cell q0.out 4).trans rfl, (blk_cell q0.out 5).trans rfl⟩ (fun hHeld => ?_)
   clear hK K
   refine norm_ (a' := ?_) ?_ ?_
   rotate_left
   ·
    show Act.put _ (some 9) _ = _
    simp only [Act.put, List.setIfInBounds_toArray, List.set_cons_zero, List.set_cons_succ, i64_w, i32_w]
    rfl
   refine one_ (i := 3) (N := some 10) #[true, true, true, true, false] rfl rfl (by kernel_rfl) (by decide) (fun K hK => ?_)
   refine goes_ Try.func23 (by kernel_rfl) rfl #[.agg #[.int .i64 q7, .slice j2 q2.length j3, .slice j4 q3.length j5, .slice j6 q4.length j7, .slice j8 q5.length j9, .slice z0 q6.length z1], .int .i64 z3] (by rfl) rfl rfl (by (try simp only [List.map_toArray, List.map_cons, List.map_nil]); first | done | rfl | (simp only [List.length_drop, List.length_take]; rfl)) ?_
   with_reducible refine (Qaf.calls k q7 _ _ q2 _ _ q3 _ _ q4 _ _ q5 _ _ q6 z3 j1 _ ?side1 ?side2 ?side3 ?side4 ?side5 ?side6 ?side7 ?side8 ?side9 ?side10 A4.out).mono ?_
   (case side1 => exact Cb z7 HB)
   (case side2 => exact z8.out)
   (case side3 => exact Cb z9 HB)
   (case side4 => exact y0.out)
   (case side5 => exact Cb y1 HB)
   (case side6 => exact y2.out)
   (case side7 => exact Cb y3 HB)
   (case side8 => exact y4.out)
   (case side9 => exact Cb y5 HB)
   (case side10 => exact y6.out)
   rintro e w14 ⟨rfl, hb⟩
   refine ⟨_, rfl, ?_⟩
   replace q0 := Bb q0 hb
   replace q1 := Bb q1 hb
   replace HB := bs HB hb
   (try clear hb)
   (try clear hb2)
   (try clear hk)
   (try clear hi)
   refine hK.out _ _ ⟨(blk_cell q0.out 0).trans rfl, (blk_cell q0.out 1).trans rfl, (blk_cell q0.out 2).trans rfl, (blk_cell q0.out 3).trans rfl, (blk_cell q0.out 4).trans rfl, (blk_cell q0.out 5).trans rfl⟩ (fun hHeld => ?_)
   clear hK K
   refine norm_ (a' := ?_) ?_ ?_
   rotate_left
   ·
    show Act.put _ (some 10) _ = _
    simp only [Act.put, List.setIfInBounds_toArray, List.set_cons_zero, List.set_cons_succ, i64_w, i32_w]
    rfl
   refine pure_ (i := 4) (N := some 6) (v := ?_) (a' := ?_) #[true, true, true, true, true] rfl rfl (by kernel_rfl) (fun _ _ _ h => h) (Or.inl ⟨by rfl, ?_⟩) ?_ ?_
   rotate_left
   ·
    intro w'
    go_simp
    with_reducible rfl
   rotate_left
   ·
    simp only [Act.put, List.setIfInBounds_toArray, List.set_cons_zero, List.set_cons_succ, i64_w, i32_w]
    rfl
   refine done_ (by kernel_rfl) ?_
   have Zy := z4.out
   have Zz := z5.out
   obtain ⟨Qg, Qh, Qi, Qj, Qk, Ql, Qm, Qn, Qo, Qp, Qq, Qr⟩ := cf6 q0
   try go_wp2_with (first | ((with_reducible refine gate_callee (f := 24) rfl ?_); refine gL (some 17) Try.func24 #[.agg #[.int .i64 q7, .slice j2 q2.length j3, .slice j4 q3.length j5, .slice j6 q4.length j7, .slice j8 q5.length j9, .slice z0 q6.length z1]] ?_; (with_reducible refine (Qba.calls q7 _ _ q2 _ _ q3 _ _ q4 _ _ q5 _ _ q6 z2 _ ?side1 ?side2 ?side3 ?side4 ?side5 ?side6 ?side7 ?side8 ?side9 ?side10 A6.out).mono ?_); (case side1 => exact Cb z7 HB); (case side2 => exact z8.out); (case side3 => exact Cb z9 HB); (case side4 => exact y0.out); (case side5 => exact Cb y1 HB); (case side6 => exact y2.out); (case side7 => exact Cb y3 HB); (case side8 => exact y4.out); (case side9 => exact Cb y5 HB); (case side10 => exact y6.out); rintro e w17 ⟨rfl, hb⟩; refine ⟨_, rfl, ?_⟩; replace q0 := Bb q0 hb; replace q1 := Bb q1 hb; replace HB := bs HB hb; (try clear hb)) | ((with_reducible refine gate_callee (f := 25) rfl ?_); refine gL (some 19) Try.func25 #[.int .i64 a1, .int .i64 0, .int .i64 (wrap64 (z2 - 1))] ?_; (with_reducible refine (Qau.calls a1 0 (wrap64 (z2 - 1)) true _ A7.out).mono ?_); rintro e w' ⟨rfl, ⟨nd, rfl⟩⟩; refine ⟨_, rfl, ?_⟩; (try (rw [drewN_self w17]; generalize hq_ : World.drewN w17 _ = w17; have n0_ : Qaa (w17.heap[q8]? = some (.cells #[.int .i64 q7, .slice j2 q2.length j3, .slice j4 q3.length j5, .slice j6 q4.length j7, .slice j8 q5.length j9, .slice z0 q6.length z1] 39 (0, 0))) := ⟨by rw [← hq_]; exact (blk_u q0.out)⟩; have n1_ : Qaa (w17.heap[j0]? = some (.cells #[.int .i64 0, .int .i64 0, .string (⟨#[]⟩ : ByteArray)] 41 (0, 0))) := ⟨by rw [← hq_]; exact (blk_u q1.out)⟩; have n2_ : Qaa (Below w.heap.size w w17) := ⟨by rw [← hq_]; exact (bl HB)⟩; clear q0 q1 HB hq_; have q0 := n0_; have q1 := n1_; have HB := n2_; clear n0_ n1_ n2_)); obtain ⟨Qs, Qt, Qu, Qv, Qw, Qx, Qy, Qz, Z0, Z1, Z2, Z3⟩ := cf6 q0) | ((with_reducible refine gate_callee (f := 26) rfl ?_); refine gL (some 24) Try.func26 #[.agg #[.int .i64 q7, .slice j2 q2.length j3, .slice j4 q3.length j5, .slice j6 q4.length j7, .slice j8 q5.length j9, .slice z0 q6.length z1], .int .i64 a1] ?_; (with_reducible refine (Qav.calls q7 _ _ q2 _ _ q3 _ _ q4 _ _ q5 _ _ q6 a1 y7 y8 y9 _ ?side1 ?side2 ?side3 ?side4 ?side5 ?side6 ?side7 ?side8 ?side9 ?side10 A9.out).mono ?_); (case side1 => exact Cb z7 HB); (case side2 => exact z8.out); (case side3 => exact Cb z9 HB); (case side4 => exact y0.out); (case side5 => exact Cb y1 HB); (case side6 => exact y2.out); (case side7 => exact Cb y3 HB); (case side8 => exact y4.out); (case side9 => exact Cb y5 HB); (case side10 => exact y6.out); rintro e w19 ⟨rfl, hb⟩; refine ⟨_, rfl, ?_⟩; replace q0 := Bb q0 hb; replace q1 := Bb q1 hb; replace HB := bs HB hb; (try clear hb); obtain ⟨Z4, Z5, Z6, Z7, Z8, Z9⟩ := cf3 q1))
   refine bodyPost_ret (results_ct rfl _ _ j0 41 #[.int .i64 y7, .int .i64 y8, .string y9] (0, 0) _ rfl (by apply blk_u; refine blk_put (cs := #[.int .i64 y7, .int .i64 y8, .string (⟨#[]⟩ : ByteArray)]) ?_ 2 _ rfl; apply blk_u; refine blk_put (cs := #[.int .i64 y7, .int .i64 0, .string (⟨#[]⟩ : ByteArray)]) ?_ 1 _ rfl; apply blk_u; refine blk_put (cs := #[.int .i64 0, .int .i64 0, .string (⟨#[]⟩ : ByteArray)]) ?_ 0 _ rfl; apply blk_u; exact q1.out) Try.underlying41 rfl (by kernel_rfl)) rfl ?_
   exact ⟨by first | rfl | (simp [errW_none, errW_some] <;> rfl) | (simp [*, errW_none, errW_some] <;> rfl), bl HB⟩
  ·
   replace c8 := Bool.eq_false_iff.mpr c8
   subst c8
   have H1 : (some (0, 0, (⟨#[]⟩ : ByteArray), 1)) = some (r1, r2, r3, r4) := by rw [if_neg (show ¬ (false = true) by decide)] at H; exact H
   clear H
   have H := H1
   clear H1
   simp only [Option.some.injEq, Prod.mk.injEq] at H
   obtain ⟨rfl, rfl, rfl, rfl⟩ := H
   go_enter Try.func8, Try.ntmps8
   try go_wp2_with (first | ((with_reducible refine gate_dst (N := 2) rfl ?_); refine bx 2 #[.int .i64 q7, .slice j2 q2.length j3, .slice j4 q3.length j5, .slice j6 q4.length j7, .slice j8 q5.length j9, .slice z0 q6.length z1] 39 ?_; intro q8 hg w21 hbox hb; have q0 := Qaa.mk (hbox); have Qa := Qaa.mk ((by rw [hg]; exact (below_size (bl HB)) : w.heap.size ≤ q8)); have Qb := Qaa.mk ((by rw [hg]; exact (below_size (bl HB)) : w.heap.size ≤ q8)); replace HB := bs HB hb; clear hb hbox hg) | ((with_reducible refine gate_dst (N := 4) rfl ?_); refine bx 4 #[.int .i64 0, .int .i64 0, .string (⟨#[]⟩ : ByteArray)] 41 ?_; intro j0 hg w22 hbox hb; have q1 := Qaa.mk (hbox); have Qc := Qaa.mk ((by rw [hg]; exact (below_size (bl HB)) : w.heap.size ≤ j0)); have Qd := Qaa.mk ((by rw [hg]; exact (below_size (bl HB)) : w.heap.size ≤ j0)); have z4 := Qaa.mk ((by rw [hg]; exact Nat.ne_of_lt (blk_lt (Ub q0)) : q8 ≠ j0)); have z5 := Qaa.mk ((by rw [hg]; exact Nat.ne_of_gt (blk_lt (Ub q0)) : j0 ≠ q8)); replace q0 := Bb q0 hb; replace HB := bs HB hb; clear hb hbox hg))
   replace q0 := Qaa.mk (blk_drew q0.out)
   replace q1 := Qaa.mk (blk_drew q1.out)
   replace HB := Qaa.mk (below_drew1 HB.out)
   refine start_ (n := 5) (S := fun w' => w'.cell? ⟨q8, 0, none⟩ = some (.int .i64 q7) ∧ w'.cell? ⟨q8, 1, none⟩ = some (.slice j2 q2.length j3) ∧ w'.cell? ⟨q8, 2, none⟩ = some (.slice j4 q3.length j5) ∧ w'.cell? ⟨q8, 3, none⟩ = some (.slice j6 q4.length j7) ∧ w'.cell? ⟨q8, 4, none⟩ = some (.slice j8 q5.length j9) ∧ w'.cell? ⟨q8, 5, none⟩ = some (.slice z0 q6.length z1)) (ds := []) #[false, false, false, false, false] (by kernel_rfl) rfl rfl ⟨(blk_cell q0.out 0).trans rfl, (blk_cell q0.out 1).trans rfl, (blk_cell q0.out 2).trans rfl, (blk_cell q0.out 3).trans rfl, (blk_cell q0.out 4).trans rfl, (blk_cell q0.out 5).trans rfl⟩ (fun hHeld => ?_)
   generalize w22.drew = w23 at q0 q1 HB hHeld ⊢
   refine take_ (i := 0) (N := some 7) (v := ?_) (a' := ?_) #[true, false, false, false, false] rfl rfl (by kernel_rfl) (fun _ _ _ h => h) (Or.inl ⟨by rfl, ?_⟩) hHeld ?_ ?_
   rotate_left
   ·
    rintro w' ⟨s0, s1, s2, s3, s4, s5⟩
    go_simp
    with_reducible rfl
   rotate_left
   ·
    simp only [Act.put, List.setIfInBounds_toArray, List.set_cons_zero, List.set_cons_succ, i64_w, i32_w]
    rfl
   refine take_ (i := 1) (N := some 8) (v := ?_) (a' := ?_) #[true, true, false, false, false] rfl rfl (by kernel_rfl) (fun _ _ _ h => h) (Or.inl ⟨by rfl, ?_⟩) hHeld ?_ ?_
   rotate_left
   ·
    rintro w' ⟨s0, s1, s2, s3, s4, s5⟩
    go_simp
    with_reducible rfl
   rotate_left
   ·
    simp only [Act.put, List.setIfInBounds_toArray, List.set_cons_zero, List.set_cons_succ, i64_w, i32_w]
    rfl
   refine one_ (i := 2) (N := some 9) #[true, true, true, false, false] rfl rfl (by kernel_rfl) (by decide) (fun K hK => ?_)
   refine goes_ Try.func24 (by kernel_rfl) rfl #[.agg #[.int .i64 q7, .slice j2 q2.length j3, .slice j4 q3.length j5, .slice j6 q4.length j7, .slice j8 q5.length j9, .slice z0 q6.length z1]] (by rfl) rfl rfl (by (try simp only [List.map_toArray, List.map_cons, List.map_nil]); first | done | rfl | (simp only [List.length_drop, List.length_take]; rfl)) ?_
   with_reducible refine (Qba.calls q7 _ _ q2 _ _ q3 _ _ q4 _ _ q5 _ _ q6 z3 _ ?side1 ?side2 ?side3 ?side4 ?side5 ?side6 ?side7 ?side8 ?side9 ?side10 A3.out).mono ?_
   (case side1 => exact Cb z7 HB)
   (case side2 => exact z8.out)
   (case side3 => exact Cb z9 HB)
   (case side4 => exact y0.out)
   (case side5 => exact Cb y1 HB)
   (case side6 => exact y2.out)
   (case side7 => exact Cb y3 HB)
   (case side8 => exact y4.out)
   (case side9 => exact Cb y5 HB)
   (case side10 => exact y6.out)
   rintro e w24 ⟨rfl, hb⟩
   refine ⟨_, rfl, ?_⟩
   replace q0 := Bb q0 hb
   replace q1 := Bb q1 hb
   replace HB := bs HB hb
   (try clear hb)
   (try clear hb2)
   (try clear hk)
   (try clear hi)
   refine hK.out _ _ ⟨(blk_cell q0.out 0).trans rfl, (blk_cell q0.out 1).trans rfl, (blk_cell q0.out 2).trans rfl, (blk_cell q0.out 3).trans rfl, (blk_cell q0.out 4).trans rfl, (blk_cell q0.out 5).trans rfl⟩ (fun hHeld => ?_)
   clear hK K
   refine norm_ (a' := ?_) ?_ ?_
   rotate_left
   ·
    show Act.put _ (some 9) _ = _
    simp only [Act.put, List.setIfInBounds_toArray, List.set_cons_zero, List.set_cons_succ, i64_w, i32_w]
    rfl
   refine one_ (i := 3) (N := some 10) #[true, true, true, true, false] rfl rfl (by kernel_rfl) (by decide) (fun K hK => ?_)
   refine goes_ Try.func23 (by kernel_rfl) rfl #[.agg #[.int .i64 q7, .slice j2 q2.length j3, .slice j4 q3.length j5, .slice j6 q4.length j7, .slice j8 q5.length j9, .slice z0 q6.length z1], .int .i64 z3] (by rfl) rfl rfl (by (try simp only [List.map_toArray, List.map_cons, List.map_nil]); first | done | rfl | (simp only [List.length_drop, List.length_take]; rfl)) ?_
   with_reducible refine (Qaf.calls k q7 _ _ q2 _ _ q3 _ _ q4 _ _ q5 _ _ q6 z3 j1 _ ?side1 ?side2 ?side3 ?side4 ?side5 ?side6 ?side7 ?side8 ?side9 ?side10 A4.out).mono ?_
   (case side1 => exact Cb z7 HB)
   (case side2 => exact z8.out)
   (case side3 => exact Cb z9 HB)
   (case side4 => exact y0.out)
   (case side5 => exact Cb y1 HB)
   (case side6 => exact y2.out)
   (case side7 => exact Cb y3 HB)
   (case side8 => exact y4.out)
   (case side9 => exact Cb y5 HB)
   (case side10 => exact y6.out)
   rintro e w25 ⟨rfl, hb⟩
   refine ⟨_, rfl, ?_⟩
   replace q0 := Bb q0 hb
   replace q1 := Bb q1 hb
   replace HB := bs HB hb
   (try clear hb)
   (try clear hb2)
   (try clear hk)
   (try clear hi)
   refine hK.out _ _ ⟨(blk_cell q0.out 0).trans rfl, (blk_cell q0.out 1).trans rfl, (blk_cell q0.out 2).trans rfl, (blk_cell q0.out 3).trans rfl, (blk_cell q0.out 4).trans rfl, (blk_cell q0.out 5).trans rfl⟩ (fun hHeld => ?_)
   clear hK K
   refine norm_ (a' := ?_) ?_ ?_
   rotate_left
   ·
    show Act.put _ (some 10) _ = _
    simp only [Act.put, List.setIfInBounds_toArray, List.set_cons_zero, List.set_cons_succ, i64_w, i32_w]
    rfl
   refine pure_ (i := 4) (N := some 6) (v := ?_) (a' := ?_) #[true, true, true, true, true] rfl rfl (by kernel_rfl) (fun _ _ _ h => h) (Or.inl ⟨by rfl, ?_⟩) ?_ ?_
   rotate_left
   ·
    intro w'
    go_simp
    with_reducible rfl
   rotate_left
   ·
    simp only [Act.put, List.setIfInBounds_toArray, List.set_cons_zero, List.set_cons_succ, i64_w, i32_w]
    rfl
   refine done_ (by kernel_rfl) ?_
   have J0 := z4.out
   have J1 := z5.out
   obtain ⟨Za, Zb, Zc, Zd, Ze, Zf, Zg, Zh, Zi, Zj, Zk, Zl⟩ := cf6 q0
   try go_wp2_with (first | ((with_reducible refine gate_callee (f := 24) rfl ?_); refine gL (some 17) Try.func24 #[.agg #[.int .i64 q7, .slice j2 q2.length j3, .slice j4 q3.length j5, .slice j6 q4.length j7, .slice j8 q5.length j9, .slice z0 q6.length z1]] ?_; (with_reducible refine (Qba.calls q7 _ _ q2 _ _ q3 _ _ q4 _ _ q5 _ _ q6 z2 _ ?side1 ?side2 ?side3 ?side4 ?side5 ?side6 ?side7 ?side8 ?side9 ?side10 A6.out).mono ?_); (case side1 => exact Cb z7 HB); (case side2 => exact z8.out); (case side3 => exact Cb z9 HB); (case side4 => exact y0.out); (case side5 => exact Cb y1 HB); (case side6 => exact y2.out); (case side7 => exact Cb y3 HB); (case side8 => exact y4.out); (case side9 => exact Cb y5 HB); (case side10 => exact y6.out); rintro e w28 ⟨rfl, hb⟩; refine ⟨_, rfl, ?_⟩; replace q0 := Bb q0 hb; replace q1 := Bb q1 hb; replace HB := bs HB hb; (try clear hb)) | ((with_reducible refine gate_callee (f := 25) rfl ?_); refine gL (some 19) Try.func25 #[.int .i64 a1, .int .i64 0, .int .i64 (wrap64 (z2 - 1))] ?_; (with_reducible refine (Qau.calls a1 0 (wrap64 (z2 - 1)) false _ A7.out).mono ?_); rintro e w' ⟨rfl, ⟨nd, rfl⟩⟩; refine ⟨_, rfl, ?_⟩; (try (rw [drewN_self w28]; generalize hq_ : World.drewN w28 _ = w28; have n0_ : Qaa (w28.heap[q8]? = some (.cells #[.int .i64 q7, .slice j2 q2.length j3, .slice j4 q3.length j5, .slice j6 q4.length j7, .slice j8 q5.length j9, .slice z0 q6.length z1] 39 (0, 0))) := ⟨by rw [← hq_]; exact (blk_u q0.out)⟩; have n1_ : Qaa (w28.heap[j0]? = some (.cells #[.int .i64 0, .int .i64 0, .string (⟨#[]⟩ : ByteArray)] 41 (0, 0))) := ⟨by rw [← hq_]; exact (blk_u q1.out)⟩; have n2_ : Qaa (Below w.heap.size w w28) := ⟨by rw [← hq_]; exact (bl HB)⟩; clear q0 q1 HB hq_; have q0 := n0_; have q1 := n1_; have HB := n2_; clear n0_ n1_ n2_)); obtain ⟨Zm, Zn, Zo, Zp, Zq, Zr⟩ := cf3 q1))
   refine bodyPost_ret (results_ct rfl _ _ j0 41 #[.int .i64 0, .int .i64 0, .string (⟨#[]⟩ : ByteArray)] (0, 0) _ rfl (by apply blk_u; refine blk_put (cs := #[.int .i64 0, .int .i64 0, .string (⟨#[]⟩ : ByteArray)]) ?_ 2 _ rfl; apply blk_u; refine blk_put (cs := #[.int .i64 0, .int .i64 0, .string (⟨#[]⟩ : ByteArray)]) ?_ 1 _ rfl; apply blk_u; refine blk_put (cs := #[.int .i64 0, .int .i64 0, .string (⟨#[]⟩ : ByteArray)]) ?_ 0 _ rfl; apply blk_u; exact q1.out) Try.underlying41 rfl (by kernel_rfl)) rfl ?_
   exact ⟨by first | rfl | (simp [errW_none, errW_some] <;> rfl) | (simp [*, errW_none, errW_some] <;> rfl), bl HB⟩
 ·
  rw [if_neg c5] at H
  have Qe : (j1 == 0) = false := beq_eq_false_iff_ne.mpr c5
  have Qf : (j1 != 0) = true := bne_iff_ne.mpr c5
  simp only [Option.some.injEq, Prod.mk.injEq] at H
  obtain ⟨rfl, rfl, rfl, rfl⟩ := H
  go_enter Try.func8, Try.ntmps8
  try go_wp2_with (first | ((with_reducible refine gate_dst (N := 2) rfl ?_); refine bx 2 #[.int .i64 q7, .slice j2 q2.length j3, .slice j4 q3.length j5, .slice j6 q4.length j7, .slice j8 q5.length j9, .slice z0 q6.length z1] 39 ?_; intro q8 hg w30 hbox hb; have q0 := Qaa.mk (hbox); have Qa := Qaa.mk ((by rw [hg]; exact (below_size (bl HB)) : w.heap.size ≤ q8)); have Qb := Qaa.mk ((by rw [hg]; exact (below_size (bl HB)) : w.heap.size ≤ q8)); replace HB := bs HB hb; clear hb hbox hg) | ((with_reducible refine gate_dst (N := 4) rfl ?_); refine bx 4 #[.int .i64 0, .int .i64 0, .string (⟨#[]⟩ : ByteArray)] 41 ?_; intro j0 hg w31 hbox hb; have q1 := Qaa.mk (hbox); have Qc := Qaa.mk ((by rw [hg]; exact (below_size (bl HB)) : w.heap.size ≤ j0)); have Qd := Qaa.mk ((by rw [hg]; exact (below_size (bl HB)) : w.heap.size ≤ j0)); have z4 := Qaa.mk ((by rw [hg]; exact Nat.ne_of_lt (blk_lt (Ub q0)) : q8 ≠ j0)); have z5 := Qaa.mk ((by rw [hg]; exact Nat.ne_of_gt (blk_lt (Ub q0)) : j0 ≠ q8)); replace q0 := Bb q0 hb; replace HB := bs HB hb; clear hb hbox hg))
  replace q0 := Qaa.mk (blk_drew q0.out)
  replace q1 := Qaa.mk (blk_drew q1.out)
  replace HB := Qaa.mk (below_drew1 HB.out)
  refine start_ (n := 5) (S := fun w' => w'.cell? ⟨q8, 0, none⟩ = some (.int .i64 q7) ∧ w'.cell? ⟨q8, 1, none⟩ = some (.slice j2 q2.length j3) ∧ w'.cell? ⟨q8, 2, none⟩ = some (.slice j4 q3.length j5) ∧ w'.cell? ⟨q8, 3, none⟩ = some (.slice j6 q4.length j7) ∧ w'.cell? ⟨q8, 4, none⟩ = some (.slice j8 q5.length j9) ∧ w'.cell? ⟨q8, 5, none⟩ = some (.slice z0 q6.length z1)) (ds := []) #[false, false, false, false, false] (by kernel_rfl) rfl rfl ⟨(blk_cell q0.out 0).trans rfl, (blk_cell q0.out 1).trans rfl, (blk_cell q0.out 2).trans rfl, (blk_cell q0.out 3).trans rfl, (blk_cell q0.out 4).trans rfl, (blk_cell q0.out 5).trans rfl⟩ (fun hHeld => ?_)
  generalize w31.drew = w32 at q0 q1 HB hHeld ⊢
  refine take_ (i := 0) (N := some 7) (v := ?_) (a' := ?_) #[true, false, false, false, false] rfl rfl (by kernel_rfl) (fun _ _ _ h => h) (Or.inl ⟨by rfl, ?_⟩) hHeld ?_ ?_
  rotate_left
  ·
   rintro w' ⟨s0, s1, s2, s3, s4, s5⟩
   go_simp
   with_reducible rfl
  rotate_left
  ·
   simp only [Act.put, List.setIfInBounds_toArray, List.set_cons_zero, List.set_cons_succ, i64_w, i32_w]
   rfl
  refine take_ (i := 1) (N := some 8) (v := ?_) (a' := ?_) #[true, true, false, false, false] rfl rfl (by kernel_rfl) (fun _ _ _ h => h) (Or.inl ⟨by rfl, ?_⟩) hHeld ?_ ?_
  rotate_left
  ·
   rintro w' ⟨s0, s1, s2, s3, s4, s5⟩
   go_simp
   with_reducible rfl
  rotate_left
  ·
   simp only [Act.put, List.setIfInBounds_toArray, List.set_cons_zero, List.set_cons_succ, i64_w, i32_w]
   rfl
  refine one_ (i := 2) (N := some 9) #[true, true, true, false, false] rfl rfl (by kernel_rfl) (by decide) (fun K hK => ?_)
  refine goes_ Try.func24 (by kernel_rfl) rfl #[.agg #[.int .i64 q7, .slice j2 q2.length j3, .slice j4 q3.length j5, .slice j6 q4.length j7, .slice j8 q5.length j9, .slice z0 q6.length z1]] (by rfl) rfl rfl (by (try simp only [List.map_toArray, List.map_cons, List.map_nil]); first | done | rfl | (simp only [List.length_drop, List.length_take]; rfl)) ?_
  with_reducible refine (Qba.calls q7 _ _ q2 _ _ q3 _ _ q4 _ _ q5 _ _ q6 z3 _ ?side1 ?side2 ?side3 ?side4 ?side5 ?side6 ?side7 ?side8 ?side9 ?side10 A3.out).mono ?_
  (case side1 => exact Cb z7 HB)
  (case side2 => exact z8.out)
  (case side3 => exact Cb z9 HB)
  (case side4 => exact y0.out)
  (case side5 => exact Cb y1 HB)
  (case side6 => exact y2.out)
  (case side7 => exact Cb y3 HB)
  (case side8 => exact y4.out)
  (case side9 => exact Cb y5 HB)
  (case side10 => exact y6.out)
  rintro e w33 ⟨rfl, hb⟩
  refine ⟨_, rfl, ?_⟩
  replace q0 := Bb q0 hb
  replace q1 := Bb q1 hb
  replace HB := bs HB hb
  (try clear hb)
  (try clear hb2)
  (try clear hk)
  (try clear hi)
  refine hK.out _ _ ⟨(blk_cell q0.out 0).trans rfl, (blk_cell q0.out 1).trans rfl, (blk_cell q0.out 2).trans rfl, (blk_cell q0.out 3).trans rfl, (blk_cell q0.out 4).trans rfl, (blk_cell q0.out 5).trans rfl⟩ (fun hHeld => ?_)
  clear hK K
  refine norm_ (a' := ?_) ?_ ?_
  rotate_left
  ·
   show Act.put _ (some 9) _ = _
   simp only [Act.put, List.setIfInBounds_toArray, List.set_cons_zero, List.set_cons_succ, i64_w, i32_w]
   rfl
  refine one_ (i := 3) (N := some 10) #[true, true, true, true, false] rfl rfl (by kernel_rfl) (by decide) (fun K hK => ?_)
  refine goes_ Try.func23 (by kernel_rfl) rfl #[.agg #[.int .i64 q7, .slice j2 q2.length j3, .slice j4 q3.length j5, .slice j6 q4.length j7, .slice j8 q5.length j9, .slice z0 q6.length z1], .int .i64 z3] (by rfl) rfl rfl (by (try simp only [List.map_toArray, List.map_cons, List.map_nil]); first | done | rfl | (simp only [List.length_drop, List.length_take]; rfl)) ?_
  with_reducible refine (Qaf.calls k q7 _ _ q2 _ _ q3 _ _ q4 _ _ q5 _ _ q6 z3 j1 _ ?side1 ?side2 ?side3 ?side4 ?side5 ?side6 ?side7 ?side8 ?side9 ?side10 A4.out).mono ?_
  (case side1 => exact Cb z7 HB)
  (case side2 => exact z8.out)
  (case side3 => exact Cb z9 HB)
  (case side4 => exact y0.out)
  (case side5 => exact Cb y1 HB)
  (case side6 => exact y2.out)
  (case side7 => exact Cb y3 HB)
  (case side8 => exact y4.out)
  (case side9 => exact Cb y5 HB)
  (case side10 => exact y6.out)
  rintro e w34 ⟨rfl, hb⟩
  refine ⟨_, rfl, ?_⟩
  replace q0 := Bb q0 hb
  replace q1 := Bb q1 hb
  replace HB := bs HB hb
  (try clear hb)
  (try clear hb2)
  (try clear hk)
  (try clear hi)
  refine hK.out _ _ ⟨(blk_cell q0.out 0).trans rfl, (blk_cell q0.out 1).trans rfl, (blk_cell q0.out 2).trans rfl, (blk_cell q0.out 3).trans rfl, (blk_cell q0.out 4).trans rfl, (blk_cell q0.out 5).trans rfl⟩ (fun hHeld => ?_)
  clear hK K
  refine norm_ (a' := ?_) ?_ ?_
  rotate_left
  ·
   show Act.put _ (some 10) _ = _
   simp only [Act.put, List.setIfInBounds_toArray, List.set_cons_zero, List.set_cons_succ, i64_w, i32_w]
   rfl
  refine pure_ (i := 4) (N := some 6) (v := ?_) (a' := ?_) #[true, true, true, true, true] rfl rfl (by kernel_rfl) (fun _ _ _ h => h) (Or.inl ⟨by rfl, ?_⟩) ?_ ?_
  rotate_left
  ·
   intro w'
   go_simp
   with_reducible rfl
  rotate_left
  ·
   simp only [Act.put, List.setIfInBounds_toArray, List.set_cons_zero, List.set_cons_succ, i64_w, i32_w]
   rfl
  refine done_ (by kernel_rfl) ?_
  have J2 := z5.out
  have J3 := z4.out
  obtain ⟨Zs, Zt, Zu, Zv, Zw, Zx⟩ := cf3 q1
  try go_wp2
  refine bodyPost_ret (results_ct rfl _ _ j0 41 #[.int .i64 0, .int .i64 0, .string (⟨#[]⟩ : ByteArray)] (0, 0) _ rfl (by apply blk_u; refine blk_put (cs := #[.int .i64 0, .int .i64 0, .string (⟨#[]⟩ : ByteArray)]) ?_ 2 _ rfl; apply blk_u; refine blk_put (cs := #[.int .i64 0, .int .i64 0, .string (⟨#[]⟩ : ByteArray)]) ?_ 1 _ rfl; apply blk_u; refine blk_put (cs := #[.int .i64 0, .int .i64 0, .string (⟨#[]⟩ : ByteArray)]) ?_ 0 _ rfl; apply blk_u; exact q1.out) Try.underlying41 rfl (by kernel_rfl)) rfl ?_
  exact ⟨by first | rfl | (simp [errW_none, errW_some] <;> rfl) | (simp [*, errW_none, errW_some] <;> rfl), bl HB⟩
end Go.Proofs.Ytphnmaobpefoiaa.XW
end
section
namespace Go.Proofs.Ytphnmaobpefoiaa.XW
open Go.RowKit Go.Proofs.YtphnmaobpefoiaaXW Go.Proofs.YtphnmaobpefoiaaW.PrintWords Go.Proofs.YtphnmaobpefoiaaW.PrintLast Go.Proofs.YtphnmaobpefoiaaW.PrintMore
attribute [local go_sem] max2_int min2_int max_two min_two max_three min_three max_four min_four sleq
set_option linter.unusedVariables false
set_option linter.unusedSimpArgs false
attribute [local go_sem high] eqA41
def Qbb.f (k : Nat)  : Option (Bool) := (Qbe.f k 2 ([] : List Bool) (([3, 4] : List Int)) ([] : List ByteArray) ([] : List ByteArray) ([] : List Int) 1).bind fun q1 => (if q1.2.2.2 = 0 then (some (q1.1 == 2 && (q1.2.1 == 4 && (q1.2.2.1.toList == ([] : List UInt8))))) else (some false))
set_option maxHeartbeats 8000000 in
set_option maxRecDepth 100000 in
theorem Qbb.calls (k : Nat)  (r : Bool) (w : World) (h : Qbb.f k  = some r) :
  Calls Try.prog 7 #[] w fun e w' => e = .returned (.bool r) ∧ Below w.heap.size w w' := by
 have hu39 := Try.underlying39
 have hu41 := Try.underlying41
 have HB := Qaa.mk (Below.refl w.heap.size w)
 have H : ((Qbe.f k 2 ([] : List Bool) (([3, 4] : List Int)) ([] : List ByteArray) ([] : List ByteArray) ([] : List Int) 1).bind fun q1 => (if q1.2.2.2 = 0 then (some (q1.1 == 2 && (q1.2.1 == 4 && (q1.2.2.1.toList == ([] : List UInt8))))) else (some false))) = some r := h
 clear h
 obtain ⟨y264, hy264⟩ : ∃ y_ : List Int, y_ = (([3, 4] : List Int)) := ⟨_, rfl⟩
 replace H : ((Qbe.f k 2 ([] : List Bool) y264 ([] : List ByteArray) ([] : List ByteArray) ([] : List Int) 1).bind fun q1 => (if q1.2.2.2 = 0 then (some (q1.1 == 2 && (q1.2.1 == 4 && (q1.2.2.1.toList == ([] : List UInt8))))) else (some false))) = some r := by first | (rw [hy264]; with_reducible exact H) | (have H2_ := (Option.bind_some _ _).symm.trans H; rw [hy264]; with_reducible exact H2_) | (have H2_ := (Option.bind_some _ _).symm.trans H; with_reducible exact H2_) | with_reducible exact H | (rw [hy264]; exact H) | exact H
 have Ny264 := Qaa.mk hy264
 clear hy264
 replace H := Option.bind_eq_some_iff.mp H
 obtain ⟨⟨q5, q6, q7, q2⟩, A10, H⟩ := H
 replace H : (if q2 = 0 then (some (q5 == 2 && (q6 == 4 && (q7.toList == ([] : List UInt8))))) else (some false)) = some r := H
 have A1 := Qaa.mk A10
 clear A10
 by_cases c2 : q2 = 0
 ·
  rw [if_pos c2] at H
  have j0 : (q2 == 0) = true := beq_iff_eq.mpr c2
  have j1 : (q2 != 0) = false := bne_eq_false_iff_eq.mpr c2
  clear c2
  obtain rfl := Option.some.inj H
  go_enter Try.func7, Try.ntmps7
  go_wp2_with (first | ((with_reducible refine gate_dst (N := 4) rfl ?_); refine Kd.R_lit (Kd.int .i64) _ 3 ?hg (N := 4) ?hd (xs := ([3, 4] : List Int)) (inner := [.int .i64 3, .int .i64 4]) (ok := fun _ => True) (okp := fun _ => True) ?hr ?hp (fun _ hk => hk) trivial (Below.refl _ _) (Nat.le_refl _) (by simp) ?_; (case hd => rfl); (case hg => rfl); (case hr => first | (go_simp; done) | (go_simp; rfl)); (case hp => exact (Reps.one (show Kd.M (Kd.int .i64) _ _ _ 3 [.int .i64 3] from rfl) (Reps.one (show Kd.M (Kd.int .i64) _ _ _ 4 [.int .i64 4] from rfl) (Reps.none _ _)))); intro j2 w3 ho4 hb hg_ hnew_; clear hg_ hnew_; (first | rw [← Ny264.out] at ho4 | (simp only [Int.reduceToNat] at ho4; rw [← Ny264.out] at ho4)); have q0 := Qaa.mk (Kd.R_lower ho4 (below_size (bl HB))); replace HB := bs HB hb; clear hb ho4; obtain ⟨z1, z2, eo5⟩ := Kd.R_slice q0.out; subst eo5) | ((with_reducible refine gate_callee (f := 8) rfl ?_); refine gL (some 6) Try.func8 #[.agg #[.int .i64 2, .slice none 0 0, .slice z1 y264.length z2, .slice none 0 0, .slice none 0 0, .slice none 0 0], .int .i64 1] ?_; (refine (Qbe.calls k 2 _ _ ([] : List Bool) _ _ y264 _ _ ([] : List ByteArray) _ _ ([] : List ByteArray) _ _ ([] : List Int) 1 q5 q6 q7 q2 _ ?side1 ?side2 ?side3 ?side4 ?side5 ?side6 ?side7 ?side8 ?side9 ?side10 A1.out).mono ?_); (case side1 => exact Kd.C_nil _ _); (case side2 => exact Nat.le_refl _); (case side3 => exact Cu (Kd.R_reads' q0.out).2.2); (case side4 => exact (Kd.R_reads' q0.out).2.1); (case side5 => exact Kd.C_nil _ _); (case side6 => exact Nat.le_refl _); (case side7 => exact Kd.C_nil _ _); (case side8 => exact Nat.le_refl _); (case side9 => exact Kd.C_nil _ _); (case side10 => exact Nat.le_refl _); rintro e w6 ⟨rfl, hb⟩; refine ⟨_, rfl, ?_⟩; replace q0 := Rb q0 hb; replace HB := bs HB hb; (try clear hb)) | ((with_reducible refine gate_dst (N := 1) rfl ?_); refine bx 1 #[.int .i64 0, .int .i64 0, .string (⟨#[]⟩ : ByteArray)] 41 ?_; intro q3 hg w7 hbox hb; have q4 := Qaa.mk (hbox); have q8 := Qaa.mk ((by rw [hg]; exact (below_size (bl HB)) : w.heap.size ≤ q3)); have q9 := Qaa.mk ((by rw [hg]; exact (below_size (bl HB)) : w.heap.size ≤ q3)); replace q0 := Rb q0 hb; replace HB := bs HB hb; clear hb hbox hg; obtain ⟨z3, z4, z5, z6, z7, z8⟩ := cf3 q4))
  go_ret
  exact ⟨by first | rfl | (simp [errW_none, errW_some] <;> rfl) | (simp [*, errW_none, errW_some] <;> rfl), bl HB⟩
 ·
  rw [if_neg c2] at H
  have j0 : (q2 == 0) = false := beq_eq_false_iff_ne.mpr c2
  have j1 : (q2 != 0) = true := bne_iff_ne.mpr c2
  obtain rfl := Option.some.inj H
  go_enter Try.func7, Try.ntmps7
  go_wp2_with (first | ((with_reducible refine gate_dst (N := 4) rfl ?_); refine Kd.R_lit (Kd.int .i64) _ 3 ?hg (N := 4) ?hd (xs := ([3, 4] : List Int)) (inner := [.int .i64 3, .int .i64 4]) (ok := fun _ => True) (okp := fun _ => True) ?hr ?hp (fun _ hk => hk) trivial (Below.refl _ _) (Nat.le_refl _) (by simp) ?_; (case hd => rfl); (case hg => rfl); (case hr => first | (go_simp; done) | (go_simp; rfl)); (case hp => exact (Reps.one (show Kd.M (Kd.int .i64) _ _ _ 3 [.int .i64 3] from rfl) (Reps.one (show Kd.M (Kd.int .i64) _ _ _ 4 [.int .i64 4] from rfl) (Reps.none _ _)))); intro j2 w9 ho10 hb hg_ hnew_; clear hg_ hnew_; (first | rw [← Ny264.out] at ho10 | (simp only [Int.reduceToNat] at ho10; rw [← Ny264.out] at ho10)); have q0 := Qaa.mk (Kd.R_lower ho10 (below_size (bl HB))); replace HB := bs HB hb; clear hb ho10; obtain ⟨j3, j4, eo11⟩ := Kd.R_slice q0.out; subst eo11) | ((with_reducible refine gate_callee (f := 8) rfl ?_); refine gL (some 6) Try.func8 #[.agg #[.int .i64 2, .slice none 0 0, .slice j3 y264.length j4, .slice none 0 0, .slice none 0 0, .slice none 0 0], .int .i64 1] ?_; (refine (Qbe.calls k 2 _ _ ([] : List Bool) _ _ y264 _ _ ([] : List ByteArray) _ _ ([] : List ByteArray) _ _ ([] : List Int) 1 q5 q6 q7 q2 _ ?side1 ?side2 ?side3 ?side4 ?side5 ?side6 ?side7 ?side8 ?side9 ?side10 A1.out).mono ?_); (case side1 => exact Kd.C_nil _ _); (case side2 => exact Nat.le_refl _); (case side3 => exact Cu (Kd.R_reads' q0.out).2.2); (case side4 => exact (Kd.R_reads' q0.out).2.1); (case side5 => exact Kd.C_nil _ _); (case side6 => exact Nat.le_refl _); (case side7 => exact Kd.C_nil _ _); (case side8 => exact Nat.le_refl _); (case side9 => exact Kd.C_nil _ _); (case side10 => exact Nat.le_refl _); rintro e w12 ⟨rfl, hb⟩; refine ⟨_, rfl, ?_⟩; replace q0 := Rb q0 hb; replace HB := bs HB hb; (try clear hb)) | ((with_reducible refine gate_dst (N := 1) rfl ?_); refine bx 1 #[.int .i64 0, .int .i64 0, .string (⟨#[]⟩ : ByteArray)] 41 ?_; intro q3 hg w13 hbox hb; have q4 := Qaa.mk (hbox); have q8 := Qaa.mk ((by rw [hg]; exact (below_size (bl HB)) : w.heap.size ≤ q3)); have q9 := Qaa.mk ((by rw [hg]; exact (below_size (bl HB)) : w.heap.size ≤ q3)); replace q0 := Rb q0 hb; replace HB := bs HB hb; clear hb hbox hg; obtain ⟨j5, j6, j7, j8, j9, z0⟩ := cf3 q4))
  go_ret
  exact ⟨by first | rfl | (simp [errW_none, errW_some] <;> rfl) | (simp [*, errW_none, errW_some] <;> rfl), bl HB⟩
end Go.Proofs.Ytphnmaobpefoiaa.XW
end
section
namespace Go.Proofs.Ytphnmaobpefoiaa.XW
open Go.RowKit Go.Proofs.YtphnmaobpefoiaaXW Go.Proofs.YtphnmaobpefoiaaW.PrintWords Go.Proofs.YtphnmaobpefoiaaW.PrintLast Go.Proofs.YtphnmaobpefoiaaW.PrintMore
attribute [local go_sem] max2_int min2_int max_two min_two max_three min_three max_four min_four sleq
set_option linter.unusedVariables false
set_option linter.unusedSimpArgs false
mutual
def Qan.j0 : Nat → ByteArray → Bool → Option (Bool)
 | 0, _, _ => none
 | k + 1, x0, x11 => if x11 = true then (some false) else (Qan.l0 k x0 (x0.size : Int) 0)
def Qan.l0 : Nat → ByteArray → Int → Int → Option (Bool)
 | 0, _, _, _ => none
 | k + 1, x0, x13, x14 => if x14 < x13 then (if 0 ≤ x14 then (if x14 < (x0.size : Int) then (if (bt x0 x14) < 97 then (if x14 = 0 then (Qan.j2 k x0 x13 x14 true) else (if (bt x0 x14) = 95 then (Qan.j2 k x0 x13 x14 false) else (if (bt x0 x14) < 48 then (Qan.j2 k x0 x13 x14 true) else (Qan.j2 k x0 x13 x14 (decide ((bt x0 x14) > 57)))))) else (if (bt x0 x14) > 122 then (if x14 = 0 then (Qan.j2 k x0 x13 x14 true) else (if (bt x0 x14) = 95 then (Qan.j2 k x0 x13 x14 false) else (if (bt x0 x14) < 48 then (Qan.j2 k x0 x13 x14 true) else (Qan.j2 k x0 x13 x14 (decide ((bt x0 x14) > 57)))))) else (Qan.j2 k x0 x13 x14 false))) else (none)) else (none)) else (some true)
def Qan.j2 : Nat → ByteArray → Int → Int → Bool → Option (Bool)
 | 0, _, _, _, _ => none
 | k + 1, x0, x13, x14, x41 => if x41 = true then (some false) else (Qan.l0 k x0 x13 (wrap64 (x14 + 1)))
end
def Qan.f (k : Nat) (a0 : ByteArray) : Option (Bool) := if a0.toList = ([] : List UInt8) then (Qan.j0 k a0 true) else (Qan.j0 k a0 (decide ((a0.size : Int) > 32)))
theorem Qan.mono_l : ∀ k, (∀ y0 y1, LeO (Qan.j0 k y0 y1) (Qan.j0 (k + 1) y0 y1)) ∧ (∀ y0 y1 y2, LeO (Qan.l0 k y0 y1 y2) (Qan.l0 (k + 1) y0 y1 y2)) ∧ (∀ y0 y1 y2 y3, LeO (Qan.j2 k y0 y1 y2 y3) (Qan.j2 (k + 1) y0 y1 y2 y3))
 | 0 => ⟨fun _ _ r h => by simp [Qan.j0] at h, fun _ _ _ r h => by simp [Qan.l0] at h, fun _ _ _ _ r h => by simp [Qan.j2] at h⟩
 | k + 1 => by
  obtain ⟨ih0, ih1, ih2⟩ := Qan.mono_l k
  refine ⟨?_, ?_, ?_⟩
  ·
   intro y0 y1
   unfold Qan.j0
   repeat' first
   | (with_reducible exact ih0 _ _)
   | (with_reducible exact ih1 _ _ _)
   | (with_reducible exact ih2 _ _ _ _)
   | (with_reducible exact LeO.refl _)
   | (with_reducible exact LeO.none _)
   | (with_reducible refine LeO.ite ?_ ?_)
   | (with_reducible refine LeO.bind ?_ (fun _ => ?_))
   | exact ih0 _ _
   | exact ih1 _ _ _
   | exact ih2 _ _ _ _
   | exact LeO.none _
   | refine LeO.ite ?_ ?_
   | refine LeO.bind ?_ (fun _ => ?_)
  ·
   intro y0 y1 y2
   unfold Qan.l0
   repeat' first
   | (with_reducible exact ih0 _ _)
   | (with_reducible exact ih1 _ _ _)
   | (with_reducible exact ih2 _ _ _ _)
   | (with_reducible exact LeO.refl _)
   | (with_reducible exact LeO.none _)
   | (with_reducible refine LeO.ite ?_ ?_)
   | (with_reducible refine LeO.bind ?_ (fun _ => ?_))
   | exact ih0 _ _
   | exact ih1 _ _ _
   | exact ih2 _ _ _ _
   | exact LeO.none _
   | refine LeO.ite ?_ ?_
   | refine LeO.bind ?_ (fun _ => ?_)
  ·
   intro y0 y1 y2 y3
   unfold Qan.j2
   repeat' first
   | (with_reducible exact ih0 _ _)
   | (with_reducible exact ih1 _ _ _)
   | (with_reducible exact ih2 _ _ _ _)
   | (with_reducible exact LeO.refl _)
   | (with_reducible exact LeO.none _)
   | (with_reducible refine LeO.ite ?_ ?_)
   | (with_reducible refine LeO.bind ?_ (fun _ => ?_))
   | exact ih0 _ _
   | exact ih1 _ _ _
   | exact ih2 _ _ _ _
   | exact LeO.none _
   | refine LeO.ite ?_ ?_
   | refine LeO.bind ?_ (fun _ => ?_)
theorem Qan.mono : ∀ a0 k, LeO (Qan.f k a0) (Qan.f (k + 1) a0) := by
 intro a0 k
 obtain ⟨ih0, ih1, ih2⟩ := Qan.mono_l k
 unfold Qan.f
 repeat' first
   | (with_reducible exact ih0 _ _)
   | (with_reducible exact ih1 _ _ _)
   | (with_reducible exact ih2 _ _ _ _)
   | (with_reducible exact LeO.refl _)
   | (with_reducible exact LeO.none _)
   | (with_reducible refine LeO.ite ?_ ?_)
   | (with_reducible refine LeO.bind ?_ (fun _ => ?_))
   | exact ih0 _ _
   | exact ih1 _ _ _
   | exact ih2 _ _ _ _
   | exact LeO.none _
   | refine LeO.ite ?_ ?_
   | refine LeO.bind ?_ (fun _ => ?_)
set_option maxHeartbeats 8000000 in
set_option maxRecDepth 100000 in
theorem Qan.calls (k : Nat) (a0 : ByteArray) (r : Bool) (w : World) (h : Qan.f k a0 = some r) :
  Calls Try.prog 68 #[.string a0] w fun e w' => e = .returned (.bool r) ∧ Drawn0 w w' := by
 have H : (if a0.toList = ([] : List UInt8) then (Qan.j0 k a0 true) else (Qan.j0 k a0 (decide ((a0.size : Int) > 32)))) = some r := h
 clear h
 have j7 := Qaa.mk H
 clear H
 go_enter Try.func68, Try.ntmps68
 go_upto_region 1 with (fail)
 go_cut [11] (fun v11 wc => ∃ (kq : Nat) (x11_1 : Bool), v11 = .bool x11_1 ∧ Qaa (Qan.j0 kq a0 x11_1 = some r) ∧ Qaa (kq ≤ k) ∧ Drawn0 w wc)
 case first =>
  have H := j7.out
  clear j7
  by_cases c3 : a0.toList = ([] : List UInt8)
  ·
   rw [if_pos c3] at H
   have q0 : (a0.toList == ([] : List UInt8)) = true := beq_iff_eq.mpr c3
   have q2 : (a0.toList != ([] : List UInt8)) = false := bne_eq_false_iff_eq.mpr c3
   clear c3
   (first | rw [q0] | (simp only [i64_w, i32_w]; rw [q0]) | skip)
   have H' := Qaa.mk H
   clear H
   go_wp2
   go_meet
   case rel => exact ⟨_, (true), (by first | rfl | (simp; done) | (simp [*]; done)), H', ⟨by first | omega | exact Nat.le_refl _⟩, by repeat (first | exact Drawn0.refl _ | apply Drawn0.step)⟩
  ·
   rw [if_neg c3] at H
   have q0 : (a0.toList == ([] : List UInt8)) = false := beq_eq_false_iff_ne.mpr c3
   have q2 : (a0.toList != ([] : List UInt8)) = true := bne_iff_ne.mpr c3
   (first | rw [q0] | (simp only [i64_w, i32_w]; rw [q0]) | skip)
   have H' := Qaa.mk H
   clear H
   go_wp2
   go_meet
   case rel => exact ⟨_, (decide ((a0.size : Int) > 32)), (by first | rfl | (simp; done) | (simp [*]; done)), H', ⟨by first | omega | exact Nat.le_refl _⟩, by repeat (first | exact Drawn0.refl _ | apply Drawn0.step)⟩
 case rest =>
  clear j7
  try clear p2
  try clear c3
  try clear q0
  try clear q2
  obtain ⟨kq, x11_1, rfl, HA, HJ1, ⟨mc1, rfl⟩⟩ := hcut
  cases kq with
  | zero => exact absurd HA.out (by simp [Qan.j0])
  | succ kj1 =>
   have H := HA.out
   clear HA
   simp only [Qan.j0] at H
   by_cases c4 : x11_1 = true
   ·
    subst c4
    have H1 : (some false) = some r := by rw [if_pos rfl] at H; exact H
    clear H
    have H := H1
    clear H1
    obtain rfl := Option.some.inj H
    go_wp2
    go_ret
    exact ⟨by first | rfl | (simp; done) | (simp [*]; done), by repeat (first | exact Drawn0.refl _ | apply Drawn0.step)⟩
   ·
    replace c4 := Bool.eq_false_iff.mpr c4
    subst c4
    have H1 : (Qan.l0 kj1 a0 (a0.size : Int) 0) = some r := by rw [if_neg (show ¬ (false = true) by decide)] at H; exact H
    clear H
    have H := H1
    clear H1
    have H' := Qaa.mk H
    clear H
    go_wp2
    go_loopg [14] kj1 (fun kq v14 w' => ∃ (x14_2 : Int), v14 = .int .i64 x14_2 ∧ Qaa (Qan.l0 kq a0 (a0.size : Int) x14_2 = some r) ∧ Qaa (kq ≤ kj1) ∧ Drawn0 w w')
    case atStart => exact ⟨(0), (by first | rfl | (simp; done) | (simp [*]; done)), H', ⟨Nat.le_refl _⟩, by repeat (first | exact Drawn0.refl _ | apply Drawn0.step)⟩
    case round =>
     clear H'
     try clear c1
     try clear p2
     try clear c3
     try clear q0
     try clear q2
     try clear c4
     try clear p2
     obtain ⟨x14_2, rfl, HA, HK2, ⟨m2, rfl⟩⟩ := hrel
     cases gk with
     | zero => exact absurd HA.out (by simp [Qan.l0])
     | succ k2 =>
      have H := HA.out
      clear HA
      simp only [Qan.l0] at H
      by_cases c5 : x14_2 < (a0.size : Int)
      ·
       rw [if_pos c5] at H
       have j8 : decide (x14_2 < (a0.size : Int)) = true := decide_eq_true c5
       clear c5
       by_cases c6 : 0 ≤ x14_2
       ·
        rw [if_pos c6] at H
        have z0 : decide (0 ≤ x14_2) = true := decide_eq_true c6
        clear c6
        by_cases c7 : x14_2 < (a0.size : Int)
        ·
         rw [if_pos c7] at H
         have z1 : decide (x14_2 < (a0.size : Int)) = true := decide_eq_true c7
         clear c7
         have j9 := Qaa.mk H
         clear H
         have p8 : 0 ≤ (x14_2 : Int) := of_decide_eq_true (by first | (with_reducible assumption) | assumption)
         have q8 : x14_2 < (a0.size : Int) := of_decide_eq_true (by first | (with_reducible assumption) | assumption)
         have hx8 := bt_at a0 x14_2
         replace p8 := eq_true p8
         replace q8 := eq_true q8
         go_upto_region 7 with (fail)
         go_cut [41] (fun v41 wc => ∃ (kq : Nat) (x41_8 : Bool), v41 = .bool x41_8 ∧ Qaa (Qan.j2 kq a0 (a0.size : Int) x14_2 x41_8 = some r) ∧ Qaa (kq ≤ k2) ∧ Drawn0 w wc)
         case first =>
          have H := j9.out
          clear j9
          by_cases c10 : (bt a0 x14_2) < 97
          ·
           rw [if_pos c10] at H
           have q1 : decide ((bt a0 x14_2) < 97) = true := decide_eq_true c10
           clear c10
           (first | rw [q1] | (simp only [i64_w, i32_w]; rw [q1]) | skip)
           by_cases c11 : x14_2 = 0
           ·
            rw [if_pos c11] at H
            have q3 : (x14_2 == 0) = true := beq_iff_eq.mpr c11
            have q4 : (x14_2 != 0) = false := bne_eq_false_iff_eq.mpr c11
            clear c11
            have H' := Qaa.mk H
            clear H
            go_wp2
            go_meet
            case rel => exact ⟨_, (true), (by first | rfl | (simp; done) | (simp [*]; done)), H', ⟨by have := HJ1.out; have := HK2.out; first | omega | exact Nat.le_refl _⟩, by repeat (first | exact Drawn0.refl _ | apply Drawn0.step)⟩
           ·
            rw [if_neg c11] at H
            have q3 : (x14_2 == 0) = false := beq_eq_false_iff_ne.mpr c11
            have q4 : (x14_2 != 0) = true := bne_iff_ne.mpr c11
            by_cases c12 : (bt a0 x14_2) = 95
            ·
             rw [if_pos c12] at H
             have q5 : ((bt a0 x14_2) == 95) = true := beq_iff_eq.mpr c12
             have q6 : ((bt a0 x14_2) != 95) = false := bne_eq_false_iff_eq.mpr c12
             clear c12
             have H' := Qaa.mk H
             clear H
             go_wp2
             go_meet
             case rel => exact ⟨_, (false), (by first | rfl | (simp; done) | (simp [*]; done)), H', ⟨by have := HJ1.out; have := HK2.out; first | omega | exact Nat.le_refl _⟩, by repeat (first | exact Drawn0.refl _ | apply Drawn0.step)⟩
            ·
             rw [if_neg c12] at H
             have q5 : ((bt a0 x14_2) == 95) = false := beq_eq_false_iff_ne.mpr c12
             have q6 : ((bt a0 x14_2) != 95) = true := bne_iff_ne.mpr c12
             by_cases c13 : (bt a0 x14_2) < 48
             ·
              rw [if_pos c13] at H
              have q7 : decide ((bt a0 x14_2) < 48) = true := decide_eq_true c13
              clear c13
              have H' := Qaa.mk H
              clear H
              go_wp2
              go_meet
              case rel => exact ⟨_, (true), (by first | rfl | (simp; done) | (simp [*]; done)), H', ⟨by have := HJ1.out; have := HK2.out; first | omega | exact Nat.le_refl _⟩, by repeat (first | exact Drawn0.refl _ | apply Drawn0.step)⟩
             ·
              rw [if_neg c13] at H
              have q7 : decide ((bt a0 x14_2) < 48) = false := decide_eq_false c13
              clear c13
              have H' := Qaa.mk H
              clear H
              go_wp2
              go_meet
              case rel => exact ⟨_, (decide ((bt a0 x14_2) > 57)), (by first | rfl | (simp; done) | (simp [*]; done)), H', ⟨by have := HJ1.out; have := HK2.out; first | omega | exact Nat.le_refl _⟩, by repeat (first | exact Drawn0.refl _ | apply Drawn0.step)⟩
          ·
           rw [if_neg c10] at H
           have q1 : decide ((bt a0 x14_2) < 97) = false := decide_eq_false c10
           clear c10
           (first | rw [q1] | (simp only [i64_w, i32_w]; rw [q1]) | skip)
           by_cases c14 : (bt a0 x14_2) > 122
           ·
            rw [if_pos c14] at H
            have q9 : decide (122 < (bt a0 x14_2)) = true := decide_eq_true c14
            clear c14
            by_cases c15 : x14_2 = 0
            ·
             rw [if_pos c15] at H
             have j1 : (x14_2 == 0) = true := beq_iff_eq.mpr c15
             have j3 : (x14_2 != 0) = false := bne_eq_false_iff_eq.mpr c15
             clear c15
             have H' := Qaa.mk H
             clear H
             go_wp2
             go_meet
             case rel => exact ⟨_, (true), (by first | rfl | (simp; done) | (simp [*]; done)), H', ⟨by have := HJ1.out; have := HK2.out; first | omega | exact Nat.le_refl _⟩, by repeat (first | exact Drawn0.refl _ | apply Drawn0.step)⟩
            ·
             rw [if_neg c15] at H
             have j1 : (x14_2 == 0) = false := beq_eq_false_iff_ne.mpr c15
             have j3 : (x14_2 != 0) = true := bne_iff_ne.mpr c15
             by_cases c16 : (bt a0 x14_2) = 95
             ·
              rw [if_pos c16] at H
              have j4 : ((bt a0 x14_2) == 95) = true := beq_iff_eq.mpr c16
              have j5 : ((bt a0 x14_2) != 95) = false := bne_eq_false_iff_eq.mpr c16
              clear c16
              have H' := Qaa.mk H
              clear H
              go_wp2
              go_meet
              case rel => exact ⟨_, (false), (by first | rfl | (simp; done) | (simp [*]; done)), H', ⟨by have := HJ1.out; have := HK2.out; first | omega | exact Nat.le_refl _⟩, by repeat (first | exact Drawn0.refl _ | apply Drawn0.step)⟩
             ·
              rw [if_neg c16] at H
              have j4 : ((bt a0 x14_2) == 95) = false := beq_eq_false_iff_ne.mpr c16
              have j5 : ((bt a0 x14_2) != 95) = true := bne_iff_ne.mpr c16
              by_cases c17 : (bt a0 x14_2) < 48
              ·
               rw [if_pos c17] at H
               have j6 : decide ((bt a0 x14_2) < 48) = true := decide_eq_true c17
               clear c17
               have H' := Qaa.mk H
               clear H
               go_wp2
               go_meet
               case rel => exact ⟨_, (true), (by first | rfl | (simp; done) | (simp [*]; done)), H', ⟨by have := HJ1.out; have := HK2.out; first | omega | exact Nat.le_refl _⟩, by repeat (first | exact Drawn0.refl _ | apply Drawn0.step)⟩
              ·
               rw [if_neg c17] at H
               have j6 : decide ((bt a0 x14_2) < 48) = false := decide_eq_false c17
               clear c17
               have H' := Qaa.mk H
               clear H
               go_wp2
               go_meet
               case rel => exact ⟨_, (decide ((bt a0 x14_2) > 57)), (by first | rfl | (simp; done) | (simp [*]; done)), H', ⟨by have := HJ1.out; have := HK2.out; first | omega | exact Nat.le_refl _⟩, by repeat (first | exact Drawn0.refl _ | apply Drawn0.step)⟩
           ·
            rw [if_neg c14] at H
            have q9 : decide (122 < (bt a0 x14_2)) = false := decide_eq_false c14
            clear c14
            have H' := Qaa.mk H
            clear H
            go_wp2
            go_meet
            case rel => exact ⟨_, (false), (by first | rfl | (simp; done) | (simp [*]; done)), H', ⟨by have := HJ1.out; have := HK2.out; first | omega | exact Nat.le_refl _⟩, by repeat (first | exact Drawn0.refl _ | apply Drawn0.step)⟩
         case rest =>
          clear j9
          try clear c1
          try clear p2
          try clear c3
          try clear q0
          try clear q2
          try clear c4
          try clear c5
          try clear j8
          try clear c6
          try clear z0
          try clear c7
          try clear z1
          try clear p8
          try clear q8
          try clear hx8
          try clear c10
          try clear q1
          try clear c11
          try clear q3
          try clear q4
          try clear c12
          try clear q5
          try clear q6
          try clear c13
          try clear q7
          try clear c14
          try clear q9
          try clear c15
          try clear j1
          try clear j3
          try clear c16
          try clear j4
          try clear j5
          try clear c17
          try clear j6
          try clear p2
          try clear p8
          try clear q8
          obtain ⟨kq, x41_8, rfl, HA, HJ8, ⟨mc8, rfl⟩⟩ := hcut
          cases kq with
          | zero => exact absurd HA.out (by simp [Qan.j2])
          | succ kj8 =>
           have H := HA.out
           clear HA
           simp only [Qan.j2] at H
           by_cases c18 : x41_8 = true
           ·
            subst c18
            have H1 : (some false) = some r := by rw [if_pos rfl] at H; exact H
            clear H
            have H := H1
            clear H1
            obtain rfl := Option.some.inj H
            go_wp2
            go_ret
            exact ⟨by first | rfl | (simp; done) | (simp [*]; done), by repeat (first | exact Drawn0.refl _ | apply Drawn0.step)⟩
           ·
            replace c18 := Bool.eq_false_iff.mpr c18
            subst c18
            have H1 : (Qan.l0 kj8 a0 (a0.size : Int) (wrap64 (x14_2 + 1))) = some r := by rw [if_neg (show ¬ (false = true) by decide)] at H; exact H
            clear H
            have H := H1
            clear H1
            have H' := Qaa.mk H
            clear H
            go_wp2
            go_roundg kj8
            case measure => have := HJ1.out; have := HK2.out; have := HJ8.out; omega
            case rel => exact ⟨(wrap64 (x14_2 + 1)), (by first | rfl | (simp; done) | (simp [*]; done)), H', ⟨by have := HJ1.out; have := HK2.out; have := HJ8.out; omega⟩, by repeat (first | exact Drawn0.refl _ | apply Drawn0.step)⟩
        ·
         rw [if_neg c7] at H
         exact absurd H (by simp)
       ·
        rw [if_neg c6] at H
        exact absurd H (by simp)
      ·
       rw [if_neg c5] at H
       have j8 : decide (x14_2 < (a0.size : Int)) = false := decide_eq_false c5
       clear c5
       obtain rfl := Option.some.inj H
       go_wp2
       go_ret
       exact ⟨by first | rfl | (simp; done) | (simp [*]; done), by repeat (first | exact Drawn0.refl _ | apply Drawn0.step)⟩
end Go.Proofs.Ytphnmaobpefoiaa.XW
end
section
namespace Go.Proofs.Ytphnmaobpefoiaa.XW
open Go.RowKit Go.Proofs.YtphnmaobpefoiaaXW Go.Proofs.YtphnmaobpefoiaaW.PrintWords Go.Proofs.YtphnmaobpefoiaaW.PrintLast Go.Proofs.YtphnmaobpefoiaaW.PrintMore
attribute [local go_sem] max2_int min2_int max_two min_two max_three min_three max_four min_four sleq
set_option linter.unusedVariables false
set_option linter.unusedSimpArgs false
mutual
def Qad.l0 : Nat → List (S86) → List (S86) → Int → Int → Option (Int)
 | 0, _, _, _, _ => none
 | k + 1, x0, x13, x14, x15 => if x15 < x14 then (if 0 ≤ x15 then (if x15 < (x13.length : Int) then ((Qan.f k ((rd_T86 x13 x15).f0)).bind fun j2 => (if j2 = true then (if x15 ≤ (x0.length : Int) then ((some (x0.take (x15 : Int).toNat : List (S86))).bind fun y149 => (Qad.l1 k x0 x13 x14 x15 y149 (y149.length : Int) 0 ((rd_T86 x13 x15).f0) ((rd_T86 x13 x15).f1))) else (none)) else (some 5))) else (none)) else (none)) else (some 0)
def Qad.l1 : Nat → List (S86) → List (S86) → Int → Int → List (S86) → Int → Int → ByteArray → Int → Option (Int)
 | 0, _, _, _, _, _, _, _, _, _ => none
 | k + 1, x0, x13, x14, x15, x26, x27, x28, j0, j1 => if x28 < x27 then (if 0 ≤ x28 then (if x28 < (x26.length : Int) then (if ((rd_T86 x26 x28).f0).toList = j0.toList then (some 7) else (Qad.l1 k x0 x13 x14 x15 x26 x27 (wrap64 (x28 + 1)) j0 j1)) else (none)) else (none)) else ((Qau.f j1 1 3).bind fun j3 => (if j3 = true then (Qad.l0 k x0 x13 x14 (wrap64 (x15 + 1))) else (some 4)))
end
def Qad.f (k : Nat) (l0 : List (S86)) : Option (Int) := if (l0.length : Int) > 20 then (some 2) else (if (l0.length : Int) = 0 then (some 6) else (Qad.l0 k l0 l0 (l0.length : Int) 0))
theorem Qad.mono_l : ∀ k, (∀ y0 y1 y2 y3, LeO (Qad.l0 k y0 y1 y2 y3) (Qad.l0 (k + 1) y0 y1 y2 y3)) ∧ (∀ y0 y1 y2 y3 y4 y5 y6 y7 y8, LeO (Qad.l1 k y0 y1 y2 y3 y4 y5 y6 y7 y8) (Qad.l1 (k + 1) y0 y1 y2 y3 y4 y5 y6 y7 y8))
 | 0 => ⟨fun _ _ _ _ r h => by simp [Qad.l0] at h, fun _ _ _ _ _ _ _ _ _ r h => by simp [Qad.l1] at h⟩
 | k + 1 => by
  obtain ⟨ih0, ih1⟩ := Qad.mono_l k
  refine ⟨?_, ?_⟩
  ·
   intro y0 y1 y2 y3
   unfold Qad.l0
   repeat' first
   | (with_reducible exact ih0 _ _ _ _)
   | (with_reducible exact ih1 _ _ _ _ _ _ _ _ _)
   | (with_reducible exact Qan.mono _ _)
   | (with_reducible exact LeO.refl _)
   | (with_reducible exact LeO.none _)
   | (with_reducible refine LeO.ite ?_ ?_)
   | (with_reducible refine LeO.bind ?_ (fun _ => ?_))
   | exact ih0 _ _ _ _
   | exact ih1 _ _ _ _ _ _ _ _ _
   | exact Qan.mono _ _
   | exact LeO.none _
   | refine LeO.ite ?_ ?_
   | refine LeO.bind ?_ (fun _ => ?_)
  ·
   intro y0 y1 y2 y3 y4 y5 y6 y7 y8
   unfold Qad.l1
   repeat' first
   | (with_reducible exact ih0 _ _ _ _)
   | (with_reducible exact ih1 _ _ _ _ _ _ _ _ _)
   | (with_reducible exact Qan.mono _ _)
   | (with_reducible exact LeO.refl _)
   | (with_reducible exact LeO.none _)
   | (with_reducible refine LeO.ite ?_ ?_)
   | (with_reducible refine LeO.bind ?_ (fun _ => ?_))
   | exact ih0 _ _ _ _
   | exact ih1 _ _ _ _ _ _ _ _ _
   | exact Qan.mono _ _
   | exact LeO.none _
   | refine LeO.ite ?_ ?_
   | refine LeO.bind ?_ (fun _ => ?_)
theorem Qad.mono : ∀ a0 k, LeO (Qad.f k a0) (Qad.f (k + 1) a0) := by
 intro a0 k
 obtain ⟨ih0, ih1⟩ := Qad.mono_l k
 unfold Qad.f
 repeat' first
   | (with_reducible exact ih0 _ _ _ _)
   | (with_reducible exact ih1 _ _ _ _ _ _ _ _ _)
   | (with_reducible exact Qan.mono _ _)
   | (with_reducible exact LeO.refl _)
   | (with_reducible exact LeO.none _)
   | (with_reducible refine LeO.ite ?_ ?_)
   | (with_reducible refine LeO.bind ?_ (fun _ => ?_))
   | exact ih0 _ _ _ _
   | exact ih1 _ _ _ _ _ _ _ _ _
   | exact Qan.mono _ _
   | exact LeO.none _
   | refine LeO.ite ?_ ?_
   | refine LeO.bind ?_ (fun _ => ?_)
set_option maxHeartbeats 8000000 in
set_option maxRecDepth 100000 in
theorem Qad.calls (k : Nat) (A0 : Option Addr) (c0 : Nat) (l0 : List (S86)) (r : Int) (w : World) (hr0 : Kd.C k86 w A0 l0.length l0) (hc0 : l0.length ≤ c0) (h : Qad.f k l0 = some r) :
  Calls Try.prog 58 #[.slice A0 l0.length c0] w fun e w' => e = .returned (.int .i64 r) ∧ Below w.heap.size w w' := by
 have hu86 := Try.underlying86
 have z8 := Qaa.mk hr0
 have Z5 := Qaa.mk hc0
 clear hr0 hc0
 have HB := Qaa.mk (Below.refl w.heap.size w)
 have H : (if (l0.length : Int) > 20 then (some 2) else (if (l0.length : Int) = 0 then (some 6) else (Qad.l0 k l0 l0 (l0.length : Int) 0))) = some r := h
 clear h
 by_cases c2 : (l0.length : Int) > 20
 ·
  rw [if_pos c2] at H
  have j5 : decide (20 < (l0.length : Int)) = true := decide_eq_true c2
  have j6 : decide (20 < l0.length) = true := decide_eq_true (by omega)
  clear c2
  obtain rfl := Option.some.inj H
  go_enter Try.func58, Try.ntmps58
  go_wp2
  go_ret
  exact ⟨by first | rfl | (simp [errW_none, errW_some] <;> rfl) | (simp [*, errW_none, errW_some] <;> rfl), bl HB⟩
 ·
  rw [if_neg c2] at H
  have j5 : decide (20 < (l0.length : Int)) = false := decide_eq_false c2
  have j6 : decide (20 < l0.length) = false := decide_eq_false (by omega)
  clear c2
  by_cases c3 : (l0.length : Int) = 0
  ·
   rw [if_pos c3] at H
   have j7 : ((l0.length : Int) == 0) = true := beq_iff_eq.mpr c3
   have j8 : ((l0.length : Int) != 0) = false := bne_eq_false_iff_eq.mpr c3
   clear c3
   obtain rfl := Option.some.inj H
   go_enter Try.func58, Try.ntmps58
   go_wp2
   go_ret
   exact ⟨by first | rfl | (simp [errW_none, errW_some] <;> rfl) | (simp [*, errW_none, errW_some] <;> rfl), bl HB⟩
  ·
   rw [if_neg c3] at H
   have j7 : ((l0.length : Int) == 0) = false := beq_eq_false_iff_ne.mpr c3
   have j8 : ((l0.length : Int) != 0) = true := bne_iff_ne.mpr c3
   have z9 : ¬ (l0 = []) := fun h_ => c3 (by rw [h_]; rfl)
   have H' := Qaa.mk H
   clear H
   go_enter Try.func58, Try.ntmps58
   go_wp2
   go_loopg [15] k (fun kq v15 w' => ∃ (x15_1 : Int), v15 = .int .i64 x15_1 ∧ Qaa (Qad.l0 kq l0 l0 (l0.length : Int) x15_1 = some r) ∧ Qaa (kq ≤ k) ∧ Qaa (Below w.heap.size w w'))
   case atStart => exact ⟨(0), (by first | rfl | (simp; done) | (simp [*]; done)), H', ⟨Nat.le_refl _⟩, ⟨bl HB⟩⟩
   case round =>
    clear H'
    try clear c2
    try clear j5
    try clear j6
    try clear p2
    try clear c3
    try clear j7
    try clear j8
    try clear z9
    obtain ⟨x15_1, rfl, HA, HK1, HB⟩ := hrel
    cases gk with
    | zero => exact absurd HA.out (by simp [Qad.l0])
    | succ k1 =>
     have H := HA.out
     clear HA
     simp only [Qad.l0] at H
     by_cases c4 : x15_1 < (l0.length : Int)
     ·
      rw [if_pos c4] at H
      have y9 : decide (x15_1 < (l0.length : Int)) = true := decide_eq_true c4
      clear c4
      by_cases c5 : 0 ≤ x15_1
      ·
       rw [if_pos c5] at H
       have Qa : decide (0 ≤ x15_1) = true := decide_eq_true c5
       clear c5
       by_cases c6 : x15_1 < (l0.length : Int)
       ·
        rw [if_pos c6] at H
        have Qb : decide (x15_1 < (l0.length : Int)) = true := decide_eq_true c6
        clear c6
        replace H := Option.bind_eq_some_iff.mp H
        obtain ⟨j2, A70, H⟩ := H
        replace H : (if j2 = true then (if x15_1 ≤ (l0.length : Int) then ((some (l0.take (x15_1 : Int).toNat : List (S86))).bind fun y149 => (Qad.l1 k1 l0 l0 (l0.length : Int) x15_1 y149 (y149.length : Int) 0 ((rd_T86 l0 x15_1).f0) ((rd_T86 l0 x15_1).f1))) else (none)) else (some 5)) = some r := H
        have A7 := Qaa.mk A70
        clear A70
        by_cases c8 : j2 = true
        ·
         subst c8
         have H1 : (if x15_1 ≤ (l0.length : Int) then ((some (l0.take (x15_1 : Int).toNat : List (S86))).bind fun y149 => (Qad.l1 k1 l0 l0 (l0.length : Int) x15_1 y149 (y149.length : Int) 0 ((rd_T86 l0 x15_1).f0) ((rd_T86 l0 x15_1).f1))) else (none)) = some r := by rw [if_pos rfl] at H; exact H
         clear H
         have H := H1
         clear H1
         have Qc := eq_true (of_decide_eq_true (by first | (with_reducible assumption) | assumption) : 0 ≤ x15_1)
         by_cases c10 : x15_1 ≤ (l0.length : Int)
         ·
          rw [if_pos c10] at H
          have Q1 := eq_true c10
          have Q2 : decide (x15_1 ≤ (l0.length : Int)) = true := decide_eq_true c10
          clear c10
          obtain ⟨y149, hy149⟩ : ∃ y_ : List (S86), y_ = (l0.take (x15_1 : Int).toNat) := ⟨_, rfl⟩
          replace H : (Qad.l1 k1 l0 l0 (l0.length : Int) x15_1 y149 (y149.length : Int) 0 ((rd_T86 l0 x15_1).f0) ((rd_T86 l0 x15_1).f1)) = some r := by first | (rw [hy149]; with_reducible exact H) | (have H2_ := (Option.bind_some _ _).symm.trans H; rw [hy149]; with_reducible exact H2_) | (have H2_ := (Option.bind_some _ _).symm.trans H; with_reducible exact H2_) | with_reducible exact H | (rw [hy149]; exact H) | exact H
          have Ny149 := Qaa.mk hy149
          clear hy149
          have H' := Qaa.mk H
          clear H
          have p146 : 0 ≤ (x15_1 : Int) := of_decide_eq_true (by first | (with_reducible assumption) | assumption)
          have q146 : x15_1 < (l0.length : Int) := of_decide_eq_true (by first | (with_reducible assumption) | assumption)
          obtain ⟨ad146, e146, q3, q4⟩ := at_T86 z8.out x15_1 p146 q146
          cases e146
          replace q3 := (HB.out.cell (World.block_lt_of_cell? w _ q3)).trans q3
          replace q4 := (HB.out.cell (World.block_lt_of_cell? w _ q4)).trans q4
          replace p146 := eq_true p146
          replace q146 := eq_true q146
          go_wp2_with (first | ((with_reducible refine gate_dst (N := 4) rfl ?_); refine bx 4 #[.string (⟨#[]⟩ : ByteArray), .int .i64 0] 86 ?_; intro q2 hg w11 hbox hb; have q0 := Qaa.mk (hbox); have Q3 := Qaa.mk ((by rw [hg]; exact (below_size (bl HB)) : w.heap.size ≤ q2)); have Q4 := Qaa.mk ((by rw [hg]; exact (below_size (bl HB)) : w.heap.size ≤ q2)); replace HB := bs HB hb; clear hb hbox hg; obtain ⟨z0, z1, z2, z3⟩ := cf2 q0) | ((with_reducible refine gate_store (t := 86) (p := 4) rfl ?_); refine store_event (t := 86) (p := 4) (v := ?vo_w13) (w1 := ((w11.setCell ⟨q2, 0, none⟩ (.string ((rd_T86 l0 x15_1).f0))).setCell ⟨q2, 1, none⟩ (.int .i64 ((rd_T86 l0 x15_1).f1)))) ?hg ?ho ?hn ?hr ?_; (case ho => rfl); (case hg => rfl); (case hn => rfl); (case hr => first | (go_simp; done) | (go_simp; rfl)); intro w13 hw; replace q0 : Qaa (w13.heap[q2]? = some (.cells #[.string ((rd_T86 l0 x15_1).f0), .int .i64 ((rd_T86 l0 x15_1).f1)] 86 (0, 0))) := ⟨(by rw [hw]; exact (by apply blk_u; refine blk_put (cs := #[.string ((rd_T86 l0 x15_1).f0), .int .i64 0]) ?_ 1 _ rfl; apply blk_u; refine blk_put (cs := #[.string (⟨#[]⟩ : ByteArray), .int .i64 0]) ?_ 0 _ rfl; apply blk_u; exact q0.out))⟩; replace HB : Qaa (Below w.heap.size w w13) := ⟨(by rw [hw]; exact (bl HB))⟩; clear hw; obtain ⟨z4, z5, z6, z7⟩ := cf2 q0) | ((with_reducible refine gate_callee (f := 68) rfl ?_); refine gL (some 22) Try.func68 #[.string ((rd_T86 l0 x15_1).f0)] ?_; (with_reducible refine (Qan.calls k1 ((rd_T86 l0 x15_1).f0) true _ A7.out).mono ?_); rintro e w' ⟨rfl, ⟨nd, rfl⟩⟩; refine ⟨_, rfl, ?_⟩; have q15 : (x15_1 : Int) ≤ ((l0.length : Int) : Int) := of_decide_eq_true (by first | (with_reducible assumption) | assumption); obtain ⟨i015, hi015, _, hsz15, _⟩ := info_parts info86; have hroom15 : l0.length ≤ c0 := Z5.out; have hC15 : Kd.C k86 _ (some ad146) l0.length l0 := z8.out; have hcut15 := cut_to (P := Try.prog) 22 86 .i64 Try.underlying22 hi015 (some ad146) l0.length c0 x15_1 (of_decide_eq_true (by first | (with_reducible assumption) | assumption)) q15 hroom15; have hr15 := Kd.C_take (m := (x15_1 : Int).toNat) hC15 (by omega); have hy15 : y149.length = (x15_1 : Int).toNat := (by rw [Ny149.out, List.length_take]; omega); rw [← Ny149.out] at hr15; rw [← hy15] at hcut15; have j9 := Qaa.mk hr15; have Z6 := Qaa.mk (show y149.length ≤ c0 from by omega); clear hr15 hC15 hroom15 hi015 hsz15; have KY15 := Qaa.mk hy15; clear hy15; replace q15 := eq_true q15))
          go_loopg [28] k1 (fun kq v28 w' => ∃ (x28_2 : Int), v28 = .int .i64 x28_2 ∧ Qaa (Qad.l1 kq l0 l0 (l0.length : Int) x15_1 y149 (y149.length : Int) x28_2 ((rd_T86 l0 x15_1).f0) ((rd_T86 l0 x15_1).f1) = some r) ∧ Qaa (kq ≤ k1) ∧ Qaa (w'.heap[q2]? = some (.cells #[.string ((rd_T86 l0 x15_1).f0), .int .i64 ((rd_T86 l0 x15_1).f1)] 86 (0, 0))) ∧ Qaa (Below w.heap.size w w'))
          case atStart => exact ⟨(0), (by first | rfl | (simp; done) | (simp [*]; done)), H', ⟨Nat.le_refl _⟩, ⟨by apply blk_u; exact q0.out⟩, ⟨bl HB⟩⟩
          case round =>
           clear H'
           try clear c1
           try clear p1
           try clear q1
           try clear hx1
           try clear c2
           try clear j5
           try clear j6
           try clear p2
           try clear c3
           try clear j7
           try clear j8
           try clear z9
           try clear c4
           try clear y9
           try clear c5
           try clear Qa
           try clear c6
           try clear Qb
           try clear c8
           try clear c9
           try clear Qc
           try clear c10
           try clear Q1
           try clear Q2
           try clear p14
           try clear q14
           try clear hx14
           try clear q15
           try clear z0
           try clear z1
           try clear z4
           try clear z5
           try clear z2
           try clear z3
           try clear z6
           try clear z7
           try clear q3
           try clear q4
           try clear p146
           try clear p2
           try clear q146
           try clear q15
           obtain ⟨x28_2, rfl, HA, HK2, q0, HB⟩ := hrel
           cases gk with
           | zero => exact absurd HA.out (by simp [Qad.l1])
           | succ k2 =>
            have H := HA.out
            clear HA
            simp only [Qad.l1] at H
            by_cases c16 : x28_2 < (y149.length : Int)
            ·
             rw [if_pos c16] at H
             have Q5 : decide (x28_2 < (y149.length : Int)) = true := decide_eq_true c16
             clear c16
             by_cases c17 : 0 ≤ x28_2
             ·
              rw [if_pos c17] at H
              have Z7 : decide (0 ≤ x28_2) = true := decide_eq_true c17
              clear c17
              by_cases c18 : x28_2 < (y149.length : Int)
              ·
               rw [if_pos c18] at H
               have Z8 : decide (x28_2 < (y149.length : Int)) = true := decide_eq_true c18
               clear c18
               by_cases c19 : ((rd_T86 y149 x28_2).f0).toList = ((rd_T86 l0 x15_1).f0).toList
               ·
                rw [if_pos c19] at H
                have Q6 : (((rd_T86 y149 x28_2).f0).toList == ((rd_T86 l0 x15_1).f0).toList) = true := beq_iff_eq.mpr c19
                have Q7 : (((rd_T86 y149 x28_2).f0).toList != ((rd_T86 l0 x15_1).f0).toList) = false := bne_eq_false_iff_eq.mpr c19
                clear c19
                obtain rfl := Option.some.inj H
                have p153 : 0 ≤ (x28_2 : Int) := of_decide_eq_true (by first | (with_reducible assumption) | assumption)
                have q153 : x28_2 < (y149.length : Int) := of_decide_eq_true (by first | (with_reducible assumption) | assumption)
                obtain ⟨ad153, e153, q5, q6⟩ := at_T86 j9.out x28_2 p153 q153
                obtain rfl : ad146 = ad153 := (by injection e153)
                replace q5 := (HB.out.cell (World.block_lt_of_cell? w _ q5)).trans q5
                replace q6 := (HB.out.cell (World.block_lt_of_cell? w _ q6)).trans q6
                replace p153 := eq_true p153
                replace q153 := eq_true q153
                go_wp2_with (first | ((with_reducible refine gate_dst (N := 6) rfl ?_); refine bx 6 #[.string (⟨#[]⟩ : ByteArray), .int .i64 0] 86 ?_; intro q8 hg w20 hbox hb; have j4 := Qaa.mk (hbox); have Q8 := Qaa.mk ((by rw [hg]; exact (below_size (bl HB)) : w.heap.size ≤ q8)); have Q9 := Qaa.mk ((by rw [hg]; exact (below_size (bl HB)) : w.heap.size ≤ q8)); have q7 := Qaa.mk ((by rw [hg]; exact Nat.ne_of_lt (blk_lt (Ub q0)) : q2 ≠ q8)); have q9 := Qaa.mk ((by rw [hg]; exact Nat.ne_of_gt (blk_lt (Ub q0)) : q8 ≠ q2)); replace q0 := Bb q0 hb; replace HB := bs HB hb; clear hb hbox hg; have Z9 := q9.out; have Za := q7.out; obtain ⟨Qd, Qe, Qf, Qg⟩ := cf2 j4; obtain ⟨Qh, Qi, Qj, Qk⟩ := cf2 q0))
                go_ret
                exact ⟨by first | rfl | (simp [errW_none, errW_some] <;> rfl) | (simp [*, errW_none, errW_some] <;> rfl), bl HB⟩
               ·
                rw [if_neg c19] at H
                have Q6 : (((rd_T86 y149 x28_2).f0).toList == ((rd_T86 l0 x15_1).f0).toList) = false := beq_eq_false_iff_ne.mpr c19
                have Q7 : (((rd_T86 y149 x28_2).f0).toList != ((rd_T86 l0 x15_1).f0).toList) = true := bne_iff_ne.mpr c19
                have H' := Qaa.mk H
                clear H
                have p153 : 0 ≤ (x28_2 : Int) := of_decide_eq_true (by first | (with_reducible assumption) | assumption)
                have q153 : x28_2 < (y149.length : Int) := of_decide_eq_true (by first | (with_reducible assumption) | assumption)
                obtain ⟨ad153, e153, q5, q6⟩ := at_T86 j9.out x28_2 p153 q153
                obtain rfl : ad146 = ad153 := (by injection e153)
                replace q5 := (HB.out.cell (World.block_lt_of_cell? w _ q5)).trans q5
                replace q6 := (HB.out.cell (World.block_lt_of_cell? w _ q6)).trans q6
                replace p153 := eq_true p153
                replace q153 := eq_true q153
                go_wp2_with (first | ((with_reducible refine gate_dst (N := 6) rfl ?_); refine bx 6 #[.string (⟨#[]⟩ : ByteArray), .int .i64 0] 86 ?_; intro q8 hg w24 hbox hb; have j4 := Qaa.mk (hbox); have Q8 := Qaa.mk ((by rw [hg]; exact (below_size (bl HB)) : w.heap.size ≤ q8)); have Q9 := Qaa.mk ((by rw [hg]; exact (below_size (bl HB)) : w.heap.size ≤ q8)); have q7 := Qaa.mk ((by rw [hg]; exact Nat.ne_of_lt (blk_lt (Ub q0)) : q2 ≠ q8)); have q9 := Qaa.mk ((by rw [hg]; exact Nat.ne_of_gt (blk_lt (Ub q0)) : q8 ≠ q2)); replace q0 := Bb q0 hb; replace HB := bs HB hb; clear hb hbox hg; have Zb := q9.out; have Zc := q7.out; obtain ⟨Ql, Qm, Qn, Qo⟩ := cf2 j4; obtain ⟨Qp, Qq, Qr, Qs⟩ := cf2 q0))
                go_roundg k2
                case measure => have := HK1.out; have := HK2.out; omega
                case rel => exact ⟨(wrap64 (x28_2 + 1)), (by first | rfl | (simp; done) | (simp [*]; done)), H', ⟨by have := HK1.out; have := HK2.out; omega⟩, ⟨by apply blk_u; refine blk_far ?_ q7.out _; apply blk_u; refine blk_far ?_ q7.out _; apply blk_u; exact q0.out⟩, ⟨bl HB⟩⟩
              ·
               rw [if_neg c18] at H
               exact absurd H (by simp)
             ·
              rw [if_neg c17] at H
              exact absurd H (by simp)
            ·
             rw [if_neg c16] at H
             have Q5 : decide (x28_2 < (y149.length : Int)) = false := decide_eq_false c16
             clear c16
             replace H := Option.bind_eq_some_iff.mp H
             obtain ⟨j3, Q0, H⟩ := H
             replace H : (if j3 = true then (Qad.l0 k2 l0 l0 (l0.length : Int) (wrap64 (x15_1 + 1))) else (some 4)) = some r := H
             have A28 := Qaa.mk Q0
             clear Q0
             by_cases c29 : j3 = true
             ·
              subst c29
              have H1 : (Qad.l0 k2 l0 l0 (l0.length : Int) (wrap64 (x15_1 + 1))) = some r := by rw [if_pos rfl] at H; exact H
              clear H
              have H := H1
              clear H1
              have H' := Qaa.mk H
              clear H
              obtain ⟨Qt, Qu, Qv, Qw⟩ := cf2 q0
              go_wp2_with (first | ((with_reducible refine gate_callee (f := 25) rfl ?_); refine gL (some 40) Try.func25 #[.int .i64 ((rd_T86 l0 x15_1).f1), .int .i64 1, .int .i64 3] ?_; (with_reducible refine (Qau.calls ((rd_T86 l0 x15_1).f1) 1 3 true _ A28.out).mono ?_); rintro e w' ⟨rfl, ⟨nd, rfl⟩⟩; refine ⟨_, rfl, ?_⟩))
              go_roundg k2
              case measure => have := HK1.out; have := HK2.out; omega
              case rel => exact ⟨(wrap64 (x15_1 + 1)), (by first | rfl | (simp; done) | (simp [*]; done)), H', ⟨by have := HK1.out; have := HK2.out; omega⟩, ⟨bl HB⟩⟩
             ·
              replace c29 := Bool.eq_false_iff.mpr c29
              subst c29
              have H1 : (some 4) = some r := by rw [if_neg (show ¬ (false = true) by decide)] at H; exact H
              clear H
              have H := H1
              clear H1
              obtain rfl := Option.some.inj H
              obtain ⟨Qx, Qy, Qz, Z0⟩ := cf2 q0
              go_wp2_with (first | ((with_reducible refine gate_callee (f := 25) rfl ?_); refine gL (some 40) Try.func25 #[.int .i64 ((rd_T86 l0 x15_1).f1), .int .i64 1, .int .i64 3] ?_; (with_reducible refine (Qau.calls ((rd_T86 l0 x15_1).f1) 1 3 false _ A28.out).mono ?_); rintro e w' ⟨rfl, ⟨nd, rfl⟩⟩; refine ⟨_, rfl, ?_⟩))
              go_ret
              exact ⟨by first | rfl | (simp [errW_none, errW_some] <;> rfl) | (simp [*, errW_none, errW_some] <;> rfl), bl HB⟩
         ·
          rw [if_neg c10] at H
          exact absurd H (by simp)
        ·
         replace c8 := Bool.eq_false_iff.mpr c8
         subst c8
         have H1 : (some 5) = some r := by rw [if_neg (show ¬ (false = true) by decide)] at H; exact H
         clear H
         have H := H1
         clear H1
         obtain rfl := Option.some.inj H
         have p146 : 0 ≤ (x15_1 : Int) := of_decide_eq_true (by first | (with_reducible assumption) | assumption)
         have q146 : x15_1 < (l0.length : Int) := of_decide_eq_true (by first | (with_reducible assumption) | assumption)
         obtain ⟨ad146, e146, q3, q4⟩ := at_T86 z8.out x15_1 p146 q146
         cases e146
         replace q3 := (HB.out.cell (World.block_lt_of_cell? w _ q3)).trans q3
         replace q4 := (HB.out.cell (World.block_lt_of_cell? w _ q4)).trans q4
         replace p146 := eq_true p146
         replace q146 := eq_true q146
         go_wp2_with (first | ((with_reducible refine gate_dst (N := 4) rfl ?_); refine bx 4 #[.string (⟨#[]⟩ : ByteArray), .int .i64 0] 86 ?_; intro q2 hg w32 hbox hb; have q0 := Qaa.mk (hbox); have Q3 := Qaa.mk ((by rw [hg]; exact (below_size (bl HB)) : w.heap.size ≤ q2)); have Q4 := Qaa.mk ((by rw [hg]; exact (below_size (bl HB)) : w.heap.size ≤ q2)); replace HB := bs HB hb; clear hb hbox hg; obtain ⟨Z1, Z2, Z3, Z4⟩ := cf2 q0) | ((with_reducible refine gate_callee (f := 68) rfl ?_); refine gL (some 22) Try.func68 #[.string ((rd_T86 l0 x15_1).f0)] ?_; (with_reducible refine (Qan.calls k1 ((rd_T86 l0 x15_1).f0) false _ A7.out).mono ?_); rintro e w' ⟨rfl, ⟨nd, rfl⟩⟩; refine ⟨_, rfl, ?_⟩))
         go_ret
         exact ⟨by first | rfl | (simp [errW_none, errW_some] <;> rfl) | (simp [*, errW_none, errW_some] <;> rfl), bl HB⟩
       ·
        rw [if_neg c6] at H
        exact absurd H (by simp)
      ·
       rw [if_neg c5] at H
       exact absurd H (by simp)
     ·
      rw [if_neg c4] at H
      have y9 : decide (x15_1 < (l0.length : Int)) = false := decide_eq_false c4
      clear c4
      obtain rfl := Option.some.inj H
      go_wp2
      go_ret
      exact ⟨by first | rfl | (simp [errW_none, errW_some] <;> rfl) | (simp [*, errW_none, errW_some] <;> rfl), bl HB⟩
end Go.Proofs.Ytphnmaobpefoiaa.XW
end
section
namespace Go.Proofs.Ytphnmaobpefoiaa.XW
open Go.RowKit Go.Proofs.YtphnmaobpefoiaaXW Go.Proofs.YtphnmaobpefoiaaW.PrintWords Go.Proofs.YtphnmaobpefoiaaW.PrintLast Go.Proofs.YtphnmaobpefoiaaW.PrintMore
attribute [local go_sem] max2_int min2_int max_two min_two max_three min_three max_four min_four sleq
set_option linter.unusedVariables false
set_option linter.unusedSimpArgs false
mutual
def Qac.l0 : Nat → List (S39) → Int → Int → Int → List (S39) → Bool → List Int → Option (Int)
 | 0, _, _, _, _, _, _, _ => none
 | k + 1, x21, x22, x23, q9, j9, j2, q7 => if x23 < x22 then (if 0 ≤ x23 then (if x23 < (x21.length : Int) then ((Qaf.f k ((rd_T39 x21 x23).f0) ((rd_T39 x21 x23).f1) ((rd_T39 x21 x23).f2) ((rd_T39 x21 x23).f3) ((rd_T39 x21 x23).f4) ((rd_T39 x21 x23).f5) q9).bind fun z1 => (if z1 = 0 then (Qac.l0 k x21 x22 (wrap64 (x23 + 1)) q9 j9 j2 q7) else (some z1))) else (none)) else (none)) else (if j2 = true then (Qac.j1 k (decide ((q7.length : Int) > 0)) q9 j9 j2 q7) else (Qac.j1 k false q9 j9 j2 q7))
def Qac.j1 : Nat → Bool → Int → List (S39) → Bool → List Int → Option (Int)
 | 0, _, _, _, _, _ => none
 | k + 1, x42, q9, j9, j2, q7 => if x42 = true then (some 3) else (Qac.l1 k q7 (q7.length : Int) 0 q9 j9 j2 q7)
def Qac.l1 : Nat → List Int → Int → Int → Int → List (S39) → Bool → List Int → Option (Int)
 | 0, _, _, _, _, _, _, _ => none
 | k + 1, x44, x45, x46, q9, j9, j2, q7 => if x46 < x45 then (if 0 ≤ x46 then (if x46 < (x44.length : Int) then ((Qau.f (rd x44 x46) 0 (wrap64 (q9 - 1))).bind fun Js => (if Js = true then (if x46 > 0 then (if 0 ≤ (wrap64 (x46 - 1)) then (if (wrap64 (x46 - 1)) < (q7.length : Int) then (if (rd x44 x46) ≤ (rd q7 (wrap64 (x46 - 1))) then (some 8) else (Qac.l1 k x44 x45 (wrap64 (x46 + 1)) q9 j9 j2 q7)) else (none)) else (none)) else (Qac.l1 k x44 x45 (wrap64 (x46 + 1)) q9 j9 j2 q7)) else (some 1))) else (none)) else (none)) else (some 0)
end
def Qac.f (k : Nat) (q3 : Int) (q0 : List (S39)) (q6 : Bool) (q2 : List Int) : Option (Int) := (Qau.f q3 0 1000).bind fun y9 => (if y9 = true then (if (q0.length : Int) > 20 then (some 2) else (if (q0.length : Int) = 0 then (some 6) else (Qac.l0 k q0 (q0.length : Int) 0 q3 q0 q6 q2))) else (some 1))
theorem Qac.mono_l : ∀ k, (∀ y0 y1 y2 y3 y4 y5 y6, LeO (Qac.l0 k y0 y1 y2 y3 y4 y5 y6) (Qac.l0 (k + 1) y0 y1 y2 y3 y4 y5 y6)) ∧ (∀ y0 y1 y2 y3 y4, LeO (Qac.j1 k y0 y1 y2 y3 y4) (Qac.j1 (k + 1) y0 y1 y2 y3 y4)) ∧ (∀ y0 y1 y2 y3 y4 y5 y6, LeO (Qac.l1 k y0 y1 y2 y3 y4 y5 y6) (Qac.l1 (k + 1) y0 y1 y2 y3 y4 y5 y6))
 | 0 => ⟨fun _ _ _ _ _ _ _ r h => by simp [Qac.l0] at h, fun _ _ _ _ _ r h => by simp [Qac.j1] at h, fun _ _ _ _ _ _ _ r h => by simp [Qac.l1] at h⟩
 | k + 1 => by
  obtain ⟨ih0, ih1, ih2⟩ := Qac.mono_l k
  refine ⟨?_, ?_, ?_⟩
  ·
   intro y0 y1 y2 y3 y4 y5 y6
   unfold Qac.l0
   repeat' first
   | (with_reducible exact ih0 _ _ _ _ _ _ _)
   | (with_reducible exact ih1 _ _ _ _ _)
   | (with_reducible exact ih2 _ _ _ _ _ _ _)
   | (with_reducible exact Qaf.mono _ _ _ _ _ _ _ _)
   | (with_reducible exact LeO.refl _)
   | (with_reducible exact LeO.none _)
   | (with_reducible refine LeO.ite ?_ ?_)
   | (with_reducible refine LeO.bind ?_ (fun _ => ?_))
   | exact ih0 _ _ _ _ _ _ _
   | exact ih1 _ _ _ _ _
   | exact ih2 _ _ _ _ _ _ _
   | exact Qaf.mono _ _ _ _ _ _ _ _
   | exact LeO.none _
   | refine LeO.ite ?_ ?_
   | refine LeO.bind ?_ (fun _ => ?_)
  ·
   intro y0 y1 y2 y3 y4
   unfold Qac.j1
   repeat' first
   | (with_reducible exact ih0 _ _ _ _ _ _ _)
   | (with_reducible exact ih1 _ _ _ _ _)
   | (with_reducible exact ih2 _ _ _ _ _ _ _)
   | (with_reducible exact Qaf.mono _ _ _ _ _ _ _ _)
   | (with_reducible exact LeO.refl _)
   | (with_reducible exact LeO.none _)
   | (with_reducible refine LeO.ite ?_ ?_)
   | (with_reducible refine LeO.bind ?_ (fun _ => ?_))
   | exact ih0 _ _ _ _ _ _ _
   | exact ih1 _ _ _ _ _
   | exact ih2 _ _ _ _ _ _ _
   | exact Qaf.mono _ _ _ _ _ _ _ _
   | exact LeO.none _
   | refine LeO.ite ?_ ?_
   | refine LeO.bind ?_ (fun _ => ?_)
  ·
   intro y0 y1 y2 y3 y4 y5 y6
   unfold Qac.l1
   repeat' first
   | (with_reducible exact ih0 _ _ _ _ _ _ _)
   | (with_reducible exact ih1 _ _ _ _ _)
   | (with_reducible exact ih2 _ _ _ _ _ _ _)
   | (with_reducible exact Qaf.mono _ _ _ _ _ _ _ _)
   | (with_reducible exact LeO.refl _)
   | (with_reducible exact LeO.none _)
   | (with_reducible refine LeO.ite ?_ ?_)
   | (with_reducible refine LeO.bind ?_ (fun _ => ?_))
   | exact ih0 _ _ _ _ _ _ _
   | exact ih1 _ _ _ _ _
   | exact ih2 _ _ _ _ _ _ _
   | exact Qaf.mono _ _ _ _ _ _ _ _
   | exact LeO.none _
   | refine LeO.ite ?_ ?_
   | refine LeO.bind ?_ (fun _ => ?_)
theorem Qac.mono : ∀ a0 a1 a2 a3 k, LeO (Qac.f k a0 a1 a2 a3) (Qac.f (k + 1) a0 a1 a2 a3) := by
 intro a0 a1 a2 a3 k
 obtain ⟨ih0, ih1, ih2⟩ := Qac.mono_l k
 unfold Qac.f
 repeat' first
   | (with_reducible exact ih0 _ _ _ _ _ _ _)
   | (with_reducible exact ih1 _ _ _ _ _)
   | (with_reducible exact ih2 _ _ _ _ _ _ _)
   | (with_reducible exact Qaf.mono _ _ _ _ _ _ _ _)
   | (with_reducible exact LeO.refl _)
   | (with_reducible exact LeO.none _)
   | (with_reducible refine LeO.ite ?_ ?_)
   | (with_reducible refine LeO.bind ?_ (fun _ => ?_))
   | exact ih0 _ _ _ _ _ _ _
   | exact ih1 _ _ _ _ _
   | exact ih2 _ _ _ _ _ _ _
   | exact Qaf.mono _ _ _ _ _ _ _ _
   | exact LeO.none _
   | refine LeO.ite ?_ ?_
   | refine LeO.bind ?_ (fun _ => ?_)
set_option maxHeartbeats 8000000 in
set_option maxRecDepth 100000 in
theorem Qac.calls (k : Nat) (q3 : Int) (z3 : Option Addr) (z4 : Nat) (q0 : List (S39)) (q6 : Bool) (z5 : Option Addr) (z6 : Nat) (q2 : List Int) (r : Int) (w : World) (Y4 : Kd.C k39 w z3 q0.length q0) (Y5 : q0.length ≤ z4) (Y6 : Kd.C (Kd.int .i64) w z5 q2.length q2) (Y7 : q2.length ≤ z6) (h : Qac.f k q3 q0 q6 q2 = some r) :
  Calls Try.prog 34 #[.agg #[.int .i64 q3, .slice z3 q0.length z4, .bool q6, .slice z5 q2.length z6]] w fun e w' => e = .returned (.int .i64 r) ∧ Below w.heap.size w w' := by
 have hu26 := Try.underlying26
 have hu39 := Try.underlying39
 have Y8 := Qaa.mk Y4
 have Xu := Qaa.mk Y5
 clear Y4 Y5
 have y7 := Qaa.mk Y6
 have Xv := Qaa.mk Y7
 clear Y6 Y7
 have HB := Qaa.mk (Below.refl w.heap.size w)
 have H : ((Qau.f q3 0 1000).bind fun y9 => (if y9 = true then (if (q0.length : Int) > 20 then (some 2) else (if (q0.length : Int) = 0 then (some 6) else (Qac.l0 k q0 (q0.length : Int) 0 q3 q0 q6 q2))) else (some 1))) = some r := h
 clear h
 replace H := Option.bind_eq_some_iff.mp H
 obtain ⟨y9, A20, H⟩ := H
 replace H : (if y9 = true then (if (q0.length : Int) > 20 then (some 2) else (if (q0.length : Int) = 0 then (some 6) else (Qac.l0 k q0 (q0.length : Int) 0 q3 q0 q6 q2))) else (some 1)) = some r := H
 have A2 := Qaa.mk A20
 clear A20
 by_cases c3 : y9 = true
 ·
  subst c3
  have H1 : (if (q0.length : Int) > 20 then (some 2) else (if (q0.length : Int) = 0 then (some 6) else (Qac.l0 k q0 (q0.length : Int) 0 q3 q0 q6 q2))) = some r := by rw [if_pos rfl] at H; exact H
  clear H
  have H := H1
  clear H1
  by_cases c4 : (q0.length : Int) > 20
  ·
   rw [if_pos c4] at H
   have Jt : decide (20 < (q0.length : Int)) = true := decide_eq_true c4
   have Ju : decide (20 < q0.length) = true := decide_eq_true (by omega)
   clear c4
   obtain rfl := Option.some.inj H
   go_enter Try.func34, Try.ntmps34
   go_wp2_with (first | ((with_reducible refine gate_dst (N := 1) rfl ?_); (try (refine gate_guard (by rfl) ?_; dsimp only)); refine bx 1 #[.int .i64 q3, .slice z3 q0.length z4, .bool q6, .slice z5 q2.length z6] 26 ?_; intro q8 hg w5 hbox hb; have q4 := Qaa.mk (hbox); have Jv := Qaa.mk ((by rw [hg]; exact (below_size (bl HB)) : w.heap.size ≤ q8)); have Jw := Qaa.mk ((by rw [hg]; exact (below_size (bl HB)) : w.heap.size ≤ q8)); replace HB := bs HB hb; clear hb hbox hg; obtain ⟨Qi, Qj, Qk, Ql, Qm, Qn, Qo, Qp⟩ := cf4 q4) | ((with_reducible refine gate_callee (f := 25) rfl ?_); refine gL (some 10) Try.func25 #[.int .i64 q3, .int .i64 0, .int .i64 1000] ?_; (with_reducible refine (Qau.calls q3 0 1000 true _ A2.out).mono ?_); rintro e w' ⟨rfl, ⟨nd, rfl⟩⟩; refine ⟨_, rfl, ?_⟩))
   go_ret
   exact ⟨by first | rfl | (simp [errW_none, errW_some] <;> rfl) | (simp [*, errW_none, errW_some] <;> rfl), bl HB⟩
  ·
   rw [if_neg c4] at H
   have Jt : decide (20 < (q0.length : Int)) = false := decide_eq_false c4
   have Ju : decide (20 < q0.length) = false := decide_eq_false (by omega)
   clear c4
   by_cases c7 : (q0.length : Int) = 0
   ·
    rw [if_pos c7] at H
    have Jx : ((q0.length : Int) == 0) = true := beq_iff_eq.mpr c7
    have Jy : ((q0.length : Int) != 0) = false := bne_eq_false_iff_eq.mpr c7
    clear c7
    obtain rfl := Option.some.inj H
    go_enter Try.func34, Try.ntmps34
    go_wp2_with (first | ((with_reducible refine gate_dst (N := 1) rfl ?_); (try (refine gate_guard (by rfl) ?_; dsimp only)); refine bx 1 #[.int .i64 q3, .slice z3 q0.length z4, .bool q6, .slice z5 q2.length z6] 26 ?_; intro q8 hg w8 hbox hb; have q4 := Qaa.mk (hbox); have Jv := Qaa.mk ((by rw [hg]; exact (below_size (bl HB)) : w.heap.size ≤ q8)); have Jw := Qaa.mk ((by rw [hg]; exact (below_size (bl HB)) : w.heap.size ≤ q8)); replace HB := bs HB hb; clear hb hbox hg; obtain ⟨Qq, Qr, Qs, Qt, Qu, Qv, Qw, Qx⟩ := cf4 q4) | ((with_reducible refine gate_callee (f := 25) rfl ?_); refine gL (some 10) Try.func25 #[.int .i64 q3, .int .i64 0, .int .i64 1000] ?_; (with_reducible refine (Qau.calls q3 0 1000 true _ A2.out).mono ?_); rintro e w' ⟨rfl, ⟨nd, rfl⟩⟩; refine ⟨_, rfl, ?_⟩))
    go_ret
    exact ⟨by first | rfl | (simp [errW_none, errW_some] <;> rfl) | (simp [*, errW_none, errW_some] <;> rfl), bl HB⟩
   ·
    rw [if_neg c7] at H
    have Jx : ((q0.length : Int) == 0) = false := beq_eq_false_iff_ne.mpr c7
    have Jy : ((q0.length : Int) != 0) = true := bne_iff_ne.mpr c7
    have Y2 : ¬ (q0 = []) := fun h_ => c7 (by rw [h_]; rfl)
    have H' := Qaa.mk H
    clear H
    go_enter Try.func34, Try.ntmps34
    go_wp2_with (first | ((with_reducible refine gate_dst (N := 1) rfl ?_); (try (refine gate_guard (by rfl) ?_; dsimp only)); refine bx 1 #[.int .i64 q3, .slice z3 q0.length z4, .bool q6, .slice z5 q2.length z6] 26 ?_; intro q8 hg w10 hbox hb; have q4 := Qaa.mk (hbox); have Jv := Qaa.mk ((by rw [hg]; exact (below_size (bl HB)) : w.heap.size ≤ q8)); have Jw := Qaa.mk ((by rw [hg]; exact (below_size (bl HB)) : w.heap.size ≤ q8)); replace HB := bs HB hb; clear hb hbox hg; obtain ⟨Q0, Q1, Q2, Q3, Q4, Q5, Q6, Q7⟩ := cf4 q4) | ((with_reducible refine gate_callee (f := 25) rfl ?_); refine gL (some 10) Try.func25 #[.int .i64 q3, .int .i64 0, .int .i64 1000] ?_; (with_reducible refine (Qau.calls q3 0 1000 true _ A2.out).mono ?_); rintro e w' ⟨rfl, ⟨nd, rfl⟩⟩; refine ⟨_, rfl, ?_⟩))
    go_loopg [23] k (fun kq v23 w' => ∃ (x23_1 : Int), v23 = .int .i64 x23_1 ∧ Qaa (Qac.l0 kq q0 (q0.length : Int) x23_1 q3 q0 q6 q2 = some r) ∧ Qaa (kq ≤ k) ∧ Qaa (w'.heap[q8]? = some (.cells #[.int .i64 q3, (.slice z3 q0.length z4), .bool q6, (.slice z5 q2.length z6)] 26 (0, 0))) ∧ Qaa (Below w.heap.size w w'))
    case atStart => exact ⟨(0), (by first | rfl | (simp; done) | (simp [*]; done)), H', ⟨Nat.le_refl _⟩, ⟨by apply blk_u; exact q4.out⟩, ⟨bl HB⟩⟩
    case round =>
     clear H'
     try clear c2
     try clear p2
     try clear c3
     try clear c4
     try clear Jt
     try clear Ju
     try clear c7
     try clear Jx
     try clear Jy
     try clear Y2
     try clear Q0
     try clear Q1
     try clear Q2
     try clear Q3
     try clear Qi
     try clear Qj
     try clear Qk
     try clear Ql
     try clear Qq
     try clear Qr
     try clear Qs
     try clear Qt
     try clear Q4
     try clear Q5
     try clear Q6
     try clear Q7
     try clear Qm
     try clear Qn
     try clear Qo
     try clear Qp
     try clear Qu
     try clear Qv
     try clear Qw
     try clear Qx
     obtain ⟨x23_1, rfl, HA, HK1, q4, HB⟩ := hrel
     cases gk with
     | zero => exact absurd HA.out (by simp [Qac.l0])
     | succ k1 =>
      have H := HA.out
      clear HA
      simp only [Qac.l0] at H
      by_cases c12 : x23_1 < (q0.length : Int)
      ·
       rw [if_pos c12] at H
       have Jz : decide (x23_1 < (q0.length : Int)) = true := decide_eq_true c12
       clear c12
       by_cases c13 : 0 ≤ x23_1
       ·
        rw [if_pos c13] at H
        have Y9 : decide (0 ≤ x23_1) = true := decide_eq_true c13
        clear c13
        by_cases c14 : x23_1 < (q0.length : Int)
        ·
         rw [if_pos c14] at H
         have Ya : decide (x23_1 < (q0.length : Int)) = true := decide_eq_true c14
         clear c14
         replace H := Option.bind_eq_some_iff.mp H
         obtain ⟨z1, Yj, H⟩ := H
         replace H : (if z1 = 0 then (Qac.l0 k1 q0 (q0.length : Int) (wrap64 (x23_1 + 1)) q3 q0 q6 q2) else (some z1)) = some r := H
         have A15 := Qaa.mk Yj
         clear Yj
         by_cases c16 : z1 = 0
         ·
          rw [if_pos c16] at H
          have Y0 : (z1 == 0) = true := beq_iff_eq.mpr c16
          have Y1 : (z1 != 0) = false := bne_eq_false_iff_eq.mpr c16
          clear c16
          have H' := Qaa.mk H
          clear H
          have p140 : 0 ≤ (x23_1 : Int) := of_decide_eq_true (by first | (with_reducible assumption) | assumption)
          have q140 : x23_1 < (q0.length : Int) := of_decide_eq_true (by first | (with_reducible assumption) | assumption)
          obtain ⟨ad140, Qy, Qz, Z0, Z1, Z2, Z3, Z4, Z5, Z6, Z7, e140, j3, j4, j5, j6, j7, j8, hl140_1, hi140_1, hl140_2, hi140_2, hl140_3, hi140_3, hl140_4, hi140_4, hl140_5, hi140_5⟩ := at_T39 Y8.out x23_1 p140 q140
          cases e140
          replace j3 := (HB.out.cell (World.block_lt_of_cell? w _ j3)).trans j3
          replace j4 := (HB.out.cell (World.block_lt_of_cell? w _ j4)).trans j4
          replace j5 := (HB.out.cell (World.block_lt_of_cell? w _ j5)).trans j5
          replace j6 := (HB.out.cell (World.block_lt_of_cell? w _ j6)).trans j6
          replace j7 := (HB.out.cell (World.block_lt_of_cell? w _ j7)).trans j7
          replace j8 := (HB.out.cell (World.block_lt_of_cell? w _ j8)).trans j8
          have Q8 := Qaa.mk hi140_1
          have Q9 := Qaa.mk hl140_1
          clear hi140_1 hl140_1
          have Qa := Qaa.mk hi140_2
          have Qb := Qaa.mk hl140_2
          clear hi140_2 hl140_2
          have Qc := Qaa.mk hi140_3
          have Qd := Qaa.mk hl140_3
          clear hi140_3 hl140_3
          have Qe := Qaa.mk hi140_4
          have Qf := Qaa.mk hl140_4
          clear hi140_4 hl140_4
          have Qg := Qaa.mk hi140_5
          have Qh := Qaa.mk hl140_5
          clear hi140_5 hl140_5
          replace p140 := eq_true p140
          replace q140 := eq_true q140
          go_wp2_with (first | ((with_reducible refine gate_dst (N := 4) rfl ?_); (try (refine gate_guard (by rfl) ?_; dsimp only)); refine bx 4 #[.int .i64 0, .slice none 0 0, .slice none 0 0, .slice none 0 0, .slice none 0 0, .slice none 0 0] 39 ?_; intro z2 hg w17 hbox hb; have z7 := Qaa.mk (hbox); have Yl := Qaa.mk ((by rw [hg]; exact (below_size (bl HB)) : w.heap.size ≤ z2)); have Ym := Qaa.mk ((by rw [hg]; exact (below_size (bl HB)) : w.heap.size ≤ z2)); have z8 := Qaa.mk ((by rw [hg]; exact Nat.ne_of_lt (blk_lt (Ub q4)) : q8 ≠ z2)); have z9 := Qaa.mk ((by rw [hg]; exact Nat.ne_of_gt (blk_lt (Ub q4)) : z2 ≠ q8)); replace q4 := Bb q4 hb; replace HB := bs HB hb; clear hb hbox hg; have Xw := z9.out; have Xx := z8.out; obtain ⟨Z8, Z9, Za, Zb, Zc, Zd, Ze, Zf, Zg, Zh, Zi, Zj⟩ := cf6 z7; obtain ⟨Zk, Zl, Zm, Zn, Zo, Zp, Zq, Zr⟩ := cf4 q4) | ((with_reducible refine gate_callee (f := 23) rfl ?_); refine gL (some 30) Try.func23 #[.agg #[.int .i64 ((rd_T39 q0 x23_1).f0), .slice Qy ((rd_T39 q0 x23_1).f1).length Qz, .slice Z0 ((rd_T39 q0 x23_1).f2).length Z1, .slice Z2 ((rd_T39 q0 x23_1).f3).length Z3, .slice Z4 ((rd_T39 q0 x23_1).f4).length Z5, .slice Z6 ((rd_T39 q0 x23_1).f5).length Z7], .int .i64 q3] ?_; (with_reducible refine (Qaf.calls k1 ((rd_T39 q0 x23_1).f0) _ _ ((rd_T39 q0 x23_1).f1) _ _ ((rd_T39 q0 x23_1).f2) _ _ ((rd_T39 q0 x23_1).f3) _ _ ((rd_T39 q0 x23_1).f4) _ _ ((rd_T39 q0 x23_1).f5) q3 z1 _ ?side1 ?side2 ?side3 ?side4 ?side5 ?side6 ?side7 ?side8 ?side9 ?side10 A15.out).mono ?_); (case side1 => exact Kd.C_below Q8.out (bl HB)); (case side2 => exact Q9.out); (case side3 => exact Kd.C_below Qa.out (bl HB)); (case side4 => exact Qb.out); (case side5 => exact Kd.C_below Qc.out (bl HB)); (case side6 => exact Qd.out); (case side7 => exact Kd.C_below Qe.out (bl HB)); (case side8 => exact Qf.out); (case side9 => exact Kd.C_below Qg.out (bl HB)); (case side10 => exact Qh.out); rintro e w21 ⟨rfl, hb⟩; refine ⟨_, rfl, ?_⟩; replace q4 := Bb q4 hb; replace z7 := Qaa.mk (blk_below (Uf6 z7) hb); replace HB := bs HB hb; (try clear hb)))
          go_roundg k1
          case measure => have := HK1.out; omega
          case rel => exact ⟨(wrap64 (x23_1 + 1)), (by first | rfl | (simp; done) | (simp [*]; done)), H', ⟨by have := HK1.out; omega⟩, ⟨by apply blk_u; exact q4.out⟩, ⟨bl HB⟩⟩
         ·
          rw [if_neg c16] at H
          have Y0 : (z1 == 0) = false := beq_eq_false_iff_ne.mpr c16
          have Y1 : (z1 != 0) = true := bne_iff_ne.mpr c16
          obtain rfl := Option.some.inj H
          have p140 : 0 ≤ (x23_1 : Int) := of_decide_eq_true (by first | (with_reducible assumption) | assumption)
          have q140 : x23_1 < (q0.length : Int) := of_decide_eq_true (by first | (with_reducible assumption) | assumption)
          obtain ⟨ad140, Qy, Qz, Z0, Z1, Z2, Z3, Z4, Z5, Z6, Z7, e140, j3, j4, j5, j6, j7, j8, hl140_1, hi140_1, hl140_2, hi140_2, hl140_3, hi140_3, hl140_4, hi140_4, hl140_5, hi140_5⟩ := at_T39 Y8.out x23_1 p140 q140
          cases e140
          replace j3 := (HB.out.cell (World.block_lt_of_cell? w _ j3)).trans j3
          replace j4 := (HB.out.cell (World.block_lt_of_cell? w _ j4)).trans j4
          replace j5 := (HB.out.cell (World.block_lt_of_cell? w _ j5)).trans j5
          replace j6 := (HB.out.cell (World.block_lt_of_cell? w _ j6)).trans j6
          replace j7 := (HB.out.cell (World.block_lt_of_cell? w _ j7)).trans j7
          replace j8 := (HB.out.cell (World.block_lt_of_cell? w _ j8)).trans j8
          have Q8 := Qaa.mk hi140_1
          have Q9 := Qaa.mk hl140_1
          clear hi140_1 hl140_1
          have Qa := Qaa.mk hi140_2
          have Qb := Qaa.mk hl140_2
          clear hi140_2 hl140_2
          have Qc := Qaa.mk hi140_3
          have Qd := Qaa.mk hl140_3
          clear hi140_3 hl140_3
          have Qe := Qaa.mk hi140_4
          have Qf := Qaa.mk hl140_4
          clear hi140_4 hl140_4
          have Qg := Qaa.mk hi140_5
          have Qh := Qaa.mk hl140_5
          clear hi140_5 hl140_5
          replace p140 := eq_true p140
          replace q140 := eq_true q140
          go_wp2_with (first | ((with_reducible refine gate_dst (N := 4) rfl ?_); (try (refine gate_guard (by rfl) ?_; dsimp only)); refine bx 4 #[.int .i64 0, .slice none 0 0, .slice none 0 0, .slice none 0 0, .slice none 0 0, .slice none 0 0] 39 ?_; intro z2 hg w22 hbox hb; have z7 := Qaa.mk (hbox); have Yl := Qaa.mk ((by rw [hg]; exact (below_size (bl HB)) : w.heap.size ≤ z2)); have Ym := Qaa.mk ((by rw [hg]; exact (below_size (bl HB)) : w.heap.size ≤ z2)); have z8 := Qaa.mk ((by rw [hg]; exact Nat.ne_of_lt (blk_lt (Ub q4)) : q8 ≠ z2)); have z9 := Qaa.mk ((by rw [hg]; exact Nat.ne_of_gt (blk_lt (Ub q4)) : z2 ≠ q8)); replace q4 := Bb q4 hb; replace HB := bs HB hb; clear hb hbox hg; have Xy := z9.out; have Xz := z8.out; obtain ⟨Zs, Zt, Zu, Zv, Zw, Zx, Zy, Zz, J0, J1, J2, J3⟩ := cf6 z7; obtain ⟨J4, J5, J6, J7, J8, J9, Ja, Jb⟩ := cf4 q4) | ((with_reducible refine gate_callee (f := 23) rfl ?_); refine gL (some 30) Try.func23 #[.agg #[.int .i64 ((rd_T39 q0 x23_1).f0), .slice Qy ((rd_T39 q0 x23_1).f1).length Qz, .slice Z0 ((rd_T39 q0 x23_1).f2).length Z1, .slice Z2 ((rd_T39 q0 x23_1).f3).length Z3, .slice Z4 ((rd_T39 q0 x23_1).f4).length Z5, .slice Z6 ((rd_T39 q0 x23_1).f5).length Z7], .int .i64 q3] ?_; (with_reducible refine (Qaf.calls k1 ((rd_T39 q0 x23_1).f0) _ _ ((rd_T39 q0 x23_1).f1) _ _ ((rd_T39 q0 x23_1).f2) _ _ ((rd_T39 q0 x23_1).f3) _ _ ((rd_T39 q0 x23_1).f4) _ _ ((rd_T39 q0 x23_1).f5) q3 z1 _ ?side1 ?side2 ?side3 ?side4 ?side5 ?side6 ?side7 ?side8 ?side9 ?side10 A15.out).mono ?_); (case side1 => exact Kd.C_below Q8.out (bl HB)); (case side2 => exact Q9.out); (case side3 => exact Kd.C_below Qa.out (bl HB)); (case side4 => exact Qb.out); (case side5 => exact Kd.C_below Qc.out (bl HB)); (case side6 => exact Qd.out); (case side7 => exact Kd.C_below Qe.out (bl HB)); (case side8 => exact Qf.out); (case side9 => exact Kd.C_below Qg.out (bl HB)); (case side10 => exact Qh.out); rintro e w26 ⟨rfl, hb⟩; refine ⟨_, rfl, ?_⟩; replace q4 := Bb q4 hb; replace z7 := Qaa.mk (blk_below (Uf6 z7) hb); replace HB := bs HB hb; (try clear hb)))
          go_ret
          exact ⟨by first | rfl | (simp [errW_none, errW_some] <;> rfl) | (simp [*, errW_none, errW_some] <;> rfl), bl HB⟩
        ·
         rw [if_neg c14] at H
         exact absurd H (by simp)
       ·
        rw [if_neg c13] at H
        exact absurd H (by simp)
      ·
       rw [if_neg c12] at H
       have Jz : decide (x23_1 < (q0.length : Int)) = false := decide_eq_false c12
       clear c12
       have Y3 := Qaa.mk H
       clear H
       go_upto_region 14 with (fail)
       go_cut [42] (fun v42 wc => ∃ (kq : Nat) (x42_26 : Bool), v42 = .bool x42_26 ∧ Qaa (Qac.j1 kq x42_26 q3 q0 q6 q2 = some r) ∧ Qaa (kq ≤ k1) ∧ Qaa (wc.heap[q8]? = some (.cells #[.int .i64 q3, (.slice z3 q0.length z4), .bool q6, (.slice z5 q2.length z6)] 26 (0, 0))) ∧ Qaa (Below w.heap.size w wc))
       case first =>
        have H := Y3.out
        clear Y3
        by_cases c28 : q6 = true
        ·
         subst c28
         have H1 : (Qac.j1 k1 (decide ((q2.length : Int) > 0)) q3 q0 true q2) = some r := by rw [if_pos rfl] at H; exact H
         clear H
         have H := H1
         clear H1
         have H' := Qaa.mk H
         clear H
         obtain ⟨Jc, Jd, Je, Jf, Jg, Jh, Ji, Jj⟩ := cf4 q4
         go_wp2
         go_meet
         case rel => exact ⟨_, (decide ((q2.length : Int) > 0)), (by first | rfl | (simp; done) | (simp [*]; done)), H', ⟨by have := HK1.out; first | omega | exact Nat.le_refl _⟩, ⟨by apply blk_u; exact q4.out⟩, ⟨bl HB⟩⟩
        ·
         replace c28 := Bool.eq_false_iff.mpr c28
         subst c28
         have H1 : (Qac.j1 k1 false q3 q0 false q2) = some r := by rw [if_neg (show ¬ (false = true) by decide)] at H; exact H
         clear H
         have H := H1
         clear H1
         have H' := Qaa.mk H
         clear H
         obtain ⟨Jk, Jl, Jm, Jn, Jo, Jp, Jq, Jr⟩ := cf4 q4
         go_wp2
         go_meet
         case rel => exact ⟨_, (false), (by first | rfl | (simp; done) | (simp [*]; done)), H', ⟨by have := HK1.out; first | omega | exact Nat.le_refl _⟩, ⟨by apply blk_u; exact q4.out⟩, ⟨bl HB⟩⟩
       case rest =>
        clear Y3
        try clear c1
        try clear p1
        try clear q1
        try clear hx1
        try clear c2
        try clear p2
        try clear c3
        try clear c4
        try clear Jt
        try clear Ju
        try clear p6
        try clear c7
        try clear Jx
        try clear Jy
        try clear Y2
        try clear c12
        try clear Jz
        try clear c13
        try clear Y9
        try clear c14
        try clear Ya
        try clear p14
        try clear q14
        try clear hx14
        try clear c16
        try clear Y0
        try clear Y1
        try clear c18
        try clear c23
        try clear c25
        try clear c28
        try clear Q0
        try clear Q1
        try clear Q2
        try clear Q3
        try clear Z8
        try clear Z9
        try clear Za
        try clear Zb
        try clear Zc
        try clear Zd
        try clear Zk
        try clear Zl
        try clear Zm
        try clear Zn
        try clear Zs
        try clear Zt
        try clear Zu
        try clear Zv
        try clear Zw
        try clear Zx
        try clear J4
        try clear J5
        try clear J6
        try clear J7
        try clear Jc
        try clear Jd
        try clear Je
        try clear Jf
        try clear Jk
        try clear Jl
        try clear Jm
        try clear Jn
        try clear Qi
        try clear Qj
        try clear Qk
        try clear Ql
        try clear Qq
        try clear Qr
        try clear Qs
        try clear Qt
        try clear Q4
        try clear Q5
        try clear Q6
        try clear Q7
        try clear Ze
        try clear Zf
        try clear Zg
        try clear Zh
        try clear Zi
        try clear Zj
        try clear Zo
        try clear Zp
        try clear Zq
        try clear Zr
        try clear Zy
        try clear Zz
        try clear J0
        try clear J1
        try clear J2
        try clear J3
        try clear J8
        try clear J9
        try clear Ja
        try clear Jb
        try clear Jg
        try clear Jh
        try clear Ji
        try clear Jj
        try clear Jo
        try clear Jp
        try clear Jq
        try clear Jr
        try clear Qm
        try clear Qn
        try clear Qo
        try clear Qp
        try clear Qu
        try clear Qv
        try clear Qw
        try clear Qx
        try clear j3
        try clear j4
        try clear j5
        try clear j6
        try clear j7
        try clear j8
        try clear p140
        try clear p2
        try clear q140
        obtain ⟨kq, x42_26, rfl, HA, HJ26, q4, HB⟩ := hcut
        cases kq with
        | zero => exact absurd HA.out (by simp [Qac.j1])
        | succ kj26 =>
         have H := HA.out
         clear HA
         simp only [Qac.j1] at H
         by_cases c31 : x42_26 = true
         ·
          subst c31
          have H1 : (some 3) = some r := by rw [if_pos rfl] at H; exact H
          clear H
          have H := H1
          clear H1
          obtain rfl := Option.some.inj H
          go_wp2
          go_ret
          exact ⟨by first | rfl | (simp [errW_none, errW_some] <;> rfl) | (simp [*, errW_none, errW_some] <;> rfl), bl HB⟩
         ·
          replace c31 := Bool.eq_false_iff.mpr c31
          subst c31
          have H1 : (Qac.l1 kj26 q2 (q2.length : Int) 0 q3 q0 q6 q2) = some r := by rw [if_neg (show ¬ (false = true) by decide)] at H; exact H
          clear H
          have H := H1
          clear H1
          have H' := Qaa.mk H
          clear H
          obtain ⟨Yb, Yc, Yd, Ye, Yf, Yg, Yh, Yi⟩ := cf4 q4
          go_wp2
          go_loopg [46] kj26 (fun kq v46 w' => ∃ (x46_3 : Int), v46 = .int .i64 x46_3 ∧ Qaa (Qac.l1 kq q2 (q2.length : Int) x46_3 q3 q0 q6 q2 = some r) ∧ Qaa (kq ≤ kj26) ∧ Qaa (w'.heap[q8]? = some (.cells #[.int .i64 q3, (.slice z3 q0.length z4), .bool q6, (.slice z5 q2.length z6)] 26 (0, 0))) ∧ Qaa (Below w.heap.size w w'))
          case atStart => exact ⟨(0), (by first | rfl | (simp; done) | (simp [*]; done)), H', ⟨Nat.le_refl _⟩, ⟨by apply blk_u; exact q4.out⟩, ⟨bl HB⟩⟩
          case round =>
           clear H'
           try clear c1
           try clear p1
           try clear q1
           try clear hx1
           try clear c2
           try clear p2
           try clear c3
           try clear c4
           try clear Jt
           try clear Ju
           try clear p6
           try clear c7
           try clear Jx
           try clear Jy
           try clear Y2
           try clear c12
           try clear Jz
           try clear c13
           try clear Y9
           try clear c14
           try clear Ya
           try clear p14
           try clear q14
           try clear hx14
           try clear c16
           try clear Y0
           try clear Y1
           try clear c18
           try clear c23
           try clear c25
           try clear c28
           try clear c31
           try clear Q0
           try clear Q1
           try clear Q2
           try clear Q3
           try clear Z8
           try clear Z9
           try clear Za
           try clear Zb
           try clear Zc
           try clear Zd
           try clear Zk
           try clear Zl
           try clear Zm
           try clear Zn
           try clear Zs
           try clear Zt
           try clear Zu
           try clear Zv
           try clear Zw
           try clear Zx
           try clear J4
           try clear J5
           try clear J6
           try clear J7
           try clear Jc
           try clear Jd
           try clear Je
           try clear Jf
           try clear Jk
           try clear Jl
           try clear Jm
           try clear Jn
           try clear Yb
           try clear Yc
           try clear Yd
           try clear Ye
           try clear Qi
           try clear Qj
           try clear Qk
           try clear Ql
           try clear Qq
           try clear Qr
           try clear Qs
           try clear Qt
           try clear Q4
           try clear Q5
           try clear Q6
           try clear Q7
           try clear Ze
           try clear Zf
           try clear Zg
           try clear Zh
           try clear Zi
           try clear Zj
           try clear Zo
           try clear Zp
           try clear Zq
           try clear Zr
           try clear Zy
           try clear Zz
           try clear J0
           try clear J1
           try clear J2
           try clear J3
           try clear J8
           try clear J9
           try clear Ja
           try clear Jb
           try clear Jg
           try clear Jh
           try clear Ji
           try clear Jj
           try clear Jo
           try clear Jp
           try clear Jq
           try clear Jr
           try clear Yf
           try clear Yg
           try clear Yh
           try clear Yi
           try clear Qm
           try clear Qn
           try clear Qo
           try clear Qp
           try clear Qu
           try clear Qv
           try clear Qw
           try clear Qx
           try clear j3
           try clear j4
           try clear j5
           try clear j6
           try clear j7
           try clear j8
           try clear p1
           try clear p14
           try clear p140
           try clear p2
           try clear p6
           try clear q1
           try clear q14
           try clear q140
           obtain ⟨x46_3, rfl, HA, HK3, q4, HB⟩ := hrel
           cases gk with
           | zero => exact absurd HA.out (by simp [Qac.l1])
           | succ k3 =>
            have H := HA.out
            clear HA
            simp only [Qac.l1] at H
            by_cases c33 : x46_3 < (q2.length : Int)
            ·
             rw [if_pos c33] at H
             have Yn : decide (x46_3 < (q2.length : Int)) = true := decide_eq_true c33
             clear c33
             by_cases c34 : 0 ≤ x46_3
             ·
              rw [if_pos c34] at H
              have W0 : decide (0 ≤ x46_3) = true := decide_eq_true c34
              clear c34
              by_cases c35 : x46_3 < (q2.length : Int)
              ·
               rw [if_pos c35] at H
               have W1 : decide (x46_3 < (q2.length : Int)) = true := decide_eq_true c35
               clear c35
               replace H := Option.bind_eq_some_iff.mp H
               obtain ⟨Js, Yk, H⟩ := H
               replace H : (if Js = true then (if x46_3 > 0 then (if 0 ≤ (wrap64 (x46_3 - 1)) then (if (wrap64 (x46_3 - 1)) < (q2.length : Int) then (if (rd q2 x46_3) ≤ (rd q2 (wrap64 (x46_3 - 1))) then (some 8) else (Qac.l1 k3 q2 (q2.length : Int) (wrap64 (x46_3 + 1)) q3 q0 q6 q2)) else (none)) else (none)) else (Qac.l1 k3 q2 (q2.length : Int) (wrap64 (x46_3 + 1)) q3 q0 q6 q2)) else (some 1)) = some r := H
               have A36 := Qaa.mk Yk
               clear Yk
               by_cases c37 : Js = true
               ·
                subst c37
                have H1 : (if x46_3 > 0 then (if 0 ≤ (wrap64 (x46_3 - 1)) then (if (wrap64 (x46_3 - 1)) < (q2.length : Int) then (if (rd q2 x46_3) ≤ (rd q2 (wrap64 (x46_3 - 1))) then (some 8) else (Qac.l1 k3 q2 (q2.length : Int) (wrap64 (x46_3 + 1)) q3 q0 q6 q2)) else (none)) else (none)) else (Qac.l1 k3 q2 (q2.length : Int) (wrap64 (x46_3 + 1)) q3 q0 q6 q2)) = some r := by rw [if_pos rfl] at H; exact H
                clear H
                have H := H1
                clear H1
                by_cases c38 : x46_3 > 0
                ·
                 rw [if_pos c38] at H
                 have Yo : decide (0 < x46_3) = true := decide_eq_true c38
                 clear c38
                 obtain ⟨j0, y8⟩ : ∃ j_ : Int, (wrap64 (x46_3 - 1)) = j_ := ⟨_, rfl⟩
                 replace H : (if 0 ≤ (j0) then (if (j0) < (q2.length : Int) then (if (rd q2 x46_3) ≤ (rd q2 (j0)) then (some 8) else (Qac.l1 k3 q2 (q2.length : Int) (wrap64 (x46_3 + 1)) q3 q0 q6 q2)) else (none)) else (none)) = some r := by first | (rw [y8] at H; exact H) | (simp only [y8] at H ⊢; exact H)
                 (try rw [y8] at A36)
                 have hji39w : (IntKind.i64.wrap (x46_3 - 1)) = j0 := (i64_w _).trans y8
                 by_cases c40 : 0 ≤ (j0)
                 ·
                  rw [if_pos c40] at H
                  have W2 : decide (0 ≤ (j0)) = true := decide_eq_true c40
                  clear c40
                  by_cases c41 : (j0) < (q2.length : Int)
                  ·
                   rw [if_pos c41] at H
                   have W3 : decide ((j0) < (q2.length : Int)) = true := decide_eq_true c41
                   clear c41
                   by_cases c42 : (rd q2 x46_3) ≤ (rd q2 (j0))
                   ·
                    rw [if_pos c42] at H
                    have Yp : decide ((rd q2 x46_3) ≤ (rd q2 (j0))) = true := decide_eq_true c42
                    clear c42
                    obtain rfl := Option.some.inj H
                    have p143 : 0 ≤ (x46_3 : Int) := of_decide_eq_true (by first | (with_reducible assumption) | assumption)
                    have q143 : x46_3 < (q2.length : Int) := of_decide_eq_true (by first | (with_reducible assumption) | assumption)
                    obtain ⟨ad143, e143, q5⟩ := Kd.at_int y7.out x46_3 p143 q143
                    cases e143
                    replace q5 := (HB.out.cell (World.block_lt_of_cell? w _ q5)).trans q5
                    replace p143 := eq_true p143
                    replace q143 := eq_true q143
                    obtain ⟨Yq, Yr, Ys, Yt, Yu, Yv, Yw, Yx⟩ := cf4 q4
                    go_wp2_with (first | ((with_reducible refine gate_callee (f := 25) rfl ?_); refine gL (some 55) Try.func25 #[.int .i64 (rd q2 x46_3), .int .i64 0, .int .i64 (wrap64 (q3 - 1))] ?_; (with_reducible refine (Qau.calls (rd q2 x46_3) 0 (wrap64 (q3 - 1)) true _ A36.out).mono ?_); rintro e w' ⟨rfl, ⟨nd, rfl⟩⟩; refine ⟨_, rfl, ?_⟩; have p145 : 0 ≤ ((j0) : Int) := of_decide_eq_true (by first | (with_reducible assumption) | assumption); have q145 : (j0) < (q2.length : Int) := of_decide_eq_true (by first | (with_reducible assumption) | assumption); obtain ⟨ad145, e145, z0⟩ := Kd.at_int y7.out (j0) p145 q145; obtain rfl : ad143 = ad145 := (by injection e145); replace z0 := (HB.out.cell (World.block_lt_of_cell? w _ z0)).trans z0; replace p145 := eq_true p145; replace q145 := eq_true q145))
                    go_ret
                    exact ⟨by first | rfl | (simp [errW_none, errW_some] <;> rfl) | (simp only [← y8]; first | rfl | (simp [errW_none, errW_some] <;> rfl)) | (simp [*, errW_none, errW_some] <;> rfl), bl HB⟩
                   ·
                    rw [if_neg c42] at H
                    have Yp : decide ((rd q2 x46_3) ≤ (rd q2 (j0))) = false := decide_eq_false c42
                    clear c42
                    have H' := Qaa.mk H
                    clear H
                    have p143 : 0 ≤ (x46_3 : Int) := of_decide_eq_true (by first | (with_reducible assumption) | assumption)
                    have q143 : x46_3 < (q2.length : Int) := of_decide_eq_true (by first | (with_reducible assumption) | assumption)
                    obtain ⟨ad143, e143, q5⟩ := Kd.at_int y7.out x46_3 p143 q143
                    cases e143
                    replace q5 := (HB.out.cell (World.block_lt_of_cell? w _ q5)).trans q5
                    replace p143 := eq_true p143
                    replace q143 := eq_true q143
                    obtain ⟨Yy, Yz, X0, X1, X2, X3, X4, X5⟩ := cf4 q4
                    go_wp2_with (first | ((with_reducible refine gate_callee (f := 25) rfl ?_); refine gL (some 55) Try.func25 #[.int .i64 (rd q2 x46_3), .int .i64 0, .int .i64 (wrap64 (q3 - 1))] ?_; (with_reducible refine (Qau.calls (rd q2 x46_3) 0 (wrap64 (q3 - 1)) true _ A36.out).mono ?_); rintro e w' ⟨rfl, ⟨nd, rfl⟩⟩; refine ⟨_, rfl, ?_⟩; have p145 : 0 ≤ ((j0) : Int) := of_decide_eq_true (by first | (with_reducible assumption) | assumption); have q145 : (j0) < (q2.length : Int) := of_decide_eq_true (by first | (with_reducible assumption) | assumption); obtain ⟨ad145, e145, z0⟩ := Kd.at_int y7.out (j0) p145 q145; obtain rfl : ad143 = ad145 := (by injection e145); replace z0 := (HB.out.cell (World.block_lt_of_cell? w _ z0)).trans z0; replace p145 := eq_true p145; replace q145 := eq_true q145))
                    go_roundg k3
                    case measure => have := HK1.out; have := HJ26.out; have := HK3.out; omega
                    case rel => exact ⟨(wrap64 (x46_3 + 1)), (by first | rfl | (simp; done) | (simp [*]; done)), H', ⟨by have := HK1.out; have := HJ26.out; have := HK3.out; omega⟩, ⟨by apply blk_u; exact q4.out⟩, ⟨bl HB⟩⟩
                  ·
                   rw [if_neg c41] at H
                   exact absurd H (by simp)
                 ·
                  rw [if_neg c40] at H
                  exact absurd H (by simp)
                ·
                 rw [if_neg c38] at H
                 have Yo : decide (0 < x46_3) = false := decide_eq_false c38
                 clear c38
                 have H' := Qaa.mk H
                 clear H
                 have p143 : 0 ≤ (x46_3 : Int) := of_decide_eq_true (by first | (with_reducible assumption) | assumption)
                 have q143 : x46_3 < (q2.length : Int) := of_decide_eq_true (by first | (with_reducible assumption) | assumption)
                 obtain ⟨ad143, e143, q5⟩ := Kd.at_int y7.out x46_3 p143 q143
                 cases e143
                 replace q5 := (HB.out.cell (World.block_lt_of_cell? w _ q5)).trans q5
                 replace p143 := eq_true p143
                 replace q143 := eq_true q143
                 obtain ⟨X6, X7, X8, X9, Xa, Xb, Xc, Xd⟩ := cf4 q4
                 go_wp2_with (first | ((with_reducible refine gate_callee (f := 25) rfl ?_); refine gL (some 55) Try.func25 #[.int .i64 (rd q2 x46_3), .int .i64 0, .int .i64 (wrap64 (q3 - 1))] ?_; (with_reducible refine (Qau.calls (rd q2 x46_3) 0 (wrap64 (q3 - 1)) true _ A36.out).mono ?_); rintro e w' ⟨rfl, ⟨nd, rfl⟩⟩; refine ⟨_, rfl, ?_⟩))
                 go_roundg k3
                 case measure => have := HK1.out; have := HJ26.out; have := HK3.out; omega
                 case rel => exact ⟨(wrap64 (x46_3 + 1)), (by first | rfl | (simp; done) | (simp [*]; done)), H', ⟨by have := HK1.out; have := HJ26.out; have := HK3.out; omega⟩, ⟨by apply blk_u; exact q4.out⟩, ⟨bl HB⟩⟩
               ·
                replace c37 := Bool.eq_false_iff.mpr c37
                subst c37
                have H1 : (some 1) = some r := by rw [if_neg (show ¬ (false = true) by decide)] at H; exact H
                clear H
                have H := H1
                clear H1
                obtain rfl := Option.some.inj H
                have p143 : 0 ≤ (x46_3 : Int) := of_decide_eq_true (by first | (with_reducible assumption) | assumption)
                have q143 : x46_3 < (q2.length : Int) := of_decide_eq_true (by first | (with_reducible assumption) | assumption)
                obtain ⟨ad143, e143, q5⟩ := Kd.at_int y7.out x46_3 p143 q143
                cases e143
                replace q5 := (HB.out.cell (World.block_lt_of_cell? w _ q5)).trans q5
                replace p143 := eq_true p143
                replace q143 := eq_true q143
                obtain ⟨Xe, Xf, Xg, Xh, Xi, Xj, Xk, Xl⟩ := cf4 q4
                go_wp2_with (first | ((with_reducible refine gate_callee (f := 25) rfl ?_); refine gL (some 55) Try.func25 #[.int .i64 (rd q2 x46_3), .int .i64 0, .int .i64 (wrap64 (q3 - 1))] ?_; (with_reducible refine (Qau.calls (rd q2 x46_3) 0 (wrap64 (q3 - 1)) false _ A36.out).mono ?_); rintro e w' ⟨rfl, ⟨nd, rfl⟩⟩; refine ⟨_, rfl, ?_⟩))
                go_ret
                exact ⟨by first | rfl | (simp [errW_none, errW_some] <;> rfl) | (simp [*, errW_none, errW_some] <;> rfl), bl HB⟩
              ·
               rw [if_neg c35] at H
               exact absurd H (by simp)
             ·
              rw [if_neg c34] at H
              exact absurd H (by simp)
            ·
             rw [if_neg c33] at H
             have Yn : decide (x46_3 < (q2.length : Int)) = false := decide_eq_false c33
             clear c33
             obtain rfl := Option.some.inj H
             go_wp2
             go_ret
             exact ⟨by first | rfl | (simp [errW_none, errW_some] <;> rfl) | (simp [*, errW_none, errW_some] <;> rfl), bl HB⟩
 ·
  replace c3 := Bool.eq_false_iff.mpr c3
  subst c3
  have H1 : (some 1) = some r := by rw [if_neg (show ¬ (false = true) by decide)] at H; exact H
  clear H
  have H := H1
  clear H1
  obtain rfl := Option.some.inj H
  go_enter Try.func34, Try.ntmps34
  go_wp2_with (first | ((with_reducible refine gate_dst (N := 1) rfl ?_); (try (refine gate_guard (by rfl) ?_; dsimp only)); refine bx 1 #[.int .i64 q3, .slice z3 q0.length z4, .bool q6, .slice z5 q2.length z6] 26 ?_; intro q8 hg w47 hbox hb; have q4 := Qaa.mk (hbox); have Jv := Qaa.mk ((by rw [hg]; exact (below_size (bl HB)) : w.heap.size ≤ q8)); have Jw := Qaa.mk ((by rw [hg]; exact (below_size (bl HB)) : w.heap.size ≤ q8)); replace HB := bs HB hb; clear hb hbox hg; obtain ⟨Xm, Xn, Xo, Xp, Xq, Xr, Xs, Xt⟩ := cf4 q4) | ((with_reducible refine gate_callee (f := 25) rfl ?_); refine gL (some 10) Try.func25 #[.int .i64 q3, .int .i64 0, .int .i64 1000] ?_; (with_reducible refine (Qau.calls q3 0 1000 false _ A2.out).mono ?_); rintro e w' ⟨rfl, ⟨nd, rfl⟩⟩; refine ⟨_, rfl, ?_⟩))
  go_ret
  exact ⟨by first | rfl | (simp [errW_none, errW_some] <;> rfl) | (simp [*, errW_none, errW_some] <;> rfl), bl HB⟩
end Go.Proofs.Ytphnmaobpefoiaa.XW
end
section
namespace Go.Proofs.Ytphnmaobpefoiaa.XW
open Go.RowKit Go.Proofs.YtphnmaobpefoiaaXW Go.Proofs.YtphnmaobpefoiaaW.PrintWords Go.Proofs.YtphnmaobpefoiaaW.PrintLast Go.Proofs.YtphnmaobpefoiaaW.PrintMore
attribute [local go_sem] max2_int min2_int max_two min_two max_three min_three max_four min_four sleq
set_option linter.unusedVariables false
set_option linter.unusedSimpArgs false
def Qas.l0 : Nat → List (S86) → Int → Int → Int → List (S39) → Bool → List Int → Option (Int)
 | 0, _, _, _, _, _, _, _ => none
 | k + 1, x25, x26, x27, Ju, Ql, Jv, Jw => if x27 < x26 then (if 0 ≤ x27 then (if x27 < (x25.length : Int) then (if x27 < (Ql.length : Int) then (if ((rd_T39 Ql x27).f0) = ((rd_T86 x25 x27).f1) then (Qas.l0 k x25 x26 (wrap64 (x27 + 1)) Ju Ql Jv Jw) else (some 10)) else (none)) else (none)) else (none)) else (some 0)
def Qas.f (k : Nat) (l0 : List (S86)) (j1 : Int) (q9 : List (S39)) (j2 : Bool) (j0 : List Int) : Option (Int) := (Qac.f k j1 q9 j2 j0).bind fun j6 => (if j6 = 0 then ((Qad.f k l0).bind fun j7 => (if j7 = 0 then (if (l0.length : Int) = (q9.length : Int) then (Qas.l0 k l0 (l0.length : Int) 0 j1 q9 j2 j0) else (some 3)) else (some j7))) else (some j6))
theorem Qas.mono_l : ∀ k, (∀ y0 y1 y2 y3 y4 y5 y6, LeO (Qas.l0 k y0 y1 y2 y3 y4 y5 y6) (Qas.l0 (k + 1) y0 y1 y2 y3 y4 y5 y6))
 | 0 => fun _ _ _ _ _ _ _ r h => by simp [Qas.l0] at h
 | k + 1 => by
  have ih0 := Qas.mono_l k
  ·
   intro y0 y1 y2 y3 y4 y5 y6
   unfold Qas.l0
   repeat' first
   | (with_reducible exact ih0 _ _ _ _ _ _ _)
   | (with_reducible exact Qad.mono _ _)
   | (with_reducible exact Qac.mono _ _ _ _ _)
   | (with_reducible exact LeO.refl _)
   | (with_reducible exact LeO.none _)
   | (with_reducible refine LeO.ite ?_ ?_)
   | (with_reducible refine LeO.bind ?_ (fun _ => ?_))
   | exact ih0 _ _ _ _ _ _ _
   | exact Qad.mono _ _
   | exact Qac.mono _ _ _ _ _
   | exact LeO.none _
   | refine LeO.ite ?_ ?_
   | refine LeO.bind ?_ (fun _ => ?_)
theorem Qas.mono : ∀ a0 a1 a2 a3 a4 k, LeO (Qas.f k a0 a1 a2 a3 a4) (Qas.f (k + 1) a0 a1 a2 a3 a4) := by
 intro a0 a1 a2 a3 a4 k
 have ih0 := Qas.mono_l k
 unfold Qas.f
 repeat' first
   | (with_reducible exact ih0 _ _ _ _ _ _ _)
   | (with_reducible exact Qad.mono _ _)
   | (with_reducible exact Qac.mono _ _ _ _ _)
   | (with_reducible exact LeO.refl _)
   | (with_reducible exact LeO.none _)
   | (with_reducible refine LeO.ite ?_ ?_)
   | (with_reducible refine LeO.bind ?_ (fun _ => ?_))
   | exact ih0 _ _ _ _ _ _ _
   | exact Qad.mono _ _
   | exact Qac.mono _ _ _ _ _
   | exact LeO.none _
   | refine LeO.ite ?_ ?_
   | refine LeO.bind ?_ (fun _ => ?_)
set_option maxHeartbeats 8000000 in
set_option maxRecDepth 100000 in
theorem Qas.calls (k : Nat) (A0 : Option Addr) (c0 : Nat) (l0 : List (S86)) (j1 : Int) (j8 : Option Addr) (j9 : Nat) (q9 : List (S39)) (j2 : Bool) (z0 : Option Addr) (z1 : Nat) (j0 : List Int) (r : Int) (w : World) (hr0 : Kd.C k86 w A0 l0.length l0) (hc0 : l0.length ≤ c0) (Jm : Kd.C k39 w j8 q9.length q9) (Jn : q9.length ≤ j9) (Jo : Kd.C (Kd.int .i64) w z0 j0.length j0) (Jp : j0.length ≤ z1) (h : Qas.f k l0 j1 q9 j2 j0 = some r) :
  Calls Try.prog 37 #[.slice A0 l0.length c0, .agg #[.int .i64 j1, .slice j8 q9.length j9, .bool j2, .slice z0 j0.length z1]] w fun e w' => e = .returned (.int .i64 r) ∧ Below w.heap.size w w' := by
 have hu26 := Try.underlying26
 have hu86 := Try.underlying86
 have Q8 := Qaa.mk hr0
 have Qj := Qaa.mk hc0
 clear hr0 hc0
 have z2 := Qaa.mk Jm
 have z4 := Qaa.mk Jn
 clear Jm Jn
 have z5 := Qaa.mk Jo
 have z6 := Qaa.mk Jp
 clear Jo Jp
 have HB := Qaa.mk (Below.refl w.heap.size w)
 have H : ((Qac.f k j1 q9 j2 j0).bind fun j6 => (if j6 = 0 then ((Qad.f k l0).bind fun j7 => (if j7 = 0 then (if (l0.length : Int) = (q9.length : Int) then (Qas.l0 k l0 (l0.length : Int) 0 j1 q9 j2 j0) else (some 3)) else (some j7))) else (some j6))) = some r := h
 clear h
 replace H := Option.bind_eq_some_iff.mp H
 obtain ⟨j6, A30, H⟩ := H
 replace H : (if j6 = 0 then ((Qad.f k l0).bind fun j7 => (if j7 = 0 then (if (l0.length : Int) = (q9.length : Int) then (Qas.l0 k l0 (l0.length : Int) 0 j1 q9 j2 j0) else (some 3)) else (some j7))) else (some j6)) = some r := H
 have A3 := Qaa.mk A30
 clear A30
 by_cases c4 : j6 = 0
 ·
  rw [if_pos c4] at H
  have Jx : (j6 == 0) = true := beq_iff_eq.mpr c4
  have Jy : (j6 != 0) = false := bne_eq_false_iff_eq.mpr c4
  clear c4
  replace H := Option.bind_eq_some_iff.mp H
  obtain ⟨j7, A50, H⟩ := H
  replace H : (if j7 = 0 then (if (l0.length : Int) = (q9.length : Int) then (Qas.l0 k l0 (l0.length : Int) 0 j1 q9 j2 j0) else (some 3)) else (some j7)) = some r := H
  have A5 := Qaa.mk A50
  clear A50
  by_cases c6 : j7 = 0
  ·
   rw [if_pos c6] at H
   have Jz : (j7 == 0) = true := beq_iff_eq.mpr c6
   have Y0 : (j7 != 0) = false := bne_eq_false_iff_eq.mpr c6
   clear c6
   by_cases c7 : (l0.length : Int) = (q9.length : Int)
   ·
    rw [if_pos c7] at H
    have Y1 : ((l0.length : Int) == (q9.length : Int)) = true := beq_iff_eq.mpr c7
    have Y2 : ((l0.length : Int) != (q9.length : Int)) = false := bne_eq_false_iff_eq.mpr c7
    have Y3 : (l0.length == q9.length) = true := by first | simpa using c7 | (simp at c7 ⊢; omega)
    clear c7
    have H' := Qaa.mk H
    clear H
    go_enter Try.func37, Try.ntmps37
    go_wp2_with (first | ((with_reducible refine gate_dst (N := 3) rfl ?_); refine bx 3 #[.int .i64 j1, .slice j8 q9.length j9, .bool j2, .slice z0 j0.length z1] 26 ?_; intro q3 hg w8 hbox hb; have q1 := Qaa.mk (hbox); have z7 := Qaa.mk ((by rw [hg]; exact (below_size (bl HB)) : w.heap.size ≤ q3)); have z8 := Qaa.mk ((by rw [hg]; exact (below_size (bl HB)) : w.heap.size ≤ q3)); replace HB := bs HB hb; clear hb hbox hg; obtain ⟨Qu, Qv, Qw, Qx, Qy, Qz, Z0, Z1⟩ := cf4 q1) | (go_at_call 34; (with_reducible refine (Qac.calls k j1 _ _ q9 j2 _ _ j0 j6 _ ?side1 ?side2 ?side3 ?side4 A3.out).mono ?_); (case side1 => exact Cb z2 HB); (case side2 => exact z4.out); (case side3 => exact Cb z5 HB); (case side4 => exact z6.out); rintro e w10 ⟨rfl, hb⟩; replace q1 := Bb q1 hb; replace HB := bs HB hb; (try clear hb)) | (go_at_call 58; (with_reducible refine (Qad.calls k _ _ l0 j7 _ ?side1 ?side2 A5.out).mono ?_); (case side1 => exact Cb Q8 HB); (case side2 => exact Qj.out); rintro e w11 ⟨rfl, hb⟩; replace q1 := Bb q1 hb; replace HB := bs HB hb; (try clear hb); obtain ⟨Qm, Qn, Qo, Qp, Qq, Qr, Qs, Qt⟩ := cf4 q1))
    repeat (go_quiet (first | ((with_reducible refine gate_dst (N := 3) rfl ?_); refine bx 3 #[.int .i64 j1, .slice j8 q9.length j9, .bool j2, .slice z0 j0.length z1] 26 ?_; intro q3 hg w8 hbox hb; have q1 := Qaa.mk (hbox); have z7 := Qaa.mk ((by rw [hg]; exact (below_size (bl HB)) : w.heap.size ≤ q3)); have z8 := Qaa.mk ((by rw [hg]; exact (below_size (bl HB)) : w.heap.size ≤ q3)); replace HB := bs HB hb; clear hb hbox hg; obtain ⟨Qu, Qv, Qw, Qx, Qy, Qz, Z0, Z1⟩ := cf4 q1) | (go_at_call 34; (with_reducible refine (Qac.calls k j1 _ _ q9 j2 _ _ j0 j6 _ ?side1 ?side2 ?side3 ?side4 A3.out).mono ?_); (case side1 => exact Cb z2 HB); (case side2 => exact z4.out); (case side3 => exact Cb z5 HB); (case side4 => exact z6.out); rintro e w10 ⟨rfl, hb⟩; replace q1 := Bb q1 hb; replace HB := bs HB hb; (try clear hb)) | (go_at_call 58; (with_reducible refine (Qad.calls k _ _ l0 j7 _ ?side1 ?side2 A5.out).mono ?_); (case side1 => exact Cb Q8 HB); (case side2 => exact Qj.out); rintro e w11 ⟨rfl, hb⟩; have n0_ := Bb q1 hb; have n1_ := bs HB hb; clear q1; clear HB; have q1 := n0_; have HB := n1_; clear n0_ n1_; (try clear hb); (try clear hb2); (try clear hk); (try clear hi); have Qm : w11.cell? ⟨q3, 0, none⟩ = some (.int .i64 j1) := (blk_cell q1.out 0).trans rfl; have Qn : w11.cell? ⟨q3, 1, none⟩ = some (.slice j8 q9.length j9) := (blk_cell q1.out 1).trans rfl; have Qo : w11.cell? ⟨q3, 2, none⟩ = some (.bool j2) := (blk_cell q1.out 2).trans rfl; have Qp : w11.cell? ⟨q3, 3, none⟩ = some (.slice z0 j0.length z1) := (blk_cell q1.out 3).trans rfl; have Qq := blk_frozen q1.out 0; have Qr := blk_frozen q1.out 1; have Qs := blk_frozen q1.out 2; have Qt := blk_frozen q1.out 3)); try go_wp2_with (first | ((with_reducible refine gate_dst (N := 3) rfl ?_); refine bx 3 #[.int .i64 j1, .slice j8 q9.length j9, .bool j2, .slice z0 j0.length z1] 26 ?_; intro q3 hg w8 hbox hb; have q1 := Qaa.mk (hbox); have z7 := Qaa.mk ((by rw [hg]; exact (below_size (bl HB)) : w.heap.size ≤ q3)); have z8 := Qaa.mk ((by rw [hg]; exact (below_size (bl HB)) : w.heap.size ≤ q3)); replace HB := bs HB hb; clear hb hbox hg; obtain ⟨Qu, Qv, Qw, Qx, Qy, Qz, Z0, Z1⟩ := cf4 q1) | (go_at_call 34; (with_reducible refine (Qac.calls k j1 _ _ q9 j2 _ _ j0 j6 _ ?side1 ?side2 ?side3 ?side4 A3.out).mono ?_); (case side1 => exact Cb z2 HB); (case side2 => exact z4.out); (case side3 => exact Cb z5 HB); (case side4 => exact z6.out); rintro e w10 ⟨rfl, hb⟩; replace q1 := Bb q1 hb; replace HB := bs HB hb; (try clear hb)) | (go_at_call 58; (with_reducible refine (Qad.calls k _ _ l0 j7 _ ?side1 ?side2 A5.out).mono ?_); (case side1 => exact Cb Q8 HB); (case side2 => exact Qj.out); rintro e w11 ⟨rfl, hb⟩; have n0_ := Bb q1 hb; have n1_ := bs HB hb; clear q1; clear HB; have q1 := n0_; have HB := n1_; clear n0_ n1_; (try clear hb); (try clear hb2); (try clear hk); (try clear hi); have Qm : w11.cell? ⟨q3, 0, none⟩ = some (.int .i64 j1) := (blk_cell q1.out 0).trans rfl; have Qn : w11.cell? ⟨q3, 1, none⟩ = some (.slice j8 q9.length j9) := (blk_cell q1.out 1).trans rfl; have Qo : w11.cell? ⟨q3, 2, none⟩ = some (.bool j2) := (blk_cell q1.out 2).trans rfl; have Qp : w11.cell? ⟨q3, 3, none⟩ = some (.slice z0 j0.length z1) := (blk_cell q1.out 3).trans rfl; have Qq := blk_frozen q1.out 0; have Qr := blk_frozen q1.out 1; have Qs := blk_frozen q1.out 2; have Qt := blk_frozen q1.out 3)))
    go_loopg [27] k (fun kq v27 w' => ∃ (x27_1 : Int), v27 = .int .i64 x27_1 ∧ Qaa (Qas.l0 kq l0 (l0.length : Int) x27_1 j1 q9 j2 j0 = some r) ∧ Qaa (kq ≤ k) ∧ Qaa (w'.heap[q3]? = some (.cells #[.int .i64 j1, (.slice j8 q9.length j9), .bool j2, (.slice z0 j0.length z1)] 26 (0, 0))) ∧ Qaa (Below w.heap.size w w'))
    case atStart => exact ⟨(0), (by first | rfl | (simp; done) | (simp [*]; done)), H', ⟨Nat.le_refl _⟩, ⟨by apply blk_u; exact q1.out⟩, ⟨bl HB⟩⟩
    case round =>
     clear H'
     try clear c1
     try clear p2
     try clear c3
     try clear c4
     try clear Jx
     try clear Jy
     try clear c6
     try clear Jz
     try clear Y0
     try clear c7
     try clear Y1
     try clear Y2
     try clear Y3
     try clear Qm
     try clear Qn
     try clear Qo
     try clear Qp
     try clear Qu
     try clear Qv
     try clear Qw
     try clear Qx
     try clear Qq
     try clear Qr
     try clear Qs
     try clear Qt
     try clear Qy
     try clear Qz
     try clear Z0
     try clear Z1
     obtain ⟨x27_1, rfl, HA, HK1, q1, HB⟩ := hrel
     cases gk with
     | zero => exact absurd HA.out (by simp [Qas.l0])
     | succ k1 =>
      have H := HA.out
      clear HA
      simp only [Qas.l0] at H
      by_cases c13 : x27_1 < (l0.length : Int)
      ·
       rw [if_pos c13] at H
       have Y4 : decide (x27_1 < (l0.length : Int)) = true := decide_eq_true c13
       clear c13
       by_cases c14 : 0 ≤ x27_1
       ·
        rw [if_pos c14] at H
        have Y7 : decide (0 ≤ x27_1) = true := decide_eq_true c14
        clear c14
        by_cases c15 : x27_1 < (l0.length : Int)
        ·
         rw [if_pos c15] at H
         have Y8 : decide (x27_1 < (l0.length : Int)) = true := decide_eq_true c15
         clear c15
         by_cases c16 : x27_1 < (q9.length : Int)
         ·
          rw [if_pos c16] at H
          have Y9 : decide (x27_1 < (q9.length : Int)) = true := decide_eq_true c16
          clear c16
          by_cases c17 : ((rd_T39 q9 x27_1).f0) = ((rd_T86 l0 x27_1).f1)
          ·
           rw [if_pos c17] at H
           have Y5 : (((rd_T39 q9 x27_1).f0) == ((rd_T86 l0 x27_1).f1)) = true := beq_iff_eq.mpr c17
           have Y6 : (((rd_T39 q9 x27_1).f0) != ((rd_T86 l0 x27_1).f1)) = false := bne_eq_false_iff_eq.mpr c17
           clear c17
           have H' := Qaa.mk H
           clear H
           have p159 : 0 ≤ (x27_1 : Int) := of_decide_eq_true (by first | (with_reducible assumption) | assumption)
           have q159 : x27_1 < (l0.length : Int) := of_decide_eq_true (by first | (with_reducible assumption) | assumption)
           obtain ⟨ad159, e159, z9, y7⟩ := at_T86 Q8.out x27_1 p159 q159
           cases e159
           replace z9 := (HB.out.cell (World.block_lt_of_cell? w _ z9)).trans z9
           replace y7 := (HB.out.cell (World.block_lt_of_cell? w _ y7)).trans y7
           replace p159 := eq_true p159
           replace q159 := eq_true q159
           go_wp2_with (first | ((with_reducible refine gate_dst (N := 8) rfl ?_); refine bx 8 #[.string (⟨#[]⟩ : ByteArray), .int .i64 0] 86 ?_; intro q0 hg w18 hbox hb; have j4 := Qaa.mk (hbox); have z3 := Qaa.mk ((by rw [hg]; exact (below_size (bl HB)) : w.heap.size ≤ q0)); have Qk := Qaa.mk ((by rw [hg]; exact (below_size (bl HB)) : w.heap.size ≤ q0)); have j3 := Qaa.mk ((by rw [hg]; exact Nat.ne_of_lt (blk_lt (Ub q1)) : q3 ≠ q0)); have j5 := Qaa.mk ((by rw [hg]; exact Nat.ne_of_gt (blk_lt (Ub q1)) : q0 ≠ q3)); replace q1 := Bb q1 hb; replace HB := bs HB hb; clear hb hbox hg; have Jq := j5.out; have Jr := j3.out; obtain ⟨Z2, Z3, Z4, Z5⟩ := cf2 j4; obtain ⟨Z6, Z7, Z8, Z9, Za, Zb, Zc, Zd⟩ := cf4 q1; have p161 : 0 ≤ (x27_1 : Int) := of_decide_eq_true (by first | (with_reducible assumption) | assumption); have q161 : x27_1 < (q9.length : Int) := of_decide_eq_true (by first | (with_reducible assumption) | assumption); obtain ⟨ad161, Q9, Qa, Qb, Qc, Qd, Qe, Qf, Qg, Qh, Qi, e161, q2, q4, q5, q6, q7, q8, hl161_1, hi161_1, hl161_2, hi161_2, hl161_3, hi161_3, hl161_4, hi161_4, hl161_5, hi161_5⟩ := at_T39 z2.out x27_1 p161 q161; cases e161; have hn161_0 : ad161.block ≠ q0 := Nat.ne_of_lt (Nat.lt_of_lt_of_le (by have := World.block_lt_of_cell? _ _ q2; first | rwa [add_block] at this | exact this) z3.out); have hn161_1 : ad161.block ≠ q0 := Nat.ne_of_lt (Nat.lt_of_lt_of_le (by have := World.block_lt_of_cell? _ _ q2; first | rwa [add_block] at this | exact this) z3.out); replace q2 := (HB.out.cell (World.block_lt_of_cell? w _ q2)).trans q2; replace q4 := (HB.out.cell (World.block_lt_of_cell? w _ q4)).trans q4; replace q5 := (HB.out.cell (World.block_lt_of_cell? w _ q5)).trans q5; replace q6 := (HB.out.cell (World.block_lt_of_cell? w _ q6)).trans q6; replace q7 := (HB.out.cell (World.block_lt_of_cell? w _ q7)).trans q7; replace q8 := (HB.out.cell (World.block_lt_of_cell? w _ q8)).trans q8; have y8 := Qaa.mk hi161_1; have y9 := Qaa.mk hl161_1; clear hi161_1 hl161_1; have Q0 := Qaa.mk hi161_2; have Q1 := Qaa.mk hl161_2; clear hi161_2 hl161_2; have Q2 := Qaa.mk hi161_3; have Q3 := Qaa.mk hl161_3; clear hi161_3 hl161_3; have Q4 := Qaa.mk hi161_4; have Q5 := Qaa.mk hl161_4; clear hi161_4 hl161_4; have Q6 := Qaa.mk hi161_5; have Q7 := Qaa.mk hl161_5; clear hi161_5 hl161_5; replace q2 := (cell_far (p := ⟨q0, 0, none⟩) (by first | (rw [add_block]; exact hn161_0) | (show (Addr.add _ _).block ≠ _; rw [add_block]; exact hn161_0) | exact hn161_0) (.string ((rd_T86 l0 x27_1).f0))).trans q2; replace q4 := (cell_far (p := ⟨q0, 0, none⟩) (by first | (rw [add_block]; exact hn161_0) | (show (Addr.add _ _).block ≠ _; rw [add_block]; exact hn161_0) | exact hn161_0) (.string ((rd_T86 l0 x27_1).f0))).trans q4; replace q5 := (cell_far (p := ⟨q0, 0, none⟩) (by first | (rw [add_block]; exact hn161_0) | (show (Addr.add _ _).block ≠ _; rw [add_block]; exact hn161_0) | exact hn161_0) (.string ((rd_T86 l0 x27_1).f0))).trans q5; replace q6 := (cell_far (p := ⟨q0, 0, none⟩) (by first | (rw [add_block]; exact hn161_0) | (show (Addr.add _ _).block ≠ _; rw [add_block]; exact hn161_0) | exact hn161_0) (.string ((rd_T86 l0 x27_1).f0))).trans q6; replace q7 := (cell_far (p := ⟨q0, 0, none⟩) (by first | (rw [add_block]; exact hn161_0) | (show (Addr.add _ _).block ≠ _; rw [add_block]; exact hn161_0) | exact hn161_0) (.string ((rd_T86 l0 x27_1).f0))).trans q7; replace q8 := (cell_far (p := ⟨q0, 0, none⟩) (by first | (rw [add_block]; exact hn161_0) | (show (Addr.add _ _).block ≠ _; rw [add_block]; exact hn161_0) | exact hn161_0) (.string ((rd_T86 l0 x27_1).f0))).trans q8; replace q2 := (cell_far (p := ⟨q0, 1, none⟩) (by first | (rw [add_block]; exact hn161_1) | (show (Addr.add _ _).block ≠ _; rw [add_block]; exact hn161_1) | exact hn161_1) (.int .i64 ((rd_T86 l0 x27_1).f1))).trans q2; replace q4 := (cell_far (p := ⟨q0, 1, none⟩) (by first | (rw [add_block]; exact hn161_1) | (show (Addr.add _ _).block ≠ _; rw [add_block]; exact hn161_1) | exact hn161_1) (.int .i64 ((rd_T86 l0 x27_1).f1))).trans q4; replace q5 := (cell_far (p := ⟨q0, 1, none⟩) (by first | (rw [add_block]; exact hn161_1) | (show (Addr.add _ _).block ≠ _; rw [add_block]; exact hn161_1) | exact hn161_1) (.int .i64 ((rd_T86 l0 x27_1).f1))).trans q5; replace q6 := (cell_far (p := ⟨q0, 1, none⟩) (by first | (rw [add_block]; exact hn161_1) | (show (Addr.add _ _).block ≠ _; rw [add_block]; exact hn161_1) | exact hn161_1) (.int .i64 ((rd_T86 l0 x27_1).f1))).trans q6; replace q7 := (cell_far (p := ⟨q0, 1, none⟩) (by first | (rw [add_block]; exact hn161_1) | (show (Addr.add _ _).block ≠ _; rw [add_block]; exact hn161_1) | exact hn161_1) (.int .i64 ((rd_T86 l0 x27_1).f1))).trans q7; replace q8 := (cell_far (p := ⟨q0, 1, none⟩) (by first | (rw [add_block]; exact hn161_1) | (show (Addr.add _ _).block ≠ _; rw [add_block]; exact hn161_1) | exact hn161_1) (.int .i64 ((rd_T86 l0 x27_1).f1))).trans q8; (try have hy161_0 := fun (n_ : Nat) => (show ((((w18.drewN n_).setCell ⟨q0, 0, none⟩ (.string ((rd_T86 l0 x27_1).f0))).setCell ⟨q0, 1, none⟩ (.int .i64 ((rd_T86 l0 x27_1).f1)))).cell? _ = some _ from q2)); (try have hy161_1 := fun (n_ : Nat) => (show ((((w18.drewN n_).setCell ⟨q0, 0, none⟩ (.string ((rd_T86 l0 x27_1).f0))).setCell ⟨q0, 1, none⟩ (.int .i64 ((rd_T86 l0 x27_1).f1)))).cell? _ = some _ from q4)); (try have hy161_2 := fun (n_ : Nat) => (show ((((w18.drewN n_).setCell ⟨q0, 0, none⟩ (.string ((rd_T86 l0 x27_1).f0))).setCell ⟨q0, 1, none⟩ (.int .i64 ((rd_T86 l0 x27_1).f1)))).cell? _ = some _ from q5)); (try have hy161_3 := fun (n_ : Nat) => (show ((((w18.drewN n_).setCell ⟨q0, 0, none⟩ (.string ((rd_T86 l0 x27_1).f0))).setCell ⟨q0, 1, none⟩ (.int .i64 ((rd_T86 l0 x27_1).f1)))).cell? _ = some _ from q6)); (try have hy161_4 := fun (n_ : Nat) => (show ((((w18.drewN n_).setCell ⟨q0, 0, none⟩ (.string ((rd_T86 l0 x27_1).f0))).setCell ⟨q0, 1, none⟩ (.int .i64 ((rd_T86 l0 x27_1).f1)))).cell? _ = some _ from q7)); (try have hy161_5 := fun (n_ : Nat) => (show ((((w18.drewN n_).setCell ⟨q0, 0, none⟩ (.string ((rd_T86 l0 x27_1).f0))).setCell ⟨q0, 1, none⟩ (.int .i64 ((rd_T86 l0 x27_1).f1)))).cell? _ = some _ from q8)); clear hn161_0; clear hn161_1; replace p161 := eq_true p161; replace q161 := eq_true q161))
           repeat (go_quiet (first | ((with_reducible refine gate_dst (N := 8) rfl ?_); refine bx 8 #[.string (⟨#[]⟩ : ByteArray), .int .i64 0] 86 ?_; intro q0 hg w18 hbox hb; have n0_ := Bb q1 hb; have n1_ := bs HB hb; have n2_ := Qaa.mk (hbox); have n3_ := Qaa.mk ((by rw [hg]; exact (below_size (bl HB)) : w.heap.size ≤ q0)); have n4_ := Qaa.mk ((by rw [hg]; exact (below_size (bl HB)) : w.heap.size ≤ q0)); have n5_ := Qaa.mk ((by rw [hg]; exact Nat.ne_of_lt (blk_lt (Ub q1)) : q3 ≠ q0)); have n6_ := Qaa.mk ((by rw [hg]; exact Nat.ne_of_gt (blk_lt (Ub q1)) : q0 ≠ q3)); clear q1; clear HB; have q1 := n0_; have HB := n1_; have j4 := n2_; have z3 := n3_; have Qk := n4_; have j3 := n5_; have j5 := n6_; clear n0_ n1_ n2_ n3_ n4_ n5_ n6_; clear hb hbox hg; have Jq := j5.out; have Jr := j3.out; have Z2 : w18.cell? ⟨q0, 0, none⟩ = some (.string (⟨#[]⟩ : ByteArray)) := (blk_cell j4.out 0).trans rfl; have Z3 : w18.cell? ⟨q0, 1, none⟩ = some (.int .i64 0) := (blk_cell j4.out 1).trans rfl; have Z4 := blk_frozen j4.out 0; have Z5 := blk_frozen j4.out 1; have Z6 : w18.cell? ⟨q3, 0, none⟩ = some (.int .i64 j1) := (blk_cell q1.out 0).trans rfl; have Z7 : w18.cell? ⟨q3, 1, none⟩ = some (.slice j8 q9.length j9) := (blk_cell q1.out 1).trans rfl; have Z8 : w18.cell? ⟨q3, 2, none⟩ = some (.bool j2) := (blk_cell q1.out 2).trans rfl; have Z9 : w18.cell? ⟨q3, 3, none⟩ = some (.slice z0 j0.length z1) := (blk_cell q1.out 3).trans rfl; have Za := blk_frozen q1.out 0; have Zb := blk_frozen q1.out 1; have Zc := blk_frozen q1.out 2; have Zd := blk_frozen q1.out 3; have p161 : 0 ≤ (x27_1 : Int) := of_decide_eq_true (by first | (with_reducible assumption) | assumption); have q161 : x27_1 < (q9.length : Int) := of_decide_eq_true (by first | (with_reducible assumption) | assumption); obtain ⟨ad161, Q9, Qa, Qb, Qc, Qd, Qe, Qf, Qg, Qh, Qi, e161, q2, q4, q5, q6, q7, q8, hl161_1, hi161_1, hl161_2, hi161_2, hl161_3, hi161_3, hl161_4, hi161_4, hl161_5, hi161_5⟩ := at_T39 z2.out x27_1 p161 q161; cases e161; have hn161_0 : ad161.block ≠ q0 := Nat.ne_of_lt (Nat.lt_of_lt_of_le (by have := World.block_lt_of_cell? _ _ q2; first | rwa [add_block] at this | exact this) z3.out); have hn161_1 : ad161.block ≠ q0 := Nat.ne_of_lt (Nat.lt_of_lt_of_le (by have := World.block_lt_of_cell? _ _ q2; first | rwa [add_block] at this | exact this) z3.out); replace q2 := (HB.out.cell (World.block_lt_of_cell? w _ q2)).trans q2; replace q4 := (HB.out.cell (World.block_lt_of_cell? w _ q4)).trans q4; replace q5 := (HB.out.cell (World.block_lt_of_cell? w _ q5)).trans q5; replace q6 := (HB.out.cell (World.block_lt_of_cell? w _ q6)).trans q6; replace q7 := (HB.out.cell (World.block_lt_of_cell? w _ q7)).trans q7; replace q8 := (HB.out.cell (World.block_lt_of_cell? w _ q8)).trans q8; have y8 := Qaa.mk hi161_1; have y9 := Qaa.mk hl161_1; clear hi161_1 hl161_1; have Q0 := Qaa.mk hi161_2; have Q1 := Qaa.mk hl161_2; clear hi161_2 hl161_2; have Q2 := Qaa.mk hi161_3; have Q3 := Qaa.mk hl161_3; clear hi161_3 hl161_3; have Q4 := Qaa.mk hi161_4; have Q5 := Qaa.mk hl161_4; clear hi161_4 hl161_4; have Q6 := Qaa.mk hi161_5; have Q7 := Qaa.mk hl161_5; clear hi161_5 hl161_5; replace q2 := (cell_far (p := ⟨q0, 0, none⟩) (by first | (rw [add_block]; exact hn161_0) | (show (Addr.add _ _).block ≠ _; rw [add_block]; exact hn161_0) | exact hn161_0) (.string ((rd_T86 l0 x27_1).f0))).trans q2; replace q4 := (cell_far (p := ⟨q0, 0, none⟩) (by first | (rw [add_block]; exact hn161_0) | (show (Addr.add _ _).block ≠ _; rw [add_block]; exact hn161_0) | exact hn161_0) (.string ((rd_T86 l0 x27_1).f0))).trans q4; replace q5 := (cell_far (p := ⟨q0, 0, none⟩) (by first | (rw [add_block]; exact hn161_0) | (show (Addr.add _ _).block ≠ _; rw [add_block]; exact hn161_0) | exact hn161_0) (.string ((rd_T86 l0 x27_1).f0))).trans q5; replace q6 := (cell_far (p := ⟨q0, 0, none⟩) (by first | (rw [add_block]; exact hn161_0) | (show (Addr.add _ _).block ≠ _; rw [add_block]; exact hn161_0) | exact hn161_0) (.string ((rd_T86 l0 x27_1).f0))).trans q6; replace q7 := (cell_far (p := ⟨q0, 0, none⟩) (by first | (rw [add_block]; exact hn161_0) | (show (Addr.add _ _).block ≠ _; rw [add_block]; exact hn161_0) | exact hn161_0) (.string ((rd_T86 l0 x27_1).f0))).trans q7; replace q8 := (cell_far (p := ⟨q0, 0, none⟩) (by first | (rw [add_block]; exact hn161_0) | (show (Addr.add _ _).block ≠ _; rw [add_block]; exact hn161_0) | exact hn161_0) (.string ((rd_T86 l0 x27_1).f0))).trans q8; replace q2 := (cell_far (p := ⟨q0, 1, none⟩) (by first | (rw [add_block]; exact hn161_1) | (show (Addr.add _ _).block ≠ _; rw [add_block]; exact hn161_1) | exact hn161_1) (.int .i64 ((rd_T86 l0 x27_1).f1))).trans q2; replace q4 := (cell_far (p := ⟨q0, 1, none⟩) (by first | (rw [add_block]; exact hn161_1) | (show (Addr.add _ _).block ≠ _; rw [add_block]; exact hn161_1) | exact hn161_1) (.int .i64 ((rd_T86 l0 x27_1).f1))).trans q4; replace q5 := (cell_far (p := ⟨q0, 1, none⟩) (by first | (rw [add_block]; exact hn161_1) | (show (Addr.add _ _).block ≠ _; rw [add_block]; exact hn161_1) | exact hn161_1) (.int .i64 ((rd_T86 l0 x27_1).f1))).trans q5; replace q6 := (cell_far (p := ⟨q0, 1, none⟩) (by first | (rw [add_block]; exact hn161_1) | (show (Addr.add _ _).block ≠ _; rw [add_block]; exact hn161_1) | exact hn161_1) (.int .i64 ((rd_T86 l0 x27_1).f1))).trans q6; replace q7 := (cell_far (p := ⟨q0, 1, none⟩) (by first | (rw [add_block]; exact hn161_1) | (show (Addr.add _ _).block ≠ _; rw [add_block]; exact hn161_1) | exact hn161_1) (.int .i64 ((rd_T86 l0 x27_1).f1))).trans q7; replace q8 := (cell_far (p := ⟨q0, 1, none⟩) (by first | (rw [add_block]; exact hn161_1) | (show (Addr.add _ _).block ≠ _; rw [add_block]; exact hn161_1) | exact hn161_1) (.int .i64 ((rd_T86 l0 x27_1).f1))).trans q8; (try have hy161_0 := fun (n_ : Nat) => (show ((((w18.drewN n_).setCell ⟨q0, 0, none⟩ (.string ((rd_T86 l0 x27_1).f0))).setCell ⟨q0, 1, none⟩ (.int .i64 ((rd_T86 l0 x27_1).f1)))).cell? _ = some _ from q2)); (try have hy161_1 := fun (n_ : Nat) => (show ((((w18.drewN n_).setCell ⟨q0, 0, none⟩ (.string ((rd_T86 l0 x27_1).f0))).setCell ⟨q0, 1, none⟩ (.int .i64 ((rd_T86 l0 x27_1).f1)))).cell? _ = some _ from q4)); (try have hy161_2 := fun (n_ : Nat) => (show ((((w18.drewN n_).setCell ⟨q0, 0, none⟩ (.string ((rd_T86 l0 x27_1).f0))).setCell ⟨q0, 1, none⟩ (.int .i64 ((rd_T86 l0 x27_1).f1)))).cell? _ = some _ from q5)); (try have hy161_3 := fun (n_ : Nat) => (show ((((w18.drewN n_).setCell ⟨q0, 0, none⟩ (.string ((rd_T86 l0 x27_1).f0))).setCell ⟨q0, 1, none⟩ (.int .i64 ((rd_T86 l0 x27_1).f1)))).cell? _ = some _ from q6)); (try have hy161_4 := fun (n_ : Nat) => (show ((((w18.drewN n_).setCell ⟨q0, 0, none⟩ (.string ((rd_T86 l0 x27_1).f0))).setCell ⟨q0, 1, none⟩ (.int .i64 ((rd_T86 l0 x27_1).f1)))).cell? _ = some _ from q7)); (try have hy161_5 := fun (n_ : Nat) => (show ((((w18.drewN n_).setCell ⟨q0, 0, none⟩ (.string ((rd_T86 l0 x27_1).f0))).setCell ⟨q0, 1, none⟩ (.int .i64 ((rd_T86 l0 x27_1).f1)))).cell? _ = some _ from q8)); clear hn161_0; clear hn161_1; replace p161 := eq_true p161; replace q161 := eq_true q161)); try go_wp2_with (first | ((with_reducible refine gate_dst (N := 8) rfl ?_); refine bx 8 #[.string (⟨#[]⟩ : ByteArray), .int .i64 0] 86 ?_; intro q0 hg w18 hbox hb; have n0_ := Bb q1 hb; have n1_ := bs HB hb; have n2_ := Qaa.mk (hbox); have n3_ := Qaa.mk ((by rw [hg]; exact (below_size (bl HB)) : w.heap.size ≤ q0)); have n4_ := Qaa.mk ((by rw [hg]; exact (below_size (bl HB)) : w.heap.size ≤ q0)); have n5_ := Qaa.mk ((by rw [hg]; exact Nat.ne_of_lt (blk_lt (Ub q1)) : q3 ≠ q0)); have n6_ := Qaa.mk ((by rw [hg]; exact Nat.ne_of_gt (blk_lt (Ub q1)) : q0 ≠ q3)); clear q1; clear HB; have q1 := n0_; have HB := n1_; have j4 := n2_; have z3 := n3_; have Qk := n4_; have j3 := n5_; have j5 := n6_; clear n0_ n1_ n2_ n3_ n4_ n5_ n6_; clear hb hbox hg; have Jq := j5.out; have Jr := j3.out; have Z2 : w18.cell? ⟨q0, 0, none⟩ = some (.string (⟨#[]⟩ : ByteArray)) := (blk_cell j4.out 0).trans rfl; have Z3 : w18.cell? ⟨q0, 1, none⟩ = some (.int .i64 0) := (blk_cell j4.out 1).trans rfl; have Z4 := blk_frozen j4.out 0; have Z5 := blk_frozen j4.out 1; have Z6 : w18.cell? ⟨q3, 0, none⟩ = some (.int .i64 j1) := (blk_cell q1.out 0).trans rfl; have Z7 : w18.cell? ⟨q3, 1, none⟩ = some (.slice j8 q9.length j9) := (blk_cell q1.out 1).trans rfl; have Z8 : w18.cell? ⟨q3, 2, none⟩ = some (.bool j2) := (blk_cell q1.out 2).trans rfl; have Z9 : w18.cell? ⟨q3, 3, none⟩ = some (.slice z0 j0.length z1) := (blk_cell q1.out 3).trans rfl; have Za := blk_frozen q1.out 0; have Zb := blk_frozen q1.out 1; have Zc := blk_frozen q1.out 2; have Zd := blk_frozen q1.out 3; have p161 : 0 ≤ (x27_1 : Int) := of_decide_eq_true (by first | (with_reducible assumption) | assumption); have q161 : x27_1 < (q9.length : Int) := of_decide_eq_true (by first | (with_reducible assumption) | assumption); obtain ⟨ad161, Q9, Qa, Qb, Qc, Qd, Qe, Qf, Qg, Qh, Qi, e161, q2, q4, q5, q6, q7, q8, hl161_1, hi161_1, hl161_2, hi161_2, hl161_3, hi161_3, hl161_4, hi161_4, hl161_5, hi161_5⟩ := at_T39 z2.out x27_1 p161 q161; cases e161; have hn161_0 : ad161.block ≠ q0 := Nat.ne_of_lt (Nat.lt_of_lt_of_le (by have := World.block_lt_of_cell? _ _ q2; first | rwa [add_block] at this | exact this) z3.out); have hn161_1 : ad161.block ≠ q0 := Nat.ne_of_lt (Nat.lt_of_lt_of_le (by have := World.block_lt_of_cell? _ _ q2; first | rwa [add_block] at this | exact this) z3.out); replace q2 := (HB.out.cell (World.block_lt_of_cell? w _ q2)).trans q2; replace q4 := (HB.out.cell (World.block_lt_of_cell? w _ q4)).trans q4; replace q5 := (HB.out.cell (World.block_lt_of_cell? w _ q5)).trans q5; replace q6 := (HB.out.cell (World.block_lt_of_cell? w _ q6)).trans q6; replace q7 := (HB.out.cell (World.block_lt_of_cell? w _ q7)).trans q7; replace q8 := (HB.out.cell (World.block_lt_of_cell? w _ q8)).trans q8; have y8 := Qaa.mk hi161_1; have y9 := Qaa.mk hl161_1; clear hi161_1 hl161_1; have Q0 := Qaa.mk hi161_2; have Q1 := Qaa.mk hl161_2; clear hi161_2 hl161_2; have Q2 := Qaa.mk hi161_3; have Q3 := Qaa.mk hl161_3; clear hi161_3 hl161_3; have Q4 := Qaa.mk hi161_4; have Q5 := Qaa.mk hl161_4; clear hi161_4 hl161_4; have Q6 := Qaa.mk hi161_5; have Q7 := Qaa.mk hl161_5; clear hi161_5 hl161_5; replace q2 := (cell_far (p := ⟨q0, 0, none⟩) (by first | (rw [add_block]; exact hn161_0) | (show (Addr.add _ _).block ≠ _; rw [add_block]; exact hn161_0) | exact hn161_0) (.string ((rd_T86 l0 x27_1).f0))).trans q2; replace q4 := (cell_far (p := ⟨q0, 0, none⟩) (by first | (rw [add_block]; exact hn161_0) | (show (Addr.add _ _).block ≠ _; rw [add_block]; exact hn161_0) | exact hn161_0) (.string ((rd_T86 l0 x27_1).f0))).trans q4; replace q5 := (cell_far (p := ⟨q0, 0, none⟩) (by first | (rw [add_block]; exact hn161_0) | (show (Addr.add _ _).block ≠ _; rw [add_block]; exact hn161_0) | exact hn161_0) (.string ((rd_T86 l0 x27_1).f0))).trans q5; replace q6 := (cell_far (p := ⟨q0, 0, none⟩) (by first | (rw [add_block]; exact hn161_0) | (show (Addr.add _ _).block ≠ _; rw [add_block]; exact hn161_0) | exact hn161_0) (.string ((rd_T86 l0 x27_1).f0))).trans q6; replace q7 := (cell_far (p := ⟨q0, 0, none⟩) (by first | (rw [add_block]; exact hn161_0) | (show (Addr.add _ _).block ≠ _; rw [add_block]; exact hn161_0) | exact hn161_0) (.string ((rd_T86 l0 x27_1).f0))).trans q7; replace q8 := (cell_far (p := ⟨q0, 0, none⟩) (by first | (rw [add_block]; exact hn161_0) | (show (Addr.add _ _).block ≠ _; rw [add_block]; exact hn161_0) | exact hn161_0) (.string ((rd_T86 l0 x27_1).f0))).trans q8; replace q2 := (cell_far (p := ⟨q0, 1, none⟩) (by first | (rw [add_block]; exact hn161_1) | (show (Addr.add _ _).block ≠ _; rw [add_block]; exact hn161_1) | exact hn161_1) (.int .i64 ((rd_T86 l0 x27_1).f1))).trans q2; replace q4 := (cell_far (p := ⟨q0, 1, none⟩) (by first | (rw [add_block]; exact hn161_1) | (show (Addr.add _ _).block ≠ _; rw [add_block]; exact hn161_1) | exact hn161_1) (.int .i64 ((rd_T86 l0 x27_1).f1))).trans q4; replace q5 := (cell_far (p := ⟨q0, 1, none⟩) (by first | (rw [add_block]; exact hn161_1) | (show (Addr.add _ _).block ≠ _; rw [add_block]; exact hn161_1) | exact hn161_1) (.int .i64 ((rd_T86 l0 x27_1).f1))).trans q5; replace q6 := (cell_far (p := ⟨q0, 1, none⟩) (by first | (rw [add_block]; exact hn161_1) | (show (Addr.add _ _).block ≠ _; rw [add_block]; exact hn161_1) | exact hn161_1) (.int .i64 ((rd_T86 l0 x27_1).f1))).trans q6; replace q7 := (cell_far (p := ⟨q0, 1, none⟩) (by first | (rw [add_block]; exact hn161_1) | (show (Addr.add _ _).block ≠ _; rw [add_block]; exact hn161_1) | exact hn161_1) (.int .i64 ((rd_T86 l0 x27_1).f1))).trans q7; replace q8 := (cell_far (p := ⟨q0, 1, none⟩) (by first | (rw [add_block]; exact hn161_1) | (show (Addr.add _ _).block ≠ _; rw [add_block]; exact hn161_1) | exact hn161_1) (.int .i64 ((rd_T86 l0 x27_1).f1))).trans q8; (try have hy161_0 := fun (n_ : Nat) => (show ((((w18.drewN n_).setCell ⟨q0, 0, none⟩ (.string ((rd_T86 l0 x27_1).f0))).setCell ⟨q0, 1, none⟩ (.int .i64 ((rd_T86 l0 x27_1).f1)))).cell? _ = some _ from q2)); (try have hy161_1 := fun (n_ : Nat) => (show ((((w18.drewN n_).setCell ⟨q0, 0, none⟩ (.string ((rd_T86 l0 x27_1).f0))).setCell ⟨q0, 1, none⟩ (.int .i64 ((rd_T86 l0 x27_1).f1)))).cell? _ = some _ from q4)); (try have hy161_2 := fun (n_ : Nat) => (show ((((w18.drewN n_).setCell ⟨q0, 0, none⟩ (.string ((rd_T86 l0 x27_1).f0))).setCell ⟨q0, 1, none⟩ (.int .i64 ((rd_T86 l0 x27_1).f1)))).cell? _ = some _ from q5)); (try have hy161_3 := fun (n_ : Nat) => (show ((((w18.drewN n_).setCell ⟨q0, 0, none⟩ (.string ((rd_T86 l0 x27_1).f0))).setCell ⟨q0, 1, none⟩ (.int .i64 ((rd_T86 l0 x27_1).f1)))).cell? _ = some _ from q6)); (try have hy161_4 := fun (n_ : Nat) => (show ((((w18.drewN n_).setCell ⟨q0, 0, none⟩ (.string ((rd_T86 l0 x27_1).f0))).setCell ⟨q0, 1, none⟩ (.int .i64 ((rd_T86 l0 x27_1).f1)))).cell? _ = some _ from q7)); (try have hy161_5 := fun (n_ : Nat) => (show ((((w18.drewN n_).setCell ⟨q0, 0, none⟩ (.string ((rd_T86 l0 x27_1).f0))).setCell ⟨q0, 1, none⟩ (.int .i64 ((rd_T86 l0 x27_1).f1)))).cell? _ = some _ from q8)); clear hn161_0; clear hn161_1; replace p161 := eq_true p161; replace q161 := eq_true q161)))
           go_roundg k1
           case measure => have := HK1.out; omega
           case rel => exact ⟨(wrap64 (x27_1 + 1)), (by first | rfl | (simp; done) | (simp [*]; done)), H', ⟨by have := HK1.out; omega⟩, ⟨by apply blk_u; refine blk_far ?_ j3.out _; apply blk_u; refine blk_far ?_ j3.out _; apply blk_u; exact q1.out⟩, ⟨bl HB⟩⟩
          ·
           rw [if_neg c17] at H
           have Y5 : (((rd_T39 q9 x27_1).f0) == ((rd_T86 l0 x27_1).f1)) = false := beq_eq_false_iff_ne.mpr c17
           have Y6 : (((rd_T39 q9 x27_1).f0) != ((rd_T86 l0 x27_1).f1)) = true := bne_iff_ne.mpr c17
           obtain rfl := Option.some.inj H
           have p159 : 0 ≤ (x27_1 : Int) := of_decide_eq_true (by first | (with_reducible assumption) | assumption)
           have q159 : x27_1 < (l0.length : Int) := of_decide_eq_true (by first | (with_reducible assumption) | assumption)
           obtain ⟨ad159, e159, z9, y7⟩ := at_T86 Q8.out x27_1 p159 q159
           cases e159
           replace z9 := (HB.out.cell (World.block_lt_of_cell? w _ z9)).trans z9
           replace y7 := (HB.out.cell (World.block_lt_of_cell? w _ y7)).trans y7
           replace p159 := eq_true p159
           replace q159 := eq_true q159
           go_wp2_with (first | ((with_reducible refine gate_dst (N := 8) rfl ?_); refine bx 8 #[.string (⟨#[]⟩ : ByteArray), .int .i64 0] 86 ?_; intro q0 hg w22 hbox hb; have j4 := Qaa.mk (hbox); have z3 := Qaa.mk ((by rw [hg]; exact (below_size (bl HB)) : w.heap.size ≤ q0)); have Qk := Qaa.mk ((by rw [hg]; exact (below_size (bl HB)) : w.heap.size ≤ q0)); have j3 := Qaa.mk ((by rw [hg]; exact Nat.ne_of_lt (blk_lt (Ub q1)) : q3 ≠ q0)); have j5 := Qaa.mk ((by rw [hg]; exact Nat.ne_of_gt (blk_lt (Ub q1)) : q0 ≠ q3)); replace q1 := Bb q1 hb; replace HB := bs HB hb; clear hb hbox hg; have Js := j5.out; have Jt := j3.out; obtain ⟨Ze, Zf, Zg, Zh⟩ := cf2 j4; obtain ⟨Zi, Zj, Zk, Zl, Zm, Zn, Zo, Zp⟩ := cf4 q1; have p161 : 0 ≤ (x27_1 : Int) := of_decide_eq_true (by first | (with_reducible assumption) | assumption); have q161 : x27_1 < (q9.length : Int) := of_decide_eq_true (by first | (with_reducible assumption) | assumption); obtain ⟨ad161, Q9, Qa, Qb, Qc, Qd, Qe, Qf, Qg, Qh, Qi, e161, q2, q4, q5, q6, q7, q8, hl161_1, hi161_1, hl161_2, hi161_2, hl161_3, hi161_3, hl161_4, hi161_4, hl161_5, hi161_5⟩ := at_T39 z2.out x27_1 p161 q161; cases e161; have hn161_0 : ad161.block ≠ q0 := Nat.ne_of_lt (Nat.lt_of_lt_of_le (by have := World.block_lt_of_cell? _ _ q2; first | rwa [add_block] at this | exact this) z3.out); have hn161_1 : ad161.block ≠ q0 := Nat.ne_of_lt (Nat.lt_of_lt_of_le (by have := World.block_lt_of_cell? _ _ q2; first | rwa [add_block] at this | exact this) z3.out); replace q2 := (HB.out.cell (World.block_lt_of_cell? w _ q2)).trans q2; replace q4 := (HB.out.cell (World.block_lt_of_cell? w _ q4)).trans q4; replace q5 := (HB.out.cell (World.block_lt_of_cell? w _ q5)).trans q5; replace q6 := (HB.out.cell (World.block_lt_of_cell? w _ q6)).trans q6; replace q7 := (HB.out.cell (World.block_lt_of_cell? w _ q7)).trans q7; replace q8 := (HB.out.cell (World.block_lt_of_cell? w _ q8)).trans q8; have y8 := Qaa.mk hi161_1; have y9 := Qaa.mk hl161_1; clear hi161_1 hl161_1; have Q0 := Qaa.mk hi161_2; have Q1 := Qaa.mk hl161_2; clear hi161_2 hl161_2; have Q2 := Qaa.mk hi161_3; have Q3 := Qaa.mk hl161_3; clear hi161_3 hl161_3; have Q4 := Qaa.mk hi161_4; have Q5 := Qaa.mk hl161_4; clear hi161_4 hl161_4; have Q6 := Qaa.mk hi161_5; have Q7 := Qaa.mk hl161_5; clear hi161_5 hl161_5; replace q2 := (cell_far (p := ⟨q0, 0, none⟩) (by first | (rw [add_block]; exact hn161_0) | (show (Addr.add _ _).block ≠ _; rw [add_block]; exact hn161_0) | exact hn161_0) (.string ((rd_T86 l0 x27_1).f0))).trans q2; replace q4 := (cell_far (p := ⟨q0, 0, none⟩) (by first | (rw [add_block]; exact hn161_0) | (show (Addr.add _ _).block ≠ _; rw [add_block]; exact hn161_0) | exact hn161_0) (.string ((rd_T86 l0 x27_1).f0))).trans q4; replace q5 := (cell_far (p := ⟨q0, 0, none⟩) (by first | (rw [add_block]; exact hn161_0) | (show (Addr.add _ _).block ≠ _; rw [add_block]; exact hn161_0) | exact hn161_0) (.string ((rd_T86 l0 x27_1).f0))).trans q5; replace q6 := (cell_far (p := ⟨q0, 0, none⟩) (by first | (rw [add_block]; exact hn161_0) | (show (Addr.add _ _).block ≠ _; rw [add_block]; exact hn161_0) | exact hn161_0) (.string ((rd_T86 l0 x27_1).f0))).trans q6; replace q7 := (cell_far (p := ⟨q0, 0, none⟩) (by first | (rw [add_block]; exact hn161_0) | (show (Addr.add _ _).block ≠ _; rw [add_block]; exact hn161_0) | exact hn161_0) (.string ((rd_T86 l0 x27_1).f0))).trans q7; replace q8 := (cell_far (p := ⟨q0, 0, none⟩) (by first | (rw [add_block]; exact hn161_0) | (show (Addr.add _ _).block ≠ _; rw [add_block]; exact hn161_0) | exact hn161_0) (.string ((rd_T86 l0 x27_1).f0))).trans q8; replace q2 := (cell_far (p := ⟨q0, 1, none⟩) (by first | (rw [add_block]; exact hn161_1) | (show (Addr.add _ _).block ≠ _; rw [add_block]; exact hn161_1) | exact hn161_1) (.int .i64 ((rd_T86 l0 x27_1).f1))).trans q2; replace q4 := (cell_far (p := ⟨q0, 1, none⟩) (by first | (rw [add_block]; exact hn161_1) | (show (Addr.add _ _).block ≠ _; rw [add_block]; exact hn161_1) | exact hn161_1) (.int .i64 ((rd_T86 l0 x27_1).f1))).trans q4; replace q5 := (cell_far (p := ⟨q0, 1, none⟩) (by first | (rw [add_block]; exact hn161_1) | (show (Addr.add _ _).block ≠ _; rw [add_block]; exact hn161_1) | exact hn161_1) (.int .i64 ((rd_T86 l0 x27_1).f1))).trans q5; replace q6 := (cell_far (p := ⟨q0, 1, none⟩) (by first | (rw [add_block]; exact hn161_1) | (show (Addr.add _ _).block ≠ _; rw [add_block]; exact hn161_1) | exact hn161_1) (.int .i64 ((rd_T86 l0 x27_1).f1))).trans q6; replace q7 := (cell_far (p := ⟨q0, 1, none⟩) (by first | (rw [add_block]; exact hn161_1) | (show (Addr.add _ _).block ≠ _; rw [add_block]; exact hn161_1) | exact hn161_1) (.int .i64 ((rd_T86 l0 x27_1).f1))).trans q7; replace q8 := (cell_far (p := ⟨q0, 1, none⟩) (by first | (rw [add_block]; exact hn161_1) | (show (Addr.add _ _).block ≠ _; rw [add_block]; exact hn161_1) | exact hn161_1) (.int .i64 ((rd_T86 l0 x27_1).f1))).trans q8; (try have hy161_0 := fun (n_ : Nat) => (show ((((w22.drewN n_).setCell ⟨q0, 0, none⟩ (.string ((rd_T86 l0 x27_1).f0))).setCell ⟨q0, 1, none⟩ (.int .i64 ((rd_T86 l0 x27_1).f1)))).cell? _ = some _ from q2)); (try have hy161_1 := fun (n_ : Nat) => (show ((((w22.drewN n_).setCell ⟨q0, 0, none⟩ (.string ((rd_T86 l0 x27_1).f0))).setCell ⟨q0, 1, none⟩ (.int .i64 ((rd_T86 l0 x27_1).f1)))).cell? _ = some _ from q4)); (try have hy161_2 := fun (n_ : Nat) => (show ((((w22.drewN n_).setCell ⟨q0, 0, none⟩ (.string ((rd_T86 l0 x27_1).f0))).setCell ⟨q0, 1, none⟩ (.int .i64 ((rd_T86 l0 x27_1).f1)))).cell? _ = some _ from q5)); (try have hy161_3 := fun (n_ : Nat) => (show ((((w22.drewN n_).setCell ⟨q0, 0, none⟩ (.string ((rd_T86 l0 x27_1).f0))).setCell ⟨q0, 1, none⟩ (.int .i64 ((rd_T86 l0 x27_1).f1)))).cell? _ = some _ from q6)); (try have hy161_4 := fun (n_ : Nat) => (show ((((w22.drewN n_).setCell ⟨q0, 0, none⟩ (.string ((rd_T86 l0 x27_1).f0))).setCell ⟨q0, 1, none⟩ (.int .i64 ((rd_T86 l0 x27_1).f1)))).cell? _ = some _ from q7)); (try have hy161_5 := fun (n_ : Nat) => (show ((((w22.drewN n_).setCell ⟨q0, 0, none⟩ (.string ((rd_T86 l0 x27_1).f0))).setCell ⟨q0, 1, none⟩ (.int .i64 ((rd_T86 l0 x27_1).f1)))).cell? _ = some _ from q8)); clear hn161_0; clear hn161_1; replace p161 := eq_true p161; replace q161 := eq_true q161))
           repeat (go_quiet (first | ((with_reducible refine gate_dst (N := 8) rfl ?_); refine bx 8 #[.string (⟨#[]⟩ : ByteArray), .int .i64 0] 86 ?_; intro q0 hg w22 hbox hb; have n0_ := Bb q1 hb; have n1_ := bs HB hb; have n2_ := Qaa.mk (hbox); have n3_ := Qaa.mk ((by rw [hg]; exact (below_size (bl HB)) : w.heap.size ≤ q0)); have n4_ := Qaa.mk ((by rw [hg]; exact (below_size (bl HB)) : w.heap.size ≤ q0)); have n5_ := Qaa.mk ((by rw [hg]; exact Nat.ne_of_lt (blk_lt (Ub q1)) : q3 ≠ q0)); have n6_ := Qaa.mk ((by rw [hg]; exact Nat.ne_of_gt (blk_lt (Ub q1)) : q0 ≠ q3)); clear q1; clear HB; have q1 := n0_; have HB := n1_; have j4 := n2_; have z3 := n3_; have Qk := n4_; have j3 := n5_; have j5 := n6_; clear n0_ n1_ n2_ n3_ n4_ n5_ n6_; clear hb hbox hg; have Js := j5.out; have Jt := j3.out; have Ze : w22.cell? ⟨q0, 0, none⟩ = some (.string (⟨#[]⟩ : ByteArray)) := (blk_cell j4.out 0).trans rfl; have Zf : w22.cell? ⟨q0, 1, none⟩ = some (.int .i64 0) := (blk_cell j4.out 1).trans rfl; have Zg := blk_frozen j4.out 0; have Zh := blk_frozen j4.out 1; have Zi : w22.cell? ⟨q3, 0, none⟩ = some (.int .i64 j1) := (blk_cell q1.out 0).trans rfl; have Zj : w22.cell? ⟨q3, 1, none⟩ = some (.slice j8 q9.length j9) := (blk_cell q1.out 1).trans rfl; have Zk : w22.cell? ⟨q3, 2, none⟩ = some (.bool j2) := (blk_cell q1.out 2).trans rfl; have Zl : w22.cell? ⟨q3, 3, none⟩ = some (.slice z0 j0.length z1) := (blk_cell q1.out 3).trans rfl; have Zm := blk_frozen q1.out 0; have Zn := blk_frozen q1.out 1; have Zo := blk_frozen q1.out 2; have Zp := blk_frozen q1.out 3; have p161 : 0 ≤ (x27_1 : Int) := of_decide_eq_true (by first | (with_reducible assumption) | assumption); have q161 : x27_1 < (q9.length : Int) := of_decide_eq_true (by first | (with_reducible assumption) | assumption); obtain ⟨ad161, Q9, Qa, Qb, Qc, Qd, Qe, Qf, Qg, Qh, Qi, e161, q2, q4, q5, q6, q7, q8, hl161_1, hi161_1, hl161_2, hi161_2, hl161_3, hi161_3, hl161_4, hi161_4, hl161_5, hi161_5⟩ := at_T39 z2.out x27_1 p161 q161; cases e161; have hn161_0 : ad161.block ≠ q0 := Nat.ne_of_lt (Nat.lt_of_lt_of_le (by have := World.block_lt_of_cell? _ _ q2; first | rwa [add_block] at this | exact this) z3.out); have hn161_1 : ad161.block ≠ q0 := Nat.ne_of_lt (Nat.lt_of_lt_of_le (by have := World.block_lt_of_cell? _ _ q2; first | rwa [add_block] at this | exact this) z3.out); replace q2 := (HB.out.cell (World.block_lt_of_cell? w _ q2)).trans q2; replace q4 := (HB.out.cell (World.block_lt_of_cell? w _ q4)).trans q4; replace q5 := (HB.out.cell (World.block_lt_of_cell? w _ q5)).trans q5; replace q6 := (HB.out.cell (World.block_lt_of_cell? w _ q6)).trans q6; replace q7 := (HB.out.cell (World.block_lt_of_cell? w _ q7)).trans q7; replace q8 := (HB.out.cell (World.block_lt_of_cell? w _ q8)).trans q8; have y8 := Qaa.mk hi161_1; have y9 := Qaa.mk hl161_1; clear hi161_1 hl161_1; have Q0 := Qaa.mk hi161_2; have Q1 := Qaa.mk hl161_2; clear hi161_2 hl161_2; have Q2 := Qaa.mk hi161_3; have Q3 := Qaa.mk hl161_3; clear hi161_3 hl161_3; have Q4 := Qaa.mk hi161_4; have Q5 := Qaa.mk hl161_4; clear hi161_4 hl161_4; have Q6 := Qaa.mk hi161_5; have Q7 := Qaa.mk hl161_5; clear hi161_5 hl161_5; replace q2 := (cell_far (p := ⟨q0, 0, none⟩) (by first | (rw [add_block]; exact hn161_0) | (show (Addr.add _ _).block ≠ _; rw [add_block]; exact hn161_0) | exact hn161_0) (.string ((rd_T86 l0 x27_1).f0))).trans q2; replace q4 := (cell_far (p := ⟨q0, 0, none⟩) (by first | (rw [add_block]; exact hn161_0) | (show (Addr.add _ _).block ≠ _; rw [add_block]; exact hn161_0) | exact hn161_0) (.string ((rd_T86 l0 x27_1).f0))).trans q4; replace q5 := (cell_far (p := ⟨q0, 0, none⟩) (by first | (rw [add_block]; exact hn161_0) | (show (Addr.add _ _).block ≠ _; rw [add_block]; exact hn161_0) | exact hn161_0) (.string ((rd_T86 l0 x27_1).f0))).trans q5; replace q6 := (cell_far (p := ⟨q0, 0, none⟩) (by first | (rw [add_block]; exact hn161_0) | (show (Addr.add _ _).block ≠ _; rw [add_block]; exact hn161_0) | exact hn161_0) (.string ((rd_T86 l0 x27_1).f0))).trans q6; replace q7 := (cell_far (p := ⟨q0, 0, none⟩) (by first | (rw [add_block]; exact hn161_0) | (show (Addr.add _ _).block ≠ _; rw [add_block]; exact hn161_0) | exact hn161_0) (.string ((rd_T86 l0 x27_1).f0))).trans q7; replace q8 := (cell_far (p := ⟨q0, 0, none⟩) (by first | (rw [add_block]; exact hn161_0) | (show (Addr.add _ _).block ≠ _; rw [add_block]; exact hn161_0) | exact hn161_0) (.string ((rd_T86 l0 x27_1).f0))).trans q8; replace q2 := (cell_far (p := ⟨q0, 1, none⟩) (by first | (rw [add_block]; exact hn161_1) | (show (Addr.add _ _).block ≠ _; rw [add_block]; exact hn161_1) | exact hn161_1) (.int .i64 ((rd_T86 l0 x27_1).f1))).trans q2; replace q4 := (cell_far (p := ⟨q0, 1, none⟩) (by first | (rw [add_block]; exact hn161_1) | (show (Addr.add _ _).block ≠ _; rw [add_block]; exact hn161_1) | exact hn161_1) (.int .i64 ((rd_T86 l0 x27_1).f1))).trans q4; replace q5 := (cell_far (p := ⟨q0, 1, none⟩) (by first | (rw [add_block]; exact hn161_1) | (show (Addr.add _ _).block ≠ _; rw [add_block]; exact hn161_1) | exact hn161_1) (.int .i64 ((rd_T86 l0 x27_1).f1))).trans q5; replace q6 := (cell_far (p := ⟨q0, 1, none⟩) (by first | (rw [add_block]; exact hn161_1) | (show (Addr.add _ _).block ≠ _; rw [add_block]; exact hn161_1) | exact hn161_1) (.int .i64 ((rd_T86 l0 x27_1).f1))).trans q6; replace q7 := (cell_far (p := ⟨q0, 1, none⟩) (by first | (rw [add_block]; exact hn161_1) | (show (Addr.add _ _).block ≠ _; rw [add_block]; exact hn161_1) | exact hn161_1) (.int .i64 ((rd_T86 l0 x27_1).f1))).trans q7; replace q8 := (cell_far (p := ⟨q0, 1, none⟩) (by first | (rw [add_block]; exact hn161_1) | (show (Addr.add _ _).block ≠ _; rw [add_block]; exact hn161_1) | exact hn161_1) (.int .i64 ((rd_T86 l0 x27_1).f1))).trans q8; (try have hy161_0 := fun (n_ : Nat) => (show ((((w22.drewN n_).setCell ⟨q0, 0, none⟩ (.string ((rd_T86 l0 x27_1).f0))).setCell ⟨q0, 1, none⟩ (.int .i64 ((rd_T86 l0 x27_1).f1)))).cell? _ = some _ from q2)); (try have hy161_1 := fun (n_ : Nat) => (show ((((w22.drewN n_).setCell ⟨q0, 0, none⟩ (.string ((rd_T86 l0 x27_1).f0))).setCell ⟨q0, 1, none⟩ (.int .i64 ((rd_T86 l0 x27_1).f1)))).cell? _ = some _ from q4)); (try have hy161_2 := fun (n_ : Nat) => (show ((((w22.drewN n_).setCell ⟨q0, 0, none⟩ (.string ((rd_T86 l0 x27_1).f0))).setCell ⟨q0, 1, none⟩ (.int .i64 ((rd_T86 l0 x27_1).f1)))).cell? _ = some _ from q5)); (try have hy161_3 := fun (n_ : Nat) => (show ((((w22.drewN n_).setCell ⟨q0, 0, none⟩ (.string ((rd_T86 l0 x27_1).f0))).setCell ⟨q0, 1, none⟩ (.int .i64 ((rd_T86 l0 x27_1).f1)))).cell? _ = some _ from q6)); (try have hy161_4 := fun (n_ : Nat) => (show ((((w22.drewN n_).setCell ⟨q0, 0, none⟩ (.string ((rd_T86 l0 x27_1).f0))).setCell ⟨q0, 1, none⟩ (.int .i64 ((rd_T86 l0 x27_1).f1)))).cell? _ = some _ from q7)); (try have hy161_5 := fun (n_ : Nat) => (show ((((w22.drewN n_).setCell ⟨q0, 0, none⟩ (.string ((rd_T86 l0 x27_1).f0))).setCell ⟨q0, 1, none⟩ (.int .i64 ((rd_T86 l0 x27_1).f1)))).cell? _ = some _ from q8)); clear hn161_0; clear hn161_1; replace p161 := eq_true p161; replace q161 := eq_true q161)); try go_wp2_with (first | ((with_reducible refine gate_dst (N := 8) rfl ?_); refine bx 8 #[.string (⟨#[]⟩ : ByteArray), .int .i64 0] 86 ?_; intro q0 hg w22 hbox hb; have n0_ := Bb q1 hb; have n1_ := bs HB hb; have n2_ := Qaa.mk (hbox); have n3_ := Qaa.mk ((by rw [hg]; exact (below_size (bl HB)) : w.heap.size ≤ q0)); have n4_ := Qaa.mk ((by rw [hg]; exact (below_size (bl HB)) : w.heap.size ≤ q0)); have n5_ := Qaa.mk ((by rw [hg]; exact Nat.ne_of_lt (blk_lt (Ub q1)) : q3 ≠ q0)); have n6_ := Qaa.mk ((by rw [hg]; exact Nat.ne_of_gt (blk_lt (Ub q1)) : q0 ≠ q3)); clear q1; clear HB; have q1 := n0_; have HB := n1_; have j4 := n2_; have z3 := n3_; have Qk := n4_; have j3 := n5_; have j5 := n6_; clear n0_ n1_ n2_ n3_ n4_ n5_ n6_; clear hb hbox hg; have Js := j5.out; have Jt := j3.out; have Ze : w22.cell? ⟨q0, 0, none⟩ = some (.string (⟨#[]⟩ : ByteArray)) := (blk_cell j4.out 0).trans rfl; have Zf : w22.cell? ⟨q0, 1, none⟩ = some (.int .i64 0) := (blk_cell j4.out 1).trans rfl; have Zg := blk_frozen j4.out 0; have Zh := blk_frozen j4.out 1; have Zi : w22.cell? ⟨q3, 0, none⟩ = some (.int .i64 j1) := (blk_cell q1.out 0).trans rfl; have Zj : w22.cell? ⟨q3, 1, none⟩ = some (.slice j8 q9.length j9) := (blk_cell q1.out 1).trans rfl; have Zk : w22.cell? ⟨q3, 2, none⟩ = some (.bool j2) := (blk_cell q1.out 2).trans rfl; have Zl : w22.cell? ⟨q3, 3, none⟩ = some (.slice z0 j0.length z1) := (blk_cell q1.out 3).trans rfl; have Zm := blk_frozen q1.out 0; have Zn := blk_frozen q1.out 1; have Zo := blk_frozen q1.out 2; have Zp := blk_frozen q1.out 3; have p161 : 0 ≤ (x27_1 : Int) := of_decide_eq_true (by first | (with_reducible assumption) | assumption); have q161 : x27_1 < (q9.length : Int) := of_decide_eq_true (by first | (with_reducible assumption) | assumption); obtain ⟨ad161, Q9, Qa, Qb, Qc, Qd, Qe, Qf, Qg, Qh, Qi, e161, q2, q4, q5, q6, q7, q8, hl161_1, hi161_1, hl161_2, hi161_2, hl161_3, hi161_3, hl161_4, hi161_4, hl161_5, hi161_5⟩ := at_T39 z2.out x27_1 p161 q161; cases e161; have hn161_0 : ad161.block ≠ q0 := Nat.ne_of_lt (Nat.lt_of_lt_of_le (by have := World.block_lt_of_cell? _ _ q2; first | rwa [add_block] at this | exact this) z3.out); have hn161_1 : ad161.block ≠ q0 := Nat.ne_of_lt (Nat.lt_of_lt_of_le (by have := World.block_lt_of_cell? _ _ q2; first | rwa [add_block] at this | exact this) z3.out); replace q2 := (HB.out.cell (World.block_lt_of_cell? w _ q2)).trans q2; replace q4 := (HB.out.cell (World.block_lt_of_cell? w _ q4)).trans q4; replace q5 := (HB.out.cell (World.block_lt_of_cell? w _ q5)).trans q5; replace q6 := (HB.out.cell (World.block_lt_of_cell? w _ q6)).trans q6; replace q7 := (HB.out.cell (World.block_lt_of_cell? w _ q7)).trans q7; replace q8 := (HB.out.cell (World.block_lt_of_cell? w _ q8)).trans q8; have y8 := Qaa.mk hi161_1; have y9 := Qaa.mk hl161_1; clear hi161_1 hl161_1; have Q0 := Qaa.mk hi161_2; have Q1 := Qaa.mk hl161_2; clear hi161_2 hl161_2; have Q2 := Qaa.mk hi161_3; have Q3 := Qaa.mk hl161_3; clear hi161_3 hl161_3; have Q4 := Qaa.mk hi161_4; have Q5 := Qaa.mk hl161_4; clear hi161_4 hl161_4; have Q6 := Qaa.mk hi161_5; have Q7 := Qaa.mk hl161_5; clear hi161_5 hl161_5; replace q2 := (cell_far (p := ⟨q0, 0, none⟩) (by first | (rw [add_block]; exact hn161_0) | (show (Addr.add _ _).block ≠ _; rw [add_block]; exact hn161_0) | exact hn161_0) (.string ((rd_T86 l0 x27_1).f0))).trans q2; replace q4 := (cell_far (p := ⟨q0, 0, none⟩) (by first | (rw [add_block]; exact hn161_0) | (show (Addr.add _ _).block ≠ _; rw [add_block]; exact hn161_0) | exact hn161_0) (.string ((rd_T86 l0 x27_1).f0))).trans q4; replace q5 := (cell_far (p := ⟨q0, 0, none⟩) (by first | (rw [add_block]; exact hn161_0) | (show (Addr.add _ _).block ≠ _; rw [add_block]; exact hn161_0) | exact hn161_0) (.string ((rd_T86 l0 x27_1).f0))).trans q5; replace q6 := (cell_far (p := ⟨q0, 0, none⟩) (by first | (rw [add_block]; exact hn161_0) | (show (Addr.add _ _).block ≠ _; rw [add_block]; exact hn161_0) | exact hn161_0) (.string ((rd_T86 l0 x27_1).f0))).trans q6; replace q7 := (cell_far (p := ⟨q0, 0, none⟩) (by first | (rw [add_block]; exact hn161_0) | (show (Addr.add _ _).block ≠ _; rw [add_block]; exact hn161_0) | exact hn161_0) (.string ((rd_T86 l0 x27_1).f0))).trans q7; replace q8 := (cell_far (p := ⟨q0, 0, none⟩) (by first | (rw [add_block]; exact hn161_0) | (show (Addr.add _ _).block ≠ _; rw [add_block]; exact hn161_0) | exact hn161_0) (.string ((rd_T86 l0 x27_1).f0))).trans q8; replace q2 := (cell_far (p := ⟨q0, 1, none⟩) (by first | (rw [add_block]; exact hn161_1) | (show (Addr.add _ _).block ≠ _; rw [add_block]; exact hn161_1) | exact hn161_1) (.int .i64 ((rd_T86 l0 x27_1).f1))).trans q2; replace q4 := (cell_far (p := ⟨q0, 1, none⟩) (by first | (rw [add_block]; exact hn161_1) | (show (Addr.add _ _).block ≠ _; rw [add_block]; exact hn161_1) | exact hn161_1) (.int .i64 ((rd_T86 l0 x27_1).f1))).trans q4; replace q5 := (cell_far (p := ⟨q0, 1, none⟩) (by first | (rw [add_block]; exact hn161_1) | (show (Addr.add _ _).block ≠ _; rw [add_block]; exact hn161_1) | exact hn161_1) (.int .i64 ((rd_T86 l0 x27_1).f1))).trans q5; replace q6 := (cell_far (p := ⟨q0, 1, none⟩) (by first | (rw [add_block]; exact hn161_1) | (show (Addr.add _ _).block ≠ _; rw [add_block]; exact hn161_1) | exact hn161_1) (.int .i64 ((rd_T86 l0 x27_1).f1))).trans q6; replace q7 := (cell_far (p := ⟨q0, 1, none⟩) (by first | (rw [add_block]; exact hn161_1) | (show (Addr.add _ _).block ≠ _; rw [add_block]; exact hn161_1) | exact hn161_1) (.int .i64 ((rd_T86 l0 x27_1).f1))).trans q7; replace q8 := (cell_far (p := ⟨q0, 1, none⟩) (by first | (rw [add_block]; exact hn161_1) | (show (Addr.add _ _).block ≠ _; rw [add_block]; exact hn161_1) | exact hn161_1) (.int .i64 ((rd_T86 l0 x27_1).f1))).trans q8; (try have hy161_0 := fun (n_ : Nat) => (show ((((w22.drewN n_).setCell ⟨q0, 0, none⟩ (.string ((rd_T86 l0 x27_1).f0))).setCell ⟨q0, 1, none⟩ (.int .i64 ((rd_T86 l0 x27_1).f1)))).cell? _ = some _ from q2)); (try have hy161_1 := fun (n_ : Nat) => (show ((((w22.drewN n_).setCell ⟨q0, 0, none⟩ (.string ((rd_T86 l0 x27_1).f0))).setCell ⟨q0, 1, none⟩ (.int .i64 ((rd_T86 l0 x27_1).f1)))).cell? _ = some _ from q4)); (try have hy161_2 := fun (n_ : Nat) => (show ((((w22.drewN n_).setCell ⟨q0, 0, none⟩ (.string ((rd_T86 l0 x27_1).f0))).setCell ⟨q0, 1, none⟩ (.int .i64 ((rd_T86 l0 x27_1).f1)))).cell? _ = some _ from q5)); (try have hy161_3 := fun (n_ : Nat) => (show ((((w22.drewN n_).setCell ⟨q0, 0, none⟩ (.string ((rd_T86 l0 x27_1).f0))).setCell ⟨q0, 1, none⟩ (.int .i64 ((rd_T86 l0 x27_1).f1)))).cell? _ = some _ from q6)); (try have hy161_4 := fun (n_ : Nat) => (show ((((w22.drewN n_).setCell ⟨q0, 0, none⟩ (.string ((rd_T86 l0 x27_1).f0))).setCell ⟨q0, 1, none⟩ (.int .i64 ((rd_T86 l0 x27_1).f1)))).cell? _ = some _ from q7)); (try have hy161_5 := fun (n_ : Nat) => (show ((((w22.drewN n_).setCell ⟨q0, 0, none⟩ (.string ((rd_T86 l0 x27_1).f0))).setCell ⟨q0, 1, none⟩ (.int .i64 ((rd_T86 l0 x27_1).f1)))).cell? _ = some _ from q8)); clear hn161_0; clear hn161_1; replace p161 := eq_true p161; replace q161 := eq_true q161)))
           go_ret
           exact ⟨by first | rfl | (simp [errW_none, errW_some] <;> rfl) | (simp [*, errW_none, errW_some] <;> rfl), bl HB⟩
         ·
          rw [if_neg c16] at H
          exact absurd H (by simp)
        ·
         rw [if_neg c15] at H
         exact absurd H (by simp)
       ·
        rw [if_neg c14] at H
        exact absurd H (by simp)
      ·
       rw [if_neg c13] at H
       have Y4 : decide (x27_1 < (l0.length : Int)) = false := decide_eq_false c13
       clear c13
       obtain rfl := Option.some.inj H
       go_wp2
       repeat (go_quiet (fail); try go_wp2)
       go_ret
       exact ⟨by first | rfl | (simp [errW_none, errW_some] <;> rfl) | (simp [*, errW_none, errW_some] <;> rfl), bl HB⟩
   ·
    rw [if_neg c7] at H
    have Y1 : ((l0.length : Int) == (q9.length : Int)) = false := beq_eq_false_iff_ne.mpr c7
    have Y2 : ((l0.length : Int) != (q9.length : Int)) = true := bne_iff_ne.mpr c7
    have Y3 : (l0.length == q9.length) = false := by first | simpa using c7 | (simp at c7 ⊢; omega)
    obtain rfl := Option.some.inj H
    go_enter Try.func37, Try.ntmps37
    go_wp2_with (first | ((with_reducible refine gate_dst (N := 3) rfl ?_); refine bx 3 #[.int .i64 j1, .slice j8 q9.length j9, .bool j2, .slice z0 j0.length z1] 26 ?_; intro q3 hg w26 hbox hb; have q1 := Qaa.mk (hbox); have z7 := Qaa.mk ((by rw [hg]; exact (below_size (bl HB)) : w.heap.size ≤ q3)); have z8 := Qaa.mk ((by rw [hg]; exact (below_size (bl HB)) : w.heap.size ≤ q3)); replace HB := bs HB hb; clear hb hbox hg; obtain ⟨Zq, Zr, Zs, Zt, Zu, Zv, Zw, Zx⟩ := cf4 q1) | (go_at_call 34; (with_reducible refine (Qac.calls k j1 _ _ q9 j2 _ _ j0 j6 _ ?side1 ?side2 ?side3 ?side4 A3.out).mono ?_); (case side1 => exact Cb z2 HB); (case side2 => exact z4.out); (case side3 => exact Cb z5 HB); (case side4 => exact z6.out); rintro e w28 ⟨rfl, hb⟩; replace q1 := Bb q1 hb; replace HB := bs HB hb; (try clear hb)) | (go_at_call 58; (with_reducible refine (Qad.calls k _ _ l0 j7 _ ?side1 ?side2 A5.out).mono ?_); (case side1 => exact Cb Q8 HB); (case side2 => exact Qj.out); rintro e w29 ⟨rfl, hb⟩; replace q1 := Bb q1 hb; replace HB := bs HB hb; (try clear hb); obtain ⟨Zy, Zz, J0, J1, J2, J3, J4, J5⟩ := cf4 q1))
    repeat (go_quiet (first | ((with_reducible refine gate_dst (N := 3) rfl ?_); refine bx 3 #[.int .i64 j1, .slice j8 q9.length j9, .bool j2, .slice z0 j0.length z1] 26 ?_; intro q3 hg w26 hbox hb; have q1 := Qaa.mk (hbox); have z7 := Qaa.mk ((by rw [hg]; exact (below_size (bl HB)) : w.heap.size ≤ q3)); have z8 := Qaa.mk ((by rw [hg]; exact (below_size (bl HB)) : w.heap.size ≤ q3)); replace HB := bs HB hb; clear hb hbox hg; obtain ⟨Zq, Zr, Zs, Zt, Zu, Zv, Zw, Zx⟩ := cf4 q1) | (go_at_call 34; (with_reducible refine (Qac.calls k j1 _ _ q9 j2 _ _ j0 j6 _ ?side1 ?side2 ?side3 ?side4 A3.out).mono ?_); (case side1 => exact Cb z2 HB); (case side2 => exact z4.out); (case side3 => exact Cb z5 HB); (case side4 => exact z6.out); rintro e w28 ⟨rfl, hb⟩; replace q1 := Bb q1 hb; replace HB := bs HB hb; (try clear hb)) | (go_at_call 58; (with_reducible refine (Qad.calls k _ _ l0 j7 _ ?side1 ?side2 A5.out).mono ?_); (case side1 => exact Cb Q8 HB); (case side2 => exact Qj.out); rintro e w29 ⟨rfl, hb⟩; have n0_ := Bb q1 hb; have n1_ := bs HB hb; clear q1; clear HB; have q1 := n0_; have HB := n1_; clear n0_ n1_; (try clear hb); (try clear hb2); (try clear hk); (try clear hi); have Zy : w29.cell? ⟨q3, 0, none⟩ = some (.int .i64 j1) := (blk_cell q1.out 0).trans rfl; have Zz : w29.cell? ⟨q3, 1, none⟩ = some (.slice j8 q9.length j9) := (blk_cell q1.out 1).trans rfl; have J0 : w29.cell? ⟨q3, 2, none⟩ = some (.bool j2) := (blk_cell q1.out 2).trans rfl; have J1 : w29.cell? ⟨q3, 3, none⟩ = some (.slice z0 j0.length z1) := (blk_cell q1.out 3).trans rfl; have J2 := blk_frozen q1.out 0; have J3 := blk_frozen q1.out 1; have J4 := blk_frozen q1.out 2; have J5 := blk_frozen q1.out 3)); try go_wp2_with (first | ((with_reducible refine gate_dst (N := 3) rfl ?_); refine bx 3 #[.int .i64 j1, .slice j8 q9.length j9, .bool j2, .slice z0 j0.length z1] 26 ?_; intro q3 hg w26 hbox hb; have q1 := Qaa.mk (hbox); have z7 := Qaa.mk ((by rw [hg]; exact (below_size (bl HB)) : w.heap.size ≤ q3)); have z8 := Qaa.mk ((by rw [hg]; exact (below_size (bl HB)) : w.heap.size ≤ q3)); replace HB := bs HB hb; clear hb hbox hg; obtain ⟨Zq, Zr, Zs, Zt, Zu, Zv, Zw, Zx⟩ := cf4 q1) | (go_at_call 34; (with_reducible refine (Qac.calls k j1 _ _ q9 j2 _ _ j0 j6 _ ?side1 ?side2 ?side3 ?side4 A3.out).mono ?_); (case side1 => exact Cb z2 HB); (case side2 => exact z4.out); (case side3 => exact Cb z5 HB); (case side4 => exact z6.out); rintro e w28 ⟨rfl, hb⟩; replace q1 := Bb q1 hb; replace HB := bs HB hb; (try clear hb)) | (go_at_call 58; (with_reducible refine (Qad.calls k _ _ l0 j7 _ ?side1 ?side2 A5.out).mono ?_); (case side1 => exact Cb Q8 HB); (case side2 => exact Qj.out); rintro e w29 ⟨rfl, hb⟩; have n0_ := Bb q1 hb; have n1_ := bs HB hb; clear q1; clear HB; have q1 := n0_; have HB := n1_; clear n0_ n1_; (try clear hb); (try clear hb2); (try clear hk); (try clear hi); have Zy : w29.cell? ⟨q3, 0, none⟩ = some (.int .i64 j1) := (blk_cell q1.out 0).trans rfl; have Zz : w29.cell? ⟨q3, 1, none⟩ = some (.slice j8 q9.length j9) := (blk_cell q1.out 1).trans rfl; have J0 : w29.cell? ⟨q3, 2, none⟩ = some (.bool j2) := (blk_cell q1.out 2).trans rfl; have J1 : w29.cell? ⟨q3, 3, none⟩ = some (.slice z0 j0.length z1) := (blk_cell q1.out 3).trans rfl; have J2 := blk_frozen q1.out 0; have J3 := blk_frozen q1.out 1; have J4 := blk_frozen q1.out 2; have J5 := blk_frozen q1.out 3)))
    go_ret
    exact ⟨by first | rfl | (simp [errW_none, errW_some] <;> rfl) | (simp [*, errW_none, errW_some] <;> rfl), bl HB⟩
  ·
   rw [if_neg c6] at H
   have Jz : (j7 == 0) = false := beq_eq_false_iff_ne.mpr c6
   have Y0 : (j7 != 0) = true := bne_iff_ne.mpr c6
   obtain rfl := Option.some.inj H
   go_enter Try.func37, Try.ntmps37
   go_wp2_with (first | ((with_reducible refine gate_dst (N := 3) rfl ?_); refine bx 3 #[.int .i64 j1, .slice j8 q9.length j9, .bool j2, .slice z0 j0.length z1] 26 ?_; intro q3 hg w31 hbox hb; have q1 := Qaa.mk (hbox); have z7 := Qaa.mk ((by rw [hg]; exact (below_size (bl HB)) : w.heap.size ≤ q3)); have z8 := Qaa.mk ((by rw [hg]; exact (below_size (bl HB)) : w.heap.size ≤ q3)); replace HB := bs HB hb; clear hb hbox hg; obtain ⟨J6, J7, J8, J9, Ja, Jb, Jc, Jd⟩ := cf4 q1) | (go_at_call 34; (with_reducible refine (Qac.calls k j1 _ _ q9 j2 _ _ j0 j6 _ ?side1 ?side2 ?side3 ?side4 A3.out).mono ?_); (case side1 => exact Cb z2 HB); (case side2 => exact z4.out); (case side3 => exact Cb z5 HB); (case side4 => exact z6.out); rintro e w33 ⟨rfl, hb⟩; replace q1 := Bb q1 hb; replace HB := bs HB hb; (try clear hb)) | (go_at_call 58; (with_reducible refine (Qad.calls k _ _ l0 j7 _ ?side1 ?side2 A5.out).mono ?_); (case side1 => exact Cb Q8 HB); (case side2 => exact Qj.out); rintro e w34 ⟨rfl, hb⟩; replace q1 := Bb q1 hb; replace HB := bs HB hb; (try clear hb)))
   repeat (go_quiet (first | ((with_reducible refine gate_dst (N := 3) rfl ?_); refine bx 3 #[.int .i64 j1, .slice j8 q9.length j9, .bool j2, .slice z0 j0.length z1] 26 ?_; intro q3 hg w31 hbox hb; have q1 := Qaa.mk (hbox); have z7 := Qaa.mk ((by rw [hg]; exact (below_size (bl HB)) : w.heap.size ≤ q3)); have z8 := Qaa.mk ((by rw [hg]; exact (below_size (bl HB)) : w.heap.size ≤ q3)); replace HB := bs HB hb; clear hb hbox hg; obtain ⟨J6, J7, J8, J9, Ja, Jb, Jc, Jd⟩ := cf4 q1) | (go_at_call 34; (with_reducible refine (Qac.calls k j1 _ _ q9 j2 _ _ j0 j6 _ ?side1 ?side2 ?side3 ?side4 A3.out).mono ?_); (case side1 => exact Cb z2 HB); (case side2 => exact z4.out); (case side3 => exact Cb z5 HB); (case side4 => exact z6.out); rintro e w33 ⟨rfl, hb⟩; replace q1 := Bb q1 hb; replace HB := bs HB hb; (try clear hb)) | (go_at_call 58; (with_reducible refine (Qad.calls k _ _ l0 j7 _ ?side1 ?side2 A5.out).mono ?_); (case side1 => exact Cb Q8 HB); (case side2 => exact Qj.out); rintro e w34 ⟨rfl, hb⟩; have n0_ := Bb q1 hb; have n1_ := bs HB hb; clear q1; clear HB; have q1 := n0_; have HB := n1_; clear n0_ n1_; (try clear hb); (try clear hb2); (try clear hk); (try clear hi))); try go_wp2_with (first | ((with_reducible refine gate_dst (N := 3) rfl ?_); refine bx 3 #[.int .i64 j1, .slice j8 q9.length j9, .bool j2, .slice z0 j0.length z1] 26 ?_; intro q3 hg w31 hbox hb; have q1 := Qaa.mk (hbox); have z7 := Qaa.mk ((by rw [hg]; exact (below_size (bl HB)) : w.heap.size ≤ q3)); have z8 := Qaa.mk ((by rw [hg]; exact (below_size (bl HB)) : w.heap.size ≤ q3)); replace HB := bs HB hb; clear hb hbox hg; obtain ⟨J6, J7, J8, J9, Ja, Jb, Jc, Jd⟩ := cf4 q1) | (go_at_call 34; (with_reducible refine (Qac.calls k j1 _ _ q9 j2 _ _ j0 j6 _ ?side1 ?side2 ?side3 ?side4 A3.out).mono ?_); (case side1 => exact Cb z2 HB); (case side2 => exact z4.out); (case side3 => exact Cb z5 HB); (case side4 => exact z6.out); rintro e w33 ⟨rfl, hb⟩; replace q1 := Bb q1 hb; replace HB := bs HB hb; (try clear hb)) | (go_at_call 58; (with_reducible refine (Qad.calls k _ _ l0 j7 _ ?side1 ?side2 A5.out).mono ?_); (case side1 => exact Cb Q8 HB); (case side2 => exact Qj.out); rintro e w34 ⟨rfl, hb⟩; have n0_ := Bb q1 hb; have n1_ := bs HB hb; clear q1; clear HB; have q1 := n0_; have HB := n1_; clear n0_ n1_; (try clear hb); (try clear hb2); (try clear hk); (try clear hi))))
   go_ret
   exact ⟨by first | rfl | (simp [errW_none, errW_some] <;> rfl) | (simp [*, errW_none, errW_some] <;> rfl), bl HB⟩
 ·
  rw [if_neg c4] at H
  have Jx : (j6 == 0) = false := beq_eq_false_iff_ne.mpr c4
  have Jy : (j6 != 0) = true := bne_iff_ne.mpr c4
  obtain rfl := Option.some.inj H
  go_enter Try.func37, Try.ntmps37
  go_wp2_with (first | ((with_reducible refine gate_dst (N := 3) rfl ?_); refine bx 3 #[.int .i64 j1, .slice j8 q9.length j9, .bool j2, .slice z0 j0.length z1] 26 ?_; intro q3 hg w35 hbox hb; have q1 := Qaa.mk (hbox); have z7 := Qaa.mk ((by rw [hg]; exact (below_size (bl HB)) : w.heap.size ≤ q3)); have z8 := Qaa.mk ((by rw [hg]; exact (below_size (bl HB)) : w.heap.size ≤ q3)); replace HB := bs HB hb; clear hb hbox hg; obtain ⟨Je, Jf, Jg, Jh, Ji, Jj, Jk, Jl⟩ := cf4 q1) | (go_at_call 34; (with_reducible refine (Qac.calls k j1 _ _ q9 j2 _ _ j0 j6 _ ?side1 ?side2 ?side3 ?side4 A3.out).mono ?_); (case side1 => exact Cb z2 HB); (case side2 => exact z4.out); (case side3 => exact Cb z5 HB); (case side4 => exact z6.out); rintro e w37 ⟨rfl, hb⟩; replace q1 := Bb q1 hb; replace HB := bs HB hb; (try clear hb)))
  repeat (go_quiet (first | ((with_reducible refine gate_dst (N := 3) rfl ?_); refine bx 3 #[.int .i64 j1, .slice j8 q9.length j9, .bool j2, .slice z0 j0.length z1] 26 ?_; intro q3 hg w35 hbox hb; have q1 := Qaa.mk (hbox); have z7 := Qaa.mk ((by rw [hg]; exact (below_size (bl HB)) : w.heap.size ≤ q3)); have z8 := Qaa.mk ((by rw [hg]; exact (below_size (bl HB)) : w.heap.size ≤ q3)); replace HB := bs HB hb; clear hb hbox hg; obtain ⟨Je, Jf, Jg, Jh, Ji, Jj, Jk, Jl⟩ := cf4 q1) | (go_at_call 34; (with_reducible refine (Qac.calls k j1 _ _ q9 j2 _ _ j0 j6 _ ?side1 ?side2 ?side3 ?side4 A3.out).mono ?_); (case side1 => exact Cb z2 HB); (case side2 => exact z4.out); (case side3 => exact Cb z5 HB); (case side4 => exact z6.out); rintro e w37 ⟨rfl, hb⟩; have n0_ := Bb q1 hb; have n1_ := bs HB hb; clear q1; clear HB; have q1 := n0_; have HB := n1_; clear n0_ n1_; (try clear hb); (try clear hb2); (try clear hk); (try clear hi))); try go_wp2_with (first | ((with_reducible refine gate_dst (N := 3) rfl ?_); refine bx 3 #[.int .i64 j1, .slice j8 q9.length j9, .bool j2, .slice z0 j0.length z1] 26 ?_; intro q3 hg w35 hbox hb; have q1 := Qaa.mk (hbox); have z7 := Qaa.mk ((by rw [hg]; exact (below_size (bl HB)) : w.heap.size ≤ q3)); have z8 := Qaa.mk ((by rw [hg]; exact (below_size (bl HB)) : w.heap.size ≤ q3)); replace HB := bs HB hb; clear hb hbox hg; obtain ⟨Je, Jf, Jg, Jh, Ji, Jj, Jk, Jl⟩ := cf4 q1) | (go_at_call 34; (with_reducible refine (Qac.calls k j1 _ _ q9 j2 _ _ j0 j6 _ ?side1 ?side2 ?side3 ?side4 A3.out).mono ?_); (case side1 => exact Cb z2 HB); (case side2 => exact z4.out); (case side3 => exact Cb z5 HB); (case side4 => exact z6.out); rintro e w37 ⟨rfl, hb⟩; have n0_ := Bb q1 hb; have n1_ := bs HB hb; clear q1; clear HB; have q1 := n0_; have HB := n1_; clear n0_ n1_; (try clear hb); (try clear hb2); (try clear hk); (try clear hi))))
  go_ret
  exact ⟨by first | rfl | (simp [errW_none, errW_some] <;> rfl) | (simp [*, errW_none, errW_some] <;> rfl), bl HB⟩
end Go.Proofs.Ytphnmaobpefoiaa.XW
end
section
namespace Go.Proofs.Ytphnmaobpefoiaa.XW
open Go.RowKit Go.Proofs.YtphnmaobpefoiaaXW Go.Proofs.YtphnmaobpefoiaaW.PrintWords Go.Proofs.YtphnmaobpefoiaaW.PrintLast Go.Proofs.YtphnmaobpefoiaaW.PrintMore
attribute [local go_sem] max2_int min2_int max_two min_two max_three min_three max_four min_four sleq
set_option linter.unusedVariables false
set_option linter.unusedSimpArgs false
mutual
def Qao.j0 : Nat → Int → Bool → Int → Int → Int → Int → ByteArray → Option (Int)
 | 0, _, _, _, _, _, _, _ => none
 | k + 1, x4, x5, q7, q6, q8, q9, j2 => if x5 = true then (some 0) else (if x4 = 3 then (Qao.j1 k x4 (x4 == 3) q7 q6 q8 q9 j2) else (if x4 = 13 then (Qao.j1 k x4 (x4 == 13) q7 q6 q8 q9 j2) else (Qao.j1 k x4 (x4 == 14) q7 q6 q8 q9 j2)))
def Qao.j1 : Nat → Int → Bool → Int → Int → Int → Int → ByteArray → Option (Int)
 | 0, _, _, _, _, _, _, _ => none
 | k + 1, x4, x8, q7, q6, q8, q9, j2 => if x8 = true then (some 1) else (if x4 = 16 then (some 3) else (if x4 = 18 then (some (wrap64 (q6 + 1))) else (some 2)))
end
def Qao.f (k : Nat) (q0 : Int) (q1 : Int) (q2 : Int) (q3 : Int) (q4 : ByteArray) : Option (Int) := if q0 = 1 then (Qao.j0 k q0 (q0 == 1) q0 q1 q2 q3 q4) else (Qao.j0 k q0 (q0 == 2) q0 q1 q2 q3 q4)
theorem Qao.mono_l : ∀ k, (∀ y0 y1 y2 y3 y4 y5 y6, LeO (Qao.j0 k y0 y1 y2 y3 y4 y5 y6) (Qao.j0 (k + 1) y0 y1 y2 y3 y4 y5 y6)) ∧ (∀ y0 y1 y2 y3 y4 y5 y6, LeO (Qao.j1 k y0 y1 y2 y3 y4 y5 y6) (Qao.j1 (k + 1) y0 y1 y2 y3 y4 y5 y6))
 | 0 => ⟨fun _ _ _ _ _ _ _ r h => by simp [Qao.j0] at h, fun _ _ _ _ _ _ _ r h => by simp [Qao.j1] at h⟩
 | k + 1 => by
  obtain ⟨ih0, ih1⟩ := Qao.mono_l k
  refine ⟨?_, ?_⟩
  ·
   intro y0 y1 y2 y3 y4 y5 y6
   unfold Qao.j0
   repeat' first
   | (with_reducible exact ih0 _ _ _ _ _ _ _)
   | (with_reducible exact ih1 _ _ _ _ _ _ _)
   | (with_reducible exact LeO.refl _)
   | (with_reducible exact LeO.none _)
   | (with_reducible refine LeO.ite ?_ ?_)
   | (with_reducible refine LeO.bind ?_ (fun _ => ?_))
   | exact ih0 _ _ _ _ _ _ _
   | exact ih1 _ _ _ _ _ _ _
   | exact LeO.none _
   | refine LeO.ite ?_ ?_
   | refine LeO.bind ?_ (fun _ => ?_)
  ·
   intro y0 y1 y2 y3 y4 y5 y6
   unfold Qao.j1
   repeat' first
   | (with_reducible exact ih0 _ _ _ _ _ _ _)
   | (with_reducible exact ih1 _ _ _ _ _ _ _)
   | (with_reducible exact LeO.refl _)
   | (with_reducible exact LeO.none _)
   | (with_reducible refine LeO.ite ?_ ?_)
   | (with_reducible refine LeO.bind ?_ (fun _ => ?_))
   | exact ih0 _ _ _ _ _ _ _
   | exact ih1 _ _ _ _ _ _ _
   | exact LeO.none _
   | refine LeO.ite ?_ ?_
   | refine LeO.bind ?_ (fun _ => ?_)
theorem Qao.mono : ∀ a0 a1 a2 a3 a4 k, LeO (Qao.f k a0 a1 a2 a3 a4) (Qao.f (k + 1) a0 a1 a2 a3 a4) := by
 intro a0 a1 a2 a3 a4 k
 obtain ⟨ih0, ih1⟩ := Qao.mono_l k
 unfold Qao.f
 repeat' first
   | (with_reducible exact ih0 _ _ _ _ _ _ _)
   | (with_reducible exact ih1 _ _ _ _ _ _ _)
   | (with_reducible exact LeO.refl _)
   | (with_reducible exact LeO.none _)
   | (with_reducible refine LeO.ite ?_ ?_)
   | (with_reducible refine LeO.bind ?_ (fun _ => ?_))
   | exact ih0 _ _ _ _ _ _ _
   | exact ih1 _ _ _ _ _ _ _
   | exact LeO.none _
   | refine LeO.ite ?_ ?_
   | refine LeO.bind ?_ (fun _ => ?_)
set_option maxHeartbeats 8000000 in
set_option maxRecDepth 100000 in
theorem Qao.calls (k : Nat) (q0 : Int) (q1 : Int) (q2 : Int) (q3 : Int) (q4 : ByteArray) (r : Int) (w : World) (h : Qao.f k q0 q1 q2 q3 q4 = some r) :
  Calls Try.prog 43 #[.agg #[.int .i64 q0, .int .i64 q1, .int .i64 q2, .int .i64 q3, .string q4]] w fun e w' => e = .returned (.int .i64 r) ∧ Below w.heap.size w w' := by
 have hu64 := Try.underlying64
 have HB := Qaa.mk (Below.refl w.heap.size w)
 have H : (if q0 = 1 then (Qao.j0 k q0 (q0 == 1) q0 q1 q2 q3 q4) else (Qao.j0 k q0 (q0 == 2) q0 q1 q2 q3 q4)) = some r := h
 clear h
 have z7 := Qaa.mk H
 clear H
 go_enter Try.func43, Try.ntmps43
 go_upto_if 5 with (first | ((with_reducible refine gate_dst (N := 1) rfl ?_); refine bx 1 #[.int .i64 q0, .int .i64 q1, .int .i64 q2, .int .i64 q3, .string q4] 64 ?_; intro j5 hg w3 hbox hb; have q5 := Qaa.mk (hbox); have Qd := Qaa.mk ((by rw [hg]; exact (below_size (bl HB)) : w.heap.size ≤ j5)); have Qe := Qaa.mk ((by rw [hg]; exact (below_size (bl HB)) : w.heap.size ≤ j5)); replace HB := bs HB hb; clear hb hbox hg; obtain ⟨j6, j7, j8, j9, z0, z1, z2, z3, z4, z5⟩ := cf5 q5))
 (try simp only [Act.put, List.setIfInBounds_toArray, List.set_cons_zero, List.set_cons_succ])
 go_cut [5] (fun v5 wc => ∃ (kq : Nat) (x5_1 : Bool), v5 = .bool x5_1 ∧ Qaa (Qao.j0 kq q0 x5_1 q0 q1 q2 q3 q4 = some r) ∧ Qaa (kq ≤ k) ∧ Qaa (wc.heap[j5]? = some (.cells #[.int .i64 q0, .int .i64 q1, .int .i64 q2, .int .i64 q3, .string q4] 64 (0, 0))) ∧ Qaa (Below w.heap.size w wc))
 case first =>
  have H := z7.out
  clear z7
  by_cases c5 : q0 = 1
  ·
   rw [if_pos c5] at H
   have j3 : (q0 == 1) = true := beq_iff_eq.mpr c5
   have z6 : (q0 != 1) = false := bne_eq_false_iff_eq.mpr c5
   clear c5
   (first | rw [j3] | (simp only [i64_w, i32_w]; rw [j3]) | skip)
   have H' := Qaa.mk H
   clear H
   go_wp2
   go_meet
   case rel => exact ⟨_, ((q0 == 1)), (by first | rfl | (simp; done) | (simp [*]; done)), H', ⟨by first | omega | exact Nat.le_refl _⟩, ⟨by apply blk_u; exact q5.out⟩, ⟨bl HB⟩⟩
  ·
   rw [if_neg c5] at H
   have j3 : (q0 == 1) = false := beq_eq_false_iff_ne.mpr c5
   have z6 : (q0 != 1) = true := bne_iff_ne.mpr c5
   (first | rw [j3] | (simp only [i64_w, i32_w]; rw [j3]) | skip)
   have H' := Qaa.mk H
   clear H
   go_wp2
   go_meet
   case rel => exact ⟨_, ((q0 == 2)), (by first | rfl | (simp; done) | (simp [*]; done)), H', ⟨by first | omega | exact Nat.le_refl _⟩, ⟨by apply blk_u; exact q5.out⟩, ⟨bl HB⟩⟩
 case rest =>
  clear z7
  try clear p2
  try clear c4
  try clear c5
  try clear j3
  try clear z6
  try clear j6
  try clear j7
  try clear j8
  try clear j9
  try clear z0
  try clear z1
  try clear z2
  try clear z3
  try clear z4
  try clear z5
  obtain ⟨kq, x5_1, rfl, HA, HJ1, q5, HB⟩ := hcut
  cases kq with
  | zero => exact absurd HA.out (by simp [Qao.j0])
  | succ kj1 =>
   have H := HA.out
   clear HA
   simp only [Qao.j0] at H
   by_cases c6 : x5_1 = true
   ·
    subst c6
    have H1 : (some 0) = some r := by rw [if_pos rfl] at H; exact H
    clear H
    have H := H1
    clear H1
    obtain rfl := Option.some.inj H
    go_wp2
    go_ret
    exact ⟨by first | rfl | (simp [errW_none, errW_some] <;> rfl) | (simp [*, errW_none, errW_some] <;> rfl), bl HB⟩
   ·
    replace c6 := Bool.eq_false_iff.mpr c6
    subst c6
    have H1 : (if q0 = 3 then (Qao.j1 kj1 q0 (q0 == 3) q0 q1 q2 q3 q4) else (if q0 = 13 then (Qao.j1 kj1 q0 (q0 == 13) q0 q1 q2 q3 q4) else (Qao.j1 kj1 q0 (q0 == 14) q0 q1 q2 q3 q4))) = some r := by rw [if_neg (show ¬ (false = true) by decide)] at H; exact H
    clear H
    have H := H1
    clear H1
    have z8 := Qaa.mk H
    clear H
    go_upto_if 8 with (fail)
    go_cut [8] (fun v8 wc => ∃ (kq : Nat) (x8_6 : Bool), v8 = .bool x8_6 ∧ Qaa (Qao.j1 kq q0 x8_6 q0 q1 q2 q3 q4 = some r) ∧ Qaa (kq ≤ kj1) ∧ Qaa (wc.heap[j5]? = some (.cells #[.int .i64 q0, .int .i64 q1, .int .i64 q2, .int .i64 q3, .string q4] 64 (0, 0))) ∧ Qaa (Below w.heap.size w wc))
    case first =>
     have H := z8.out
     clear z8
     by_cases c8 : q0 = 3
     ·
      rw [if_pos c8] at H
      have j4 : (q0 == 3) = true := beq_iff_eq.mpr c8
      have z9 : (q0 != 3) = false := bne_eq_false_iff_eq.mpr c8
      clear c8
      (first | rw [j4] | (simp only [i64_w, i32_w]; rw [j4]) | skip)
      have H' := Qaa.mk H
      clear H
      go_wp2
      go_meet
      case rel => exact ⟨_, ((q0 == 3)), (by first | rfl | (simp; done) | (simp [*]; done)), H', ⟨by have := HJ1.out; first | omega | exact Nat.le_refl _⟩, ⟨by apply blk_u; exact q5.out⟩, ⟨bl HB⟩⟩
     ·
      rw [if_neg c8] at H
      have j4 : (q0 == 3) = false := beq_eq_false_iff_ne.mpr c8
      have z9 : (q0 != 3) = true := bne_iff_ne.mpr c8
      (first | rw [j4] | (simp only [i64_w, i32_w]; rw [j4]) | skip)
      by_cases c9 : q0 = 13
      ·
       rw [if_pos c9] at H
       have y7 : (q0 == 13) = true := beq_iff_eq.mpr c9
       have y8 : (q0 != 13) = false := bne_eq_false_iff_eq.mpr c9
       clear c9
       have H' := Qaa.mk H
       clear H
       go_wp2
       go_meet
       case rel => exact ⟨_, ((q0 == 13)), (by first | rfl | (simp; done) | (simp [*]; done)), H', ⟨by have := HJ1.out; first | omega | exact Nat.le_refl _⟩, ⟨by apply blk_u; exact q5.out⟩, ⟨bl HB⟩⟩
      ·
       rw [if_neg c9] at H
       have y7 : (q0 == 13) = false := beq_eq_false_iff_ne.mpr c9
       have y8 : (q0 != 13) = true := bne_iff_ne.mpr c9
       have H' := Qaa.mk H
       clear H
       go_wp2
       go_meet
       case rel => exact ⟨_, ((q0 == 14)), (by first | rfl | (simp; done) | (simp [*]; done)), H', ⟨by have := HJ1.out; first | omega | exact Nat.le_refl _⟩, ⟨by apply blk_u; exact q5.out⟩, ⟨bl HB⟩⟩
    case rest =>
     clear z8
     try clear p2
     try clear c4
     try clear c5
     try clear j3
     try clear z6
     try clear c6
     try clear c8
     try clear j4
     try clear z9
     try clear c9
     try clear y7
     try clear y8
     try clear j6
     try clear j7
     try clear j8
     try clear j9
     try clear z0
     try clear z1
     try clear z2
     try clear z3
     try clear z4
     try clear z5
     try clear p2
     obtain ⟨kq, x8_6, rfl, HA, HJ6, q5, HB⟩ := hcut
     cases kq with
     | zero => exact absurd HA.out (by simp [Qao.j1])
     | succ kj6 =>
      have H := HA.out
      clear HA
      simp only [Qao.j1] at H
      by_cases c10 : x8_6 = true
      ·
       subst c10
       have H1 : (some 1) = some r := by rw [if_pos rfl] at H; exact H
       clear H
       have H := H1
       clear H1
       obtain rfl := Option.some.inj H
       go_wp2
       go_ret
       exact ⟨by first | rfl | (simp [errW_none, errW_some] <;> rfl) | (simp [*, errW_none, errW_some] <;> rfl), bl HB⟩
      ·
       replace c10 := Bool.eq_false_iff.mpr c10
       subst c10
       have H1 : (if q0 = 16 then (some 3) else (if q0 = 18 then (some (wrap64 (q1 + 1))) else (some 2))) = some r := by rw [if_neg (show ¬ (false = true) by decide)] at H; exact H
       clear H
       have H := H1
       clear H1
       by_cases c11 : q0 = 16
       ·
        rw [if_pos c11] at H
        have y9 : (q0 == 16) = true := beq_iff_eq.mpr c11
        have Q0 : (q0 != 16) = false := bne_eq_false_iff_eq.mpr c11
        clear c11
        obtain rfl := Option.some.inj H
        go_wp2
        go_ret
        exact ⟨by first | rfl | (simp [errW_none, errW_some] <;> rfl) | (simp [*, errW_none, errW_some] <;> rfl), bl HB⟩
       ·
        rw [if_neg c11] at H
        have y9 : (q0 == 16) = false := beq_eq_false_iff_ne.mpr c11
        have Q0 : (q0 != 16) = true := bne_iff_ne.mpr c11
        by_cases c12 : q0 = 18
        ·
         rw [if_pos c12] at H
         have Q1 : (q0 == 18) = true := beq_iff_eq.mpr c12
         have Q2 : (q0 != 18) = false := bne_eq_false_iff_eq.mpr c12
         clear c12
         obtain rfl := Option.some.inj H
         obtain ⟨Q3, Q4, Q5, Q6, Q7, Q8, Q9, Qa, Qb, Qc⟩ := cf5 q5
         go_wp2
         go_ret
         exact ⟨by first | rfl | (simp [errW_none, errW_some] <;> rfl) | (simp [*, errW_none, errW_some] <;> rfl), bl HB⟩
        ·
         rw [if_neg c12] at H
         have Q1 : (q0 == 18) = false := beq_eq_false_iff_ne.mpr c12
         have Q2 : (q0 != 18) = true := bne_iff_ne.mpr c12
         obtain rfl := Option.some.inj H
         go_wp2
         go_ret
         exact ⟨by first | rfl | (simp [errW_none, errW_some] <;> rfl) | (simp [*, errW_none, errW_some] <;> rfl), bl HB⟩
end Go.Proofs.Ytphnmaobpefoiaa.XW
end
section
namespace Go.Proofs.Ytphnmaobpefoiaa.XW
open Go.RowKit Go.Proofs.YtphnmaobpefoiaaXW Go.Proofs.YtphnmaobpefoiaaW.PrintWords Go.Proofs.YtphnmaobpefoiaaW.PrintLast Go.Proofs.YtphnmaobpefoiaaW.PrintMore
attribute [local go_sem] max2_int min2_int max_two min_two max_three min_three max_four min_four sleq
set_option linter.unusedVariables false
set_option linter.unusedSimpArgs false
attribute [local go_sem high] eqA41
mutual
def Qai.j0 : Nat → List (S86) → Bool → Int → Int → Int → Int → ByteArray → Option (Int)
 | 0, _, _, _, _, _, _, _ => none
 | k + 1, x0, x5, q6, q7, q8, q9, j2 => if x5 = true then (if q6 = 2 then (Qai.j1 k x0 false q6 q7 q8 q9 j2) else (Qai.j1 k x0 (!(q8 == 0) || (!(q9 == 0) || (!(j2.toList == ([] : List UInt8))))) q6 q7 q8 q9 j2)) else (if q7 = 0 then (if q6 = 2 then (Qai.j1 k x0 false q6 q7 q8 q9 j2) else (Qai.j1 k x0 (!(q8 == 0) || (!(q9 == 0) || (!(j2.toList == ([] : List UInt8))))) q6 q7 q8 q9 j2)) else (Qai.j1 k x0 true q6 q7 q8 q9 j2))
def Qai.j1 : Nat → List (S86) → Bool → Int → Int → Int → Int → ByteArray → Option (Int)
 | 0, _, _, _, _, _, _, _ => none
 | k + 1, x0, x40, q6, q7, q8, q9, j2 => if x40 = true then (some 3) else (if q6 = 1 then ((Qaz.f q7 0 (wrap64 ((x0.length : Int) - 1))).bind fun j6 => (some j6)) else (if q6 = 2 then ((Qae.f k q8 q9 j2).bind fun j7 => (some j7)) else (if q6 = 14 then ((Qau.f q7 1 3).bind fun j8 => (if j8 = true then (some 0) else (some 4))) else (if q6 = 18 then ((Qaz.f q7 1 50).bind fun j9 => (some j9)) else (some 0)))))
end
def Qai.f (k : Nat) (l0 : List (S86)) (q0 : Int) (q1 : Int) (q3 : Int) (q4 : Int) (q5 : ByteArray) : Option (Int) := (Qau.f q0 1 18).bind fun z0 => (if z0 = true then (if q0 = 1 then (Qai.j0 k l0 true q0 q1 q3 q4 q5) else (if q0 = 14 then (Qai.j0 k l0 true q0 q1 q3 q4 q5) else (Qai.j0 k l0 (q0 == 18) q0 q1 q3 q4 q5))) else (some 4))
theorem Qai.mono_l : ∀ k, (∀ y0 y1 y2 y3 y4 y5 y6, LeO (Qai.j0 k y0 y1 y2 y3 y4 y5 y6) (Qai.j0 (k + 1) y0 y1 y2 y3 y4 y5 y6)) ∧ (∀ y0 y1 y2 y3 y4 y5 y6, LeO (Qai.j1 k y0 y1 y2 y3 y4 y5 y6) (Qai.j1 (k + 1) y0 y1 y2 y3 y4 y5 y6))
 | 0 => ⟨fun _ _ _ _ _ _ _ r h => by simp [Qai.j0] at h, fun _ _ _ _ _ _ _ r h => by simp [Qai.j1] at h⟩
 | k + 1 => by
  obtain ⟨ih0, ih1⟩ := Qai.mono_l k
  refine ⟨?_, ?_⟩
  ·
   intro y0 y1 y2 y3 y4 y5 y6
   unfold Qai.j0
   repeat' first
   | (with_reducible exact ih0 _ _ _ _ _ _ _)
   | (with_reducible exact ih1 _ _ _ _ _ _ _)
   | (with_reducible exact Qae.mono _ _ _ _)
   | (with_reducible exact LeO.refl _)
   | (with_reducible exact LeO.none _)
   | (with_reducible refine LeO.ite ?_ ?_)
   | (with_reducible refine LeO.bind ?_ (fun _ => ?_))
   | exact ih0 _ _ _ _ _ _ _
   | exact ih1 _ _ _ _ _ _ _
   | exact Qae.mono _ _ _ _
   | exact LeO.none _
   | refine LeO.ite ?_ ?_
   | refine LeO.bind ?_ (fun _ => ?_)
  ·
   intro y0 y1 y2 y3 y4 y5 y6
   unfold Qai.j1
   repeat' first
   | (with_reducible exact ih0 _ _ _ _ _ _ _)
   | (with_reducible exact ih1 _ _ _ _ _ _ _)
   | (with_reducible exact Qae.mono _ _ _ _)
   | (with_reducible exact LeO.refl _)
   | (with_reducible exact LeO.none _)
   | (with_reducible refine LeO.ite ?_ ?_)
   | (with_reducible refine LeO.bind ?_ (fun _ => ?_))
   | exact ih0 _ _ _ _ _ _ _
   | exact ih1 _ _ _ _ _ _ _
   | exact Qae.mono _ _ _ _
   | exact LeO.none _
   | refine LeO.ite ?_ ?_
   | refine LeO.bind ?_ (fun _ => ?_)
theorem Qai.mono : ∀ a0 a1 a2 a3 a4 a5 k, LeO (Qai.f k a0 a1 a2 a3 a4 a5) (Qai.f (k + 1) a0 a1 a2 a3 a4 a5) := by
 intro a0 a1 a2 a3 a4 a5 k
 obtain ⟨ih0, ih1⟩ := Qai.mono_l k
 unfold Qai.f
 repeat' first
   | (with_reducible exact ih0 _ _ _ _ _ _ _)
   | (with_reducible exact ih1 _ _ _ _ _ _ _)
   | (with_reducible exact Qae.mono _ _ _ _)
   | (with_reducible exact LeO.refl _)
   | (with_reducible exact LeO.none _)
   | (with_reducible refine LeO.ite ?_ ?_)
   | (with_reducible refine LeO.bind ?_ (fun _ => ?_))
   | exact ih0 _ _ _ _ _ _ _
   | exact ih1 _ _ _ _ _ _ _
   | exact Qae.mono _ _ _ _
   | exact LeO.none _
   | refine LeO.ite ?_ ?_
   | refine LeO.bind ?_ (fun _ => ?_)
set_option maxHeartbeats 8000000 in
set_option maxRecDepth 100000 in
theorem Qai.calls (k : Nat) (A0 : Option Addr) (c0 : Nat) (l0 : List (S86)) (q0 : Int) (q1 : Int) (q3 : Int) (q4 : Int) (q5 : ByteArray) (r : Int) (w : World) (hr0 : Kd.C k86 w A0 l0.length l0) (hc0 : l0.length ≤ c0) (h : Qai.f k l0 q0 q1 q3 q4 q5 = some r) :
  Calls Try.prog 59 #[.slice A0 l0.length c0, .agg #[.int .i64 q0, .int .i64 q1, .int .i64 q3, .int .i64 q4, .string q5]] w fun e w' => e = .returned (.int .i64 r) ∧ Below w.heap.size w w' := by
 have hu64 := Try.underlying64
 have hu41 := Try.underlying41
 have Xs := Qaa.mk hr0
 have Xt := Qaa.mk hc0
 clear hr0 hc0
 have HB := Qaa.mk (Below.refl w.heap.size w)
 have H : ((Qau.f q0 1 18).bind fun z0 => (if z0 = true then (if q0 = 1 then (Qai.j0 k l0 true q0 q1 q3 q4 q5) else (if q0 = 14 then (Qai.j0 k l0 true q0 q1 q3 q4 q5) else (Qai.j0 k l0 (q0 == 18) q0 q1 q3 q4 q5))) else (some 4))) = some r := h
 clear h
 replace H := Option.bind_eq_some_iff.mp H
 obtain ⟨z0, A30, H⟩ := H
 replace H : (if z0 = true then (if q0 = 1 then (Qai.j0 k l0 true q0 q1 q3 q4 q5) else (if q0 = 14 then (Qai.j0 k l0 true q0 q1 q3 q4 q5) else (Qai.j0 k l0 (q0 == 18) q0 q1 q3 q4 q5))) else (some 4)) = some r := H
 have A3 := Qaa.mk A30
 clear A30
 by_cases c4 : z0 = true
 ·
  subst c4
  have H1 : (if q0 = 1 then (Qai.j0 k l0 true q0 q1 q3 q4 q5) else (if q0 = 14 then (Qai.j0 k l0 true q0 q1 q3 q4 q5) else (Qai.j0 k l0 (q0 == 18) q0 q1 q3 q4 q5))) = some r := by rw [if_pos rfl] at H; exact H
  clear H
  have H := H1
  clear H1
  have Jf := Qaa.mk H
  clear H
  go_enter Try.func59, Try.ntmps59
  go_upto_region 3 with (first | ((with_reducible refine gate_dst (N := 3) rfl ?_); refine bx 3 #[.int .i64 q0, .int .i64 q1, .int .i64 q3, .int .i64 q4, .string q5] 64 ?_; intro j3 hg w6 hbox hb; have q2 := Qaa.mk (hbox); have Jk := Qaa.mk ((by rw [hg]; exact (below_size (bl HB)) : w.heap.size ≤ j3)); have Jl := Qaa.mk ((by rw [hg]; exact (below_size (bl HB)) : w.heap.size ≤ j3)); replace HB := bs HB hb; clear hb hbox hg; obtain ⟨Qa, Qb, Qc, Qd, Qe, Qf, Qg, Qh, Qi, Qj⟩ := cf5 q2) | ((with_reducible refine gate_callee (f := 25) rfl ?_); refine gL (some 8) Try.func25 #[.int .i64 q0, .int .i64 1, .int .i64 18] ?_; (with_reducible refine (Qau.calls q0 1 18 true _ A3.out).mono ?_); rintro e w' ⟨rfl, ⟨nd, rfl⟩⟩; refine ⟨_, rfl, ?_⟩))
  (try simp only [Act.put, List.setIfInBounds_toArray, List.set_cons_zero, List.set_cons_succ])
  go_cut [5] (fun v5 wc => ∃ (kq : Nat) (x5_4 : Bool), v5 = .bool x5_4 ∧ Qaa (Qai.j0 kq l0 x5_4 q0 q1 q3 q4 q5 = some r) ∧ Qaa (kq ≤ k) ∧ Qaa (wc.heap[j3]? = some (.cells #[.int .i64 q0, .int .i64 q1, .int .i64 q3, .int .i64 q4, .string q5] 64 (0, 0))) ∧ Qaa (Below w.heap.size w wc))
  case first =>
   have H := Jf.out
   clear Jf
   by_cases c8 : q0 = 1
   ·
    rw [if_pos c8] at H
    have j5 : (q0 == 1) = true := beq_iff_eq.mpr c8
    have Qu : (q0 != 1) = false := bne_eq_false_iff_eq.mpr c8
    clear c8
    (first | rw [j5] | (simp only [i64_w, i32_w]; rw [j5]) | skip)
    have H' := Qaa.mk H
    clear H
    obtain ⟨Qk, Ql, Qm, Qn, Qo, Qp, Qq, Qr, Qs, Qt⟩ := cf5 q2
    go_wp2
    go_meet
    case rel => exact ⟨_, (true), (by first | rfl | (simp; done) | (simp [*]; done)), H', ⟨by first | omega | exact Nat.le_refl _⟩, ⟨by apply blk_u; exact q2.out⟩, ⟨bl HB⟩⟩
   ·
    rw [if_neg c8] at H
    have j5 : (q0 == 1) = false := beq_eq_false_iff_ne.mpr c8
    have Qu : (q0 != 1) = true := bne_iff_ne.mpr c8
    (first | rw [j5] | (simp only [i64_w, i32_w]; rw [j5]) | skip)
    by_cases c10 : q0 = 14
    ·
     rw [if_pos c10] at H
     have Q8 : (q0 == 14) = true := beq_iff_eq.mpr c10
     have Q9 : (q0 != 14) = false := bne_eq_false_iff_eq.mpr c10
     clear c10
     have H' := Qaa.mk H
     clear H
     obtain ⟨z1, z2, z3, z4, z5, z6, z7, z8, z9, y7⟩ := cf5 q2
     go_wp2
     go_meet
     case rel => exact ⟨_, (true), (by first | rfl | (simp; done) | (simp [*]; done)), H', ⟨by first | omega | exact Nat.le_refl _⟩, ⟨by apply blk_u; exact q2.out⟩, ⟨bl HB⟩⟩
    ·
     rw [if_neg c10] at H
     have Q8 : (q0 == 14) = false := beq_eq_false_iff_ne.mpr c10
     have Q9 : (q0 != 14) = true := bne_iff_ne.mpr c10
     have H' := Qaa.mk H
     clear H
     obtain ⟨y8, y9, Q0, Q1, Q2, Q3, Q4, Q5, Q6, Q7⟩ := cf5 q2
     go_wp2
     go_meet
     case rel => exact ⟨_, ((q0 == 18)), (by first | rfl | (simp; done) | (simp [*]; done)), H', ⟨by first | omega | exact Nat.le_refl _⟩, ⟨by apply blk_u; exact q2.out⟩, ⟨bl HB⟩⟩
  case rest =>
   clear Jf
   try clear c1
   try clear c2
   try clear p2
   try clear c4
   try clear c5
   try clear c8
   try clear j5
   try clear Qu
   try clear c10
   try clear Q8
   try clear Q9
   try clear z1
   try clear z2
   try clear z3
   try clear z4
   try clear z5
   try clear y8
   try clear y9
   try clear Q0
   try clear Q1
   try clear Q2
   try clear Qa
   try clear Qb
   try clear Qc
   try clear Qd
   try clear Qe
   try clear Qk
   try clear Ql
   try clear Qm
   try clear Qn
   try clear Qo
   try clear z6
   try clear z7
   try clear z8
   try clear z9
   try clear y7
   try clear Q3
   try clear Q4
   try clear Q5
   try clear Q6
   try clear Q7
   try clear Qf
   try clear Qg
   try clear Qh
   try clear Qi
   try clear Qj
   try clear Qp
   try clear Qq
   try clear Qr
   try clear Qs
   try clear Qt
   obtain ⟨kq, x5_4, rfl, HA, HJ4, q2, HB⟩ := hcut
   cases kq with
   | zero => exact absurd HA.out (by simp [Qai.j0])
   | succ kj4 =>
    have H := HA.out
    clear HA
    simp only [Qai.j0] at H
    have Qv := Qaa.mk H
    clear H
    go_upto_region 4 with (fail)
    go_cut [40] (fun v40 wc => ∃ (kq : Nat) (x40_12 : Bool), v40 = .bool x40_12 ∧ Qaa (Qai.j1 kq l0 x40_12 q0 q1 q3 q4 q5 = some r) ∧ Qaa (kq ≤ kj4) ∧ Qaa (wc.heap[j3]? = some (.cells #[.int .i64 q0, .int .i64 q1, .int .i64 q3, .int .i64 q4, .string q5] 64 (0, 0))) ∧ Qaa (Below w.heap.size w wc))
    case first =>
     have H := Qv.out
     clear Qv
     by_cases c14 : x5_4 = true
     ·
      subst c14
      have H1 : (if q0 = 2 then (Qai.j1 kj4 l0 false q0 q1 q3 q4 q5) else (Qai.j1 kj4 l0 (!(q3 == 0) || (!(q4 == 0) || (!(q5.toList == ([] : List UInt8))))) q0 q1 q3 q4 q5)) = some r := by rw [if_pos rfl] at H; exact H
      clear H
      have H := H1
      clear H1
      by_cases c15 : q0 = 2
      ·
       rw [if_pos c15] at H
       have j4 : (q0 == 2) = true := beq_iff_eq.mpr c15
       have Qw : (q0 != 2) = false := bne_eq_false_iff_eq.mpr c15
       clear c15
       (first | rw [j4] | (simp only [i64_w, i32_w]; rw [j4]) | skip)
       have H' := Qaa.mk H
       clear H
       obtain ⟨Z1, Z2, Z3, Z4, Z5, Z6, Z7, Z8, Z9, Za⟩ := cf5 q2
       go_wp2
       go_meet
       case rel => exact ⟨_, (false), (by first | rfl | (simp; done) | (simp [*]; done)), H', ⟨by have := HJ4.out; first | omega | exact Nat.le_refl _⟩, ⟨by apply blk_u; exact q2.out⟩, ⟨bl HB⟩⟩
      ·
       rw [if_neg c15] at H
       have j4 : (q0 == 2) = false := beq_eq_false_iff_ne.mpr c15
       have Qw : (q0 != 2) = true := bne_iff_ne.mpr c15
       (first | rw [j4] | (simp only [i64_w, i32_w]; rw [j4]) | skip)
       have H' := Qaa.mk H
       clear H
       obtain ⟨Zb, Zc, Zd, Ze, Zf, Zg, Zh, Zi, Zj, Zk⟩ := cf5 q2
       go_wp2
       go_meet
       case rel => exact ⟨_, ((!(q3 == 0) || (!(q4 == 0) || (!(q5.toList == ([] : List UInt8)))))), (by first | rfl | (simp; done) | (simp [*]; done)), H', ⟨by have := HJ4.out; first | omega | exact Nat.le_refl _⟩, ⟨by apply blk_u; exact q2.out⟩, ⟨bl HB⟩⟩
     ·
      replace c14 := Bool.eq_false_iff.mpr c14
      subst c14
      have H1 : (if q1 = 0 then (if q0 = 2 then (Qai.j1 kj4 l0 false q0 q1 q3 q4 q5) else (Qai.j1 kj4 l0 (!(q3 == 0) || (!(q4 == 0) || (!(q5.toList == ([] : List UInt8))))) q0 q1 q3 q4 q5)) else (Qai.j1 kj4 l0 true q0 q1 q3 q4 q5)) = some r := by rw [if_neg (show ¬ (false = true) by decide)] at H; exact H
      clear H
      have H := H1
      clear H1
      by_cases c18 : q1 = 0
      ·
       rw [if_pos c18] at H
       have Qx : (q1 == 0) = true := beq_iff_eq.mpr c18
       have Qy : (q1 != 0) = false := bne_eq_false_iff_eq.mpr c18
       clear c18
       by_cases c19 : q0 = 2
       ·
        rw [if_pos c19] at H
        have Qz : (q0 == 2) = true := beq_iff_eq.mpr c19
        have Z0 : (q0 != 2) = false := bne_eq_false_iff_eq.mpr c19
        clear c19
        have H' := Qaa.mk H
        clear H
        obtain ⟨Zl, Zm, Zn, Zo, Zp, Zq, Zr, Zs, Zt, Zu⟩ := cf5 q2
        go_wp2
        go_meet
        case rel => exact ⟨_, (false), (by first | rfl | (simp; done) | (simp [*]; done)), H', ⟨by have := HJ4.out; first | omega | exact Nat.le_refl _⟩, ⟨by apply blk_u; exact q2.out⟩, ⟨bl HB⟩⟩
       ·
        rw [if_neg c19] at H
        have Qz : (q0 == 2) = false := beq_eq_false_iff_ne.mpr c19
        have Z0 : (q0 != 2) = true := bne_iff_ne.mpr c19
        have H' := Qaa.mk H
        clear H
        obtain ⟨Zv, Zw, Zx, Zy, Zz, J0, J1, J2, J3, J4⟩ := cf5 q2
        go_wp2
        go_meet
        case rel => exact ⟨_, ((!(q3 == 0) || (!(q4 == 0) || (!(q5.toList == ([] : List UInt8)))))), (by first | rfl | (simp; done) | (simp [*]; done)), H', ⟨by have := HJ4.out; first | omega | exact Nat.le_refl _⟩, ⟨by apply blk_u; exact q2.out⟩, ⟨bl HB⟩⟩
      ·
       rw [if_neg c18] at H
       have Qx : (q1 == 0) = false := beq_eq_false_iff_ne.mpr c18
       have Qy : (q1 != 0) = true := bne_iff_ne.mpr c18
       have H' := Qaa.mk H
       clear H
       obtain ⟨J5, J6, J7, J8, J9, Ja, Jb, Jc, Jd, Je⟩ := cf5 q2
       go_wp2
       go_meet
       case rel => exact ⟨_, (true), (by first | rfl | (simp; done) | (simp [*]; done)), H', ⟨by have := HJ4.out; first | omega | exact Nat.le_refl _⟩, ⟨by apply blk_u; exact q2.out⟩, ⟨bl HB⟩⟩
    case rest =>
     clear Qv
     try clear c1
     try clear c2
     try clear p2
     try clear c4
     try clear c5
     try clear c8
     try clear j5
     try clear Qu
     try clear c10
     try clear Q8
     try clear Q9
     try clear c14
     try clear c15
     try clear j4
     try clear Qw
     try clear c18
     try clear Qx
     try clear Qy
     try clear c19
     try clear Qz
     try clear Z0
     try clear z1
     try clear z2
     try clear z3
     try clear z4
     try clear z5
     try clear y8
     try clear y9
     try clear Q0
     try clear Q1
     try clear Q2
     try clear Z1
     try clear Z2
     try clear Z3
     try clear Z4
     try clear Z5
     try clear Zb
     try clear Zc
     try clear Zd
     try clear Ze
     try clear Zf
     try clear Zl
     try clear Zm
     try clear Zn
     try clear Zo
     try clear Zp
     try clear Zv
     try clear Zw
     try clear Zx
     try clear Zy
     try clear Zz
     try clear J5
     try clear J6
     try clear J7
     try clear J8
     try clear J9
     try clear Qa
     try clear Qb
     try clear Qc
     try clear Qd
     try clear Qe
     try clear Qk
     try clear Ql
     try clear Qm
     try clear Qn
     try clear Qo
     try clear z6
     try clear z7
     try clear z8
     try clear z9
     try clear y7
     try clear Q3
     try clear Q4
     try clear Q5
     try clear Q6
     try clear Q7
     try clear Z6
     try clear Z7
     try clear Z8
     try clear Z9
     try clear Za
     try clear Zg
     try clear Zh
     try clear Zi
     try clear Zj
     try clear Zk
     try clear Zq
     try clear Zr
     try clear Zs
     try clear Zt
     try clear Zu
     try clear J0
     try clear J1
     try clear J2
     try clear J3
     try clear J4
     try clear Ja
     try clear Jb
     try clear Jc
     try clear Jd
     try clear Je
     try clear Qf
     try clear Qg
     try clear Qh
     try clear Qi
     try clear Qj
     try clear Qp
     try clear Qq
     try clear Qr
     try clear Qs
     try clear Qt
     try clear p2
     obtain ⟨kq, x40_12, rfl, HA, HJ12, q2, HB⟩ := hcut
     cases kq with
     | zero => exact absurd HA.out (by simp [Qai.j1])
     | succ kj12 =>
      have H := HA.out
      clear HA
      simp only [Qai.j1] at H
      by_cases c23 : x40_12 = true
      ·
       subst c23
       have H1 : (some 3) = some r := by rw [if_pos rfl] at H; exact H
       clear H
       have H := H1
       clear H1
       obtain rfl := Option.some.inj H
       go_wp2
       go_ret
       exact ⟨by first | rfl | (simp [errW_none, errW_some] <;> rfl) | (simp [*, errW_none, errW_some] <;> rfl), bl HB⟩
      ·
       replace c23 := Bool.eq_false_iff.mpr c23
       subst c23
       have H1 : (if q0 = 1 then ((Qaz.f q1 0 (wrap64 ((l0.length : Int) - 1))).bind fun j6 => (some j6)) else (if q0 = 2 then ((Qae.f kj12 q3 q4 q5).bind fun j7 => (some j7)) else (if q0 = 14 then ((Qau.f q1 1 3).bind fun j8 => (if j8 = true then (some 0) else (some 4))) else (if q0 = 18 then ((Qaz.f q1 1 50).bind fun j9 => (some j9)) else (some 0))))) = some r := by rw [if_neg (show ¬ (false = true) by decide)] at H; exact H
       clear H
       have H := H1
       clear H1
       by_cases c24 : q0 = 1
       ·
        rw [if_pos c24] at H
        have Jm : (q0 == 1) = true := beq_iff_eq.mpr c24
        have Jn : (q0 != 1) = false := bne_eq_false_iff_eq.mpr c24
        clear c24
        replace H := Option.bind_eq_some_iff.mp H
        obtain ⟨j6, Jg, H⟩ := H
        replace H : (some j6) = some r := H
        have A25 := Qaa.mk Jg
        clear Jg
        obtain rfl := Option.some.inj H
        obtain ⟨Ju, Jv, Jw, Jx, Jy, Jz, Y0, Y1, Y2, Y3⟩ := cf5 q2
        go_wp2_with (first | ((with_reducible refine gate_callee (f := 62) rfl ?_); refine gL (some 50) Try.func62 #[.int .i64 q1, .int .i64 0, .int .i64 (wrap64 ((l0.length : Int) - 1))] ?_; (with_reducible refine (Qaz.calls q1 0 (wrap64 ((l0.length : Int) - 1)) j6 _ A25.out).mono ?_); rintro e w' ⟨rfl, ⟨nd, rfl⟩⟩; refine ⟨_, rfl, ?_⟩))
        go_ret
        exact ⟨by first | rfl | (simp [errW_none, errW_some] <;> rfl) | (simp [*, errW_none, errW_some] <;> rfl), bl HB⟩
       ·
        rw [if_neg c24] at H
        have Jm : (q0 == 1) = false := beq_eq_false_iff_ne.mpr c24
        have Jn : (q0 != 1) = true := bne_iff_ne.mpr c24
        by_cases c27 : q0 = 2
        ·
         rw [if_pos c27] at H
         have Jo : (q0 == 2) = true := beq_iff_eq.mpr c27
         have Jp : (q0 != 2) = false := bne_eq_false_iff_eq.mpr c27
         clear c27
         replace H := Option.bind_eq_some_iff.mp H
         obtain ⟨j7, Jh, H⟩ := H
         replace H : (some j7) = some r := H
         have A28 := Qaa.mk Jh
         clear Jh
         obtain rfl := Option.some.inj H
         obtain ⟨Y4, Y5, Y6, Y7, Y8, Y9, Ya, Yb, Yc, Yd⟩ := cf5 q2
         go_wp2_with (first | ((with_reducible refine gate_callee (f := 61) rfl ?_); refine gL (some 55) Try.func61 #[.agg #[.int .i64 q3, .int .i64 q4, .string q5]] ?_; (with_reducible refine (Qae.calls kj12 q3 q4 q5 j7 _ A28.out).mono ?_); rintro e w30 ⟨rfl, hb⟩; refine ⟨_, rfl, ?_⟩; replace q2 := Bb q2 hb; replace HB := bs HB hb; (try clear hb)))
         go_ret
         exact ⟨by first | rfl | (simp [errW_none, errW_some] <;> rfl) | (simp [*, errW_none, errW_some] <;> rfl), bl HB⟩
        ·
         rw [if_neg c27] at H
         have Jo : (q0 == 2) = false := beq_eq_false_iff_ne.mpr c27
         have Jp : (q0 != 2) = true := bne_iff_ne.mpr c27
         by_cases c31 : q0 = 14
         ·
          rw [if_pos c31] at H
          have Jq : (q0 == 14) = true := beq_iff_eq.mpr c31
          have Jr : (q0 != 14) = false := bne_eq_false_iff_eq.mpr c31
          clear c31
          replace H := Option.bind_eq_some_iff.mp H
          obtain ⟨j8, Ji, H⟩ := H
          replace H : (if j8 = true then (some 0) else (some 4)) = some r := H
          have A32 := Qaa.mk Ji
          clear Ji
          by_cases c33 : j8 = true
          ·
           subst c33
           have H1 : (some 0) = some r := by rw [if_pos rfl] at H; exact H
           clear H
           have H := H1
           clear H1
           obtain rfl := Option.some.inj H
           obtain ⟨Ye, Yf, Yg, Yh, Yi, Yj, Yk, Yl, Ym, Yn⟩ := cf5 q2
           go_wp2_with (first | ((with_reducible refine gate_callee (f := 25) rfl ?_); refine gL (some 60) Try.func25 #[.int .i64 q1, .int .i64 1, .int .i64 3] ?_; (with_reducible refine (Qau.calls q1 1 3 true _ A32.out).mono ?_); rintro e w' ⟨rfl, ⟨nd, rfl⟩⟩; refine ⟨_, rfl, ?_⟩))
           go_ret
           exact ⟨by first | rfl | (simp [errW_none, errW_some] <;> rfl) | (simp [*, errW_none, errW_some] <;> rfl), bl HB⟩
          ·
           replace c33 := Bool.eq_false_iff.mpr c33
           subst c33
           have H1 : (some 4) = some r := by rw [if_neg (show ¬ (false = true) by decide)] at H; exact H
           clear H
           have H := H1
           clear H1
           obtain rfl := Option.some.inj H
           obtain ⟨Yo, Yp, Yq, Yr, Ys, Yt, Yu, Yv, Yw, Yx⟩ := cf5 q2
           go_wp2_with (first | ((with_reducible refine gate_callee (f := 25) rfl ?_); refine gL (some 60) Try.func25 #[.int .i64 q1, .int .i64 1, .int .i64 3] ?_; (with_reducible refine (Qau.calls q1 1 3 false _ A32.out).mono ?_); rintro e w' ⟨rfl, ⟨nd, rfl⟩⟩; refine ⟨_, rfl, ?_⟩))
           go_ret
           exact ⟨by first | rfl | (simp [errW_none, errW_some] <;> rfl) | (simp [*, errW_none, errW_some] <;> rfl), bl HB⟩
         ·
          rw [if_neg c31] at H
          have Jq : (q0 == 14) = false := beq_eq_false_iff_ne.mpr c31
          have Jr : (q0 != 14) = true := bne_iff_ne.mpr c31
          by_cases c36 : q0 = 18
          ·
           rw [if_pos c36] at H
           have Js : (q0 == 18) = true := beq_iff_eq.mpr c36
           have Jt : (q0 != 18) = false := bne_eq_false_iff_eq.mpr c36
           clear c36
           replace H := Option.bind_eq_some_iff.mp H
           obtain ⟨j9, Jj, H⟩ := H
           replace H : (some j9) = some r := H
           have A37 := Qaa.mk Jj
           clear Jj
           obtain rfl := Option.some.inj H
           obtain ⟨Yy, Yz, X0, X1, X2, X3, X4, X5, X6, X7⟩ := cf5 q2
           go_wp2_with (first | ((with_reducible refine gate_callee (f := 62) rfl ?_); refine gL (some 66) Try.func62 #[.int .i64 q1, .int .i64 1, .int .i64 50] ?_; (with_reducible refine (Qaz.calls q1 1 50 j9 _ A37.out).mono ?_); rintro e w' ⟨rfl, ⟨nd, rfl⟩⟩; refine ⟨_, rfl, ?_⟩))
           go_ret
           exact ⟨by first | rfl | (simp [errW_none, errW_some] <;> rfl) | (simp [*, errW_none, errW_some] <;> rfl), bl HB⟩
          ·
           rw [if_neg c36] at H
           have Js : (q0 == 18) = false := beq_eq_false_iff_ne.mpr c36
           have Jt : (q0 != 18) = true := bne_iff_ne.mpr c36
           obtain rfl := Option.some.inj H
           obtain ⟨X8, X9, Xa, Xb, Xc, Xd, Xe, Xf, Xg, Xh⟩ := cf5 q2
           go_wp2
           go_ret
           exact ⟨by first | rfl | (simp [errW_none, errW_some] <;> rfl) | (simp [*, errW_none, errW_some] <;> rfl), bl HB⟩
 ·
  replace c4 := Bool.eq_false_iff.mpr c4
  subst c4
  have H1 : (some 4) = some r := by rw [if_neg (show ¬ (false = true) by decide)] at H; exact H
  clear H
  have H := H1
  clear H1
  obtain rfl := Option.some.inj H
  go_enter Try.func59, Try.ntmps59
  go_wp2_with (first | ((with_reducible refine gate_dst (N := 3) rfl ?_); refine bx 3 #[.int .i64 q0, .int .i64 q1, .int .i64 q3, .int .i64 q4, .string q5] 64 ?_; intro j3 hg w40 hbox hb; have q2 := Qaa.mk (hbox); have Jk := Qaa.mk ((by rw [hg]; exact (below_size (bl HB)) : w.heap.size ≤ j3)); have Jl := Qaa.mk ((by rw [hg]; exact (below_size (bl HB)) : w.heap.size ≤ j3)); replace HB := bs HB hb; clear hb hbox hg; obtain ⟨Xi, Xj, Xk, Xl, Xm, Xn, Xo, Xp, Xq, Xr⟩ := cf5 q2) | ((with_reducible refine gate_callee (f := 25) rfl ?_); refine gL (some 8) Try.func25 #[.int .i64 q0, .int .i64 1, .int .i64 18] ?_; (with_reducible refine (Qau.calls q0 1 18 false _ A3.out).mono ?_); rintro e w' ⟨rfl, ⟨nd, rfl⟩⟩; refine ⟨_, rfl, ?_⟩))
  go_ret
  exact ⟨by first | rfl | (simp [errW_none, errW_some] <;> rfl) | (simp [*, errW_none, errW_some] <;> rfl), bl HB⟩
end Go.Proofs.Ytphnmaobpefoiaa.XW
end
section
namespace Go.Proofs.Ytphnmaobpefoiaa.XW
open Go.RowKit Go.Proofs.YtphnmaobpefoiaaXW Go.Proofs.YtphnmaobpefoiaaW.PrintWords Go.Proofs.YtphnmaobpefoiaaW.PrintLast Go.Proofs.YtphnmaobpefoiaaW.PrintMore
attribute [local go_sem] max2_int min2_int max_two min_two max_three min_three max_four min_four sleq
set_option linter.unusedVariables false
set_option linter.unusedSimpArgs false
def Qat.l0 : Nat → Int → List Int → Int → Int → Option (Bool)
 | 0, _, _, _, _ => none
 | k + 1, x0, x7, x8, x9 => if x9 < x8 then (if 0 ≤ x9 then (if x9 < (x7.length : Int) then (if (rd x7 x9) = 0 then (Qat.l0 k x0 x7 x8 (wrap64 (x9 + 1))) else (if (rd x7 x9) = x0 then (Qat.l0 k x0 x7 x8 (wrap64 (x9 + 1))) else (some false))) else (none)) else (none)) else (some true)
def Qat.f (k : Nat) (a0 : Int) (l1 : List Int) : Option (Bool) := Qat.l0 k a0 l1 (l1.length : Int) 0
theorem Qat.mono_l : ∀ k, (∀ y0 y1 y2 y3, LeO (Qat.l0 k y0 y1 y2 y3) (Qat.l0 (k + 1) y0 y1 y2 y3))
 | 0 => fun _ _ _ _ r h => by simp [Qat.l0] at h
 | k + 1 => by
  have ih0 := Qat.mono_l k
  ·
   intro y0 y1 y2 y3
   unfold Qat.l0
   repeat' first
   | (with_reducible exact ih0 _ _ _ _)
   | (with_reducible exact LeO.refl _)
   | (with_reducible exact LeO.none _)
   | (with_reducible refine LeO.ite ?_ ?_)
   | (with_reducible refine LeO.bind ?_ (fun _ => ?_))
   | exact ih0 _ _ _ _
   | exact LeO.none _
   | refine LeO.ite ?_ ?_
   | refine LeO.bind ?_ (fun _ => ?_)
theorem Qat.mono : ∀ a0 a1 k, LeO (Qat.f k a0 a1) (Qat.f (k + 1) a0 a1) := by
 intro a0 a1 k
 have ih0 := Qat.mono_l k
 unfold Qat.f
 repeat' first
   | (with_reducible exact ih0 _ _ _ _)
   | (with_reducible exact LeO.refl _)
   | (with_reducible exact LeO.none _)
   | (with_reducible refine LeO.ite ?_ ?_)
   | (with_reducible refine LeO.bind ?_ (fun _ => ?_))
   | exact ih0 _ _ _ _
   | exact LeO.none _
   | refine LeO.ite ?_ ?_
   | refine LeO.bind ?_ (fun _ => ?_)
set_option maxHeartbeats 8000000 in
set_option maxRecDepth 100000 in
theorem Qat.calls (k : Nat) (a0 : Int) (A1 : Option Addr) (c1 : Nat) (l1 : List Int) (r : Bool) (w : World) (hr1 : Kd.C (Kd.int .i64) w A1 l1.length l1) (hc1 : l1.length ≤ c1) (h : Qat.f k a0 l1 = some r) :
  Calls Try.prog 69 #[.int .i64 a0, .slice A1 l1.length c1] w fun e w' => e = .returned (.bool r) ∧ Drawn0 w w' := by
 have q1 := Qaa.mk hr1
 have q9 := Qaa.mk hc1
 clear hr1 hc1
 have H : (Qat.l0 k a0 l1 (l1.length : Int) 0) = some r := h
 clear h
 have H' := Qaa.mk H
 clear H
 go_enter Try.func69, Try.ntmps69
 go_wp2
 go_loopg [9] k (fun kq v9 w' => ∃ (x9_1 : Int), v9 = .int .i64 x9_1 ∧ Qaa (Qat.l0 kq a0 l1 (l1.length : Int) x9_1 = some r) ∧ Qaa (kq ≤ k) ∧ Drawn0 w w')
 case atStart => exact ⟨(0), (by first | rfl | (simp; done) | (simp [*]; done)), H', ⟨Nat.le_refl _⟩, by repeat (first | exact Drawn0.refl _ | apply Drawn0.step)⟩
 case round =>
  clear H'
  try clear c1
  try clear p2
  obtain ⟨x9_1, rfl, HA, HK1, ⟨m1, rfl⟩⟩ := hrel
  cases gk with
  | zero => exact absurd HA.out (by simp [Qat.l0])
  | succ k1 =>
   have H := HA.out
   clear HA
   simp only [Qat.l0] at H
   by_cases c3 : x9_1 < (l1.length : Int)
   ·
    rw [if_pos c3] at H
    have q2 : decide (x9_1 < (l1.length : Int)) = true := decide_eq_true c3
    clear c3
    by_cases c4 : 0 ≤ x9_1
    ·
     rw [if_pos c4] at H
     have q7 : decide (0 ≤ x9_1) = true := decide_eq_true c4
     clear c4
     by_cases c5 : x9_1 < (l1.length : Int)
     ·
      rw [if_pos c5] at H
      have q8 : decide (x9_1 < (l1.length : Int)) = true := decide_eq_true c5
      clear c5
      by_cases c6 : (rd l1 x9_1) = 0
      ·
       rw [if_pos c6] at H
       have q3 : ((rd l1 x9_1) == 0) = true := beq_iff_eq.mpr c6
       have q4 : ((rd l1 x9_1) != 0) = false := bne_eq_false_iff_eq.mpr c6
       clear c6
       have H' := Qaa.mk H
       clear H
       have p169 : 0 ≤ (x9_1 : Int) := of_decide_eq_true (by first | (with_reducible assumption) | assumption)
       have q169 : x9_1 < (l1.length : Int) := of_decide_eq_true (by first | (with_reducible assumption) | assumption)
       obtain ⟨ad169, e169, q0⟩ := Kd.at_int q1.out x9_1 p169 q169
       cases e169
       replace p169 := eq_true p169
       replace q169 := eq_true q169
       go_wp2
       go_roundg k1
       case measure => have := HK1.out; omega
       case rel => exact ⟨(wrap64 (x9_1 + 1)), (by first | rfl | (simp; done) | (simp [*]; done)), H', ⟨by have := HK1.out; omega⟩, by repeat (first | exact Drawn0.refl _ | apply Drawn0.step)⟩
      ·
       rw [if_neg c6] at H
       have q3 : ((rd l1 x9_1) == 0) = false := beq_eq_false_iff_ne.mpr c6
       have q4 : ((rd l1 x9_1) != 0) = true := bne_iff_ne.mpr c6
       by_cases c7 : (rd l1 x9_1) = a0
       ·
        rw [if_pos c7] at H
        have q5 : ((rd l1 x9_1) == a0) = true := beq_iff_eq.mpr c7
        have q6 : ((rd l1 x9_1) != a0) = false := bne_eq_false_iff_eq.mpr c7
        clear c7
        have H' := Qaa.mk H
        clear H
        have p169 : 0 ≤ (x9_1 : Int) := of_decide_eq_true (by first | (with_reducible assumption) | assumption)
        have q169 : x9_1 < (l1.length : Int) := of_decide_eq_true (by first | (with_reducible assumption) | assumption)
        obtain ⟨ad169, e169, q0⟩ := Kd.at_int q1.out x9_1 p169 q169
        cases e169
        replace p169 := eq_true p169
        replace q169 := eq_true q169
        go_wp2
        go_roundg k1
        case measure => have := HK1.out; omega
        case rel => exact ⟨(wrap64 (x9_1 + 1)), (by first | rfl | (simp; done) | (simp [*]; done)), H', ⟨by have := HK1.out; omega⟩, by repeat (first | exact Drawn0.refl _ | apply Drawn0.step)⟩
       ·
        rw [if_neg c7] at H
        have q5 : ((rd l1 x9_1) == a0) = false := beq_eq_false_iff_ne.mpr c7
        have q6 : ((rd l1 x9_1) != a0) = true := bne_iff_ne.mpr c7
        obtain rfl := Option.some.inj H
        have p169 : 0 ≤ (x9_1 : Int) := of_decide_eq_true (by first | (with_reducible assumption) | assumption)
        have q169 : x9_1 < (l1.length : Int) := of_decide_eq_true (by first | (with_reducible assumption) | assumption)
        obtain ⟨ad169, e169, q0⟩ := Kd.at_int q1.out x9_1 p169 q169
        cases e169
        replace p169 := eq_true p169
        replace q169 := eq_true q169
        go_wp2
        go_ret
        exact ⟨by first | rfl | (simp; done) | (simp [*]; done), by repeat (first | exact Drawn0.refl _ | apply Drawn0.step)⟩
     ·
      rw [if_neg c5] at H
      exact absurd H (by simp)
    ·
     rw [if_neg c4] at H
     exact absurd H (by simp)
   ·
    rw [if_neg c3] at H
    have q2 : decide (x9_1 < (l1.length : Int)) = false := decide_eq_false c3
    clear c3
    obtain rfl := Option.some.inj H
    go_wp2
    go_ret
    exact ⟨by first | rfl | (simp; done) | (simp [*]; done), by repeat (first | exact Drawn0.refl _ | apply Drawn0.step)⟩
end Go.Proofs.Ytphnmaobpefoiaa.XW
end
section
namespace Go.Proofs.Ytphnmaobpefoiaa.XW
open Go.RowKit Go.Proofs.YtphnmaobpefoiaaXW Go.Proofs.YtphnmaobpefoiaaW.PrintWords Go.Proofs.YtphnmaobpefoiaaW.PrintLast Go.Proofs.YtphnmaobpefoiaaW.PrintMore
attribute [local go_sem] max2_int min2_int max_two min_two max_three min_three max_four min_four sleq
set_option linter.unusedVariables false
set_option linter.unusedSimpArgs false
mutual
def Qar.l0 : Nat → Int → List Int → Int → Int → Option (Int × Bool)
 | 0, _, _, _, _ => none
 | k + 1, x4, x7, x8, x9 => if x9 < x8 then (if 0 ≤ x9 then (if x9 < (x7.length : Int) then (if x4 = 0 then (Qar.j1 k x4 (rd x7 x9) x7 x8 x9 false) else (if (rd x7 x9) = 0 then (Qar.j1 k x4 (rd x7 x9) x7 x8 x9 false) else (Qar.j1 k x4 (rd x7 x9) x7 x8 x9 ((rd x7 x9) != x4)))) else (none)) else (none)) else (some (x4, true))
def Qar.j1 : Nat → Int → Int → List Int → Int → Int → Bool → Option (Int × Bool)
 | 0, _, _, _, _, _, _ => none
 | k + 1, x4, x6, x7, x8, x9, x23 => if x23 = true then (some (0, false)) else (Qar.l0 k (mx x4 x6) x7 x8 (wrap64 (x9 + 1)))
end
def Qar.f (k : Nat) (l0 : List Int) : Option (Int × Bool) := Qar.l0 k 0 l0 (l0.length : Int) 0
theorem Qar.mono_l : ∀ k, (∀ y0 y1 y2 y3, LeO (Qar.l0 k y0 y1 y2 y3) (Qar.l0 (k + 1) y0 y1 y2 y3)) ∧ (∀ y0 y1 y2 y3 y4 y5, LeO (Qar.j1 k y0 y1 y2 y3 y4 y5) (Qar.j1 (k + 1) y0 y1 y2 y3 y4 y5))
 | 0 => ⟨fun _ _ _ _ r h => by simp [Qar.l0] at h, fun _ _ _ _ _ _ r h => by simp [Qar.j1] at h⟩
 | k + 1 => by
  obtain ⟨ih0, ih1⟩ := Qar.mono_l k
  refine ⟨?_, ?_⟩
  ·
   intro y0 y1 y2 y3
   unfold Qar.l0
   repeat' first
   | (with_reducible exact ih0 _ _ _ _)
   | (with_reducible exact ih1 _ _ _ _ _ _)
   | (with_reducible exact LeO.refl _)
   | (with_reducible exact LeO.none _)
   | (with_reducible refine LeO.ite ?_ ?_)
   | (with_reducible refine LeO.bind ?_ (fun _ => ?_))
   | exact ih0 _ _ _ _
   | exact ih1 _ _ _ _ _ _
   | exact LeO.none _
   | refine LeO.ite ?_ ?_
   | refine LeO.bind ?_ (fun _ => ?_)
  ·
   intro y0 y1 y2 y3 y4 y5
   unfold Qar.j1
   repeat' first
   | (with_reducible exact ih0 _ _ _ _)
   | (with_reducible exact ih1 _ _ _ _ _ _)
   | (with_reducible exact LeO.refl _)
   | (with_reducible exact LeO.none _)
   | (with_reducible refine LeO.ite ?_ ?_)
   | (with_reducible refine LeO.bind ?_ (fun _ => ?_))
   | exact ih0 _ _ _ _
   | exact ih1 _ _ _ _ _ _
   | exact LeO.none _
   | refine LeO.ite ?_ ?_
   | refine LeO.bind ?_ (fun _ => ?_)
theorem Qar.mono : ∀ a0 k, LeO (Qar.f k a0) (Qar.f (k + 1) a0) := by
 intro a0 k
 obtain ⟨ih0, ih1⟩ := Qar.mono_l k
 unfold Qar.f
 repeat' first
   | (with_reducible exact ih0 _ _ _ _)
   | (with_reducible exact ih1 _ _ _ _ _ _)
   | (with_reducible exact LeO.refl _)
   | (with_reducible exact LeO.none _)
   | (with_reducible refine LeO.ite ?_ ?_)
   | (with_reducible refine LeO.bind ?_ (fun _ => ?_))
   | exact ih0 _ _ _ _
   | exact ih1 _ _ _ _ _ _
   | exact LeO.none _
   | refine LeO.ite ?_ ?_
   | refine LeO.bind ?_ (fun _ => ?_)
set_option maxHeartbeats 8000000 in
set_option maxRecDepth 100000 in
theorem Qar.calls (k : Nat) (A0 : Option Addr) (c0 : Nat) (l0 : List Int) (r1 : Int) (r2 : Bool) (w : World) (hr0 : Kd.C (Kd.int .i64) w A0 l0.length l0) (hc0 : l0.length ≤ c0) (h : Qar.f k l0 = some (r1, r2)) :
  Calls Try.prog 70 #[.slice A0 l0.length c0] w fun e w' => e = .returned (.tuple #[.int .i64 r1, .bool r2]) ∧ Below w.heap.size w w' := by
 have j3 := Qaa.mk hr0
 have j5 := Qaa.mk hc0
 clear hr0 hc0
 have HB := Qaa.mk (Below.refl w.heap.size w)
 have H : (Qar.l0 k 0 l0 (l0.length : Int) 0) = some (r1, r2) := h
 clear h
 have H' := Qaa.mk H
 clear H
 go_enter Try.func70, Try.ntmps70
 go_wp2
 go_loopg [4, 9] k (fun kq v4 v9 w' => ∃ (x4_1 : Int) (x9_1 : Int), v4 = .int .i64 x4_1 ∧ v9 = .int .i64 x9_1 ∧ Qaa (Qar.l0 kq x4_1 l0 (l0.length : Int) x9_1 = some (r1, r2)) ∧ Qaa (kq ≤ k) ∧ Qaa (Below w.heap.size w w'))
 case atStart => exact ⟨(0), (0), (by first | rfl | (simp; done) | (simp [*]; done)), (by first | rfl | (simp; done) | (simp [*]; done)), H', ⟨Nat.le_refl _⟩, ⟨bl HB⟩⟩
 case round =>
  clear H'
  obtain ⟨x4_1, x9_1, rfl, rfl, HA, HK1, HB⟩ := hrel
  cases gk with
  | zero => exact absurd HA.out (by simp [Qar.l0])
  | succ k1 =>
   have H := HA.out
   clear HA
   simp only [Qar.l0] at H
   by_cases c2 : x9_1 < (l0.length : Int)
   ·
    rw [if_pos c2] at H
    have q4 : decide (x9_1 < (l0.length : Int)) = true := decide_eq_true c2
    clear c2
    by_cases c3 : 0 ≤ x9_1
    ·
     rw [if_pos c3] at H
     have j0 : decide (0 ≤ x9_1) = true := decide_eq_true c3
     clear c3
     by_cases c4 : x9_1 < (l0.length : Int)
     ·
      rw [if_pos c4] at H
      have j2 : decide (x9_1 < (l0.length : Int)) = true := decide_eq_true c4
      clear c4
      have q5 := Qaa.mk H
      clear H
      have p170 : 0 ≤ (x9_1 : Int) := of_decide_eq_true (by first | (with_reducible assumption) | assumption)
      have q170 : x9_1 < (l0.length : Int) := of_decide_eq_true (by first | (with_reducible assumption) | assumption)
      obtain ⟨ad170, e170, q0⟩ := Kd.at_int j3.out x9_1 p170 q170
      cases e170
      replace q0 := (HB.out.cell (World.block_lt_of_cell? w _ q0)).trans q0
      replace p170 := eq_true p170
      replace q170 := eq_true q170
      go_upto_region 5 with (fail)
      go_cut [23] (fun v23 wc => ∃ (kq : Nat) (x23_4 : Bool), v23 = .bool x23_4 ∧ Qaa (Qar.j1 kq x4_1 (rd l0 x9_1) l0 (l0.length : Int) x9_1 x23_4 = some (r1, r2)) ∧ Qaa (kq ≤ k1) ∧ Qaa (Below w.heap.size w wc))
      case first =>
       have H := q5.out
       clear q5
       by_cases c6 : x4_1 = 0
       ·
        rw [if_pos c6] at H
        have q2 : (x4_1 == 0) = true := beq_iff_eq.mpr c6
        have q6 : (x4_1 != 0) = false := bne_eq_false_iff_eq.mpr c6
        clear c6
        (first | rw [q2] | (simp only [i64_w, i32_w]; rw [q2]) | skip)
        have H' := Qaa.mk H
        clear H
        go_wp2
        go_meet
        case rel => exact ⟨_, (false), (by first | rfl | (simp; done) | (simp [*]; done)), H', ⟨by have := HK1.out; first | omega | exact Nat.le_refl _⟩, ⟨bl HB⟩⟩
       ·
        rw [if_neg c6] at H
        have q2 : (x4_1 == 0) = false := beq_eq_false_iff_ne.mpr c6
        have q6 : (x4_1 != 0) = true := bne_iff_ne.mpr c6
        (first | rw [q2] | (simp only [i64_w, i32_w]; rw [q2]) | skip)
        by_cases c7 : (rd l0 x9_1) = 0
        ·
         rw [if_pos c7] at H
         have q7 : ((rd l0 x9_1) == 0) = true := beq_iff_eq.mpr c7
         have q8 : ((rd l0 x9_1) != 0) = false := bne_eq_false_iff_eq.mpr c7
         clear c7
         have H' := Qaa.mk H
         clear H
         go_wp2
         go_meet
         case rel => exact ⟨_, (false), (by first | rfl | (simp; done) | (simp [*]; done)), H', ⟨by have := HK1.out; first | omega | exact Nat.le_refl _⟩, ⟨bl HB⟩⟩
        ·
         rw [if_neg c7] at H
         have q7 : ((rd l0 x9_1) == 0) = false := beq_eq_false_iff_ne.mpr c7
         have q8 : ((rd l0 x9_1) != 0) = true := bne_iff_ne.mpr c7
         have H' := Qaa.mk H
         clear H
         go_wp2
         go_meet
         case rel => exact ⟨_, (((rd l0 x9_1) != x4_1)), (by first | rfl | (simp; done) | (simp [*]; done)), H', ⟨by have := HK1.out; first | omega | exact Nat.le_refl _⟩, ⟨bl HB⟩⟩
      case rest =>
       clear q5
       try clear p1
       try clear q1
       try clear hx1
       try clear c2
       try clear q4
       try clear p2
       try clear c3
       try clear j0
       try clear c4
       try clear j2
       try clear c6
       try clear q2
       try clear q6
       try clear c7
       try clear q7
       try clear q8
       try clear q0
       try clear p170
       try clear q170
       obtain ⟨kq, x23_4, rfl, HA, HJ4, HB⟩ := hcut
       cases kq with
       | zero => exact absurd HA.out (by simp [Qar.j1])
       | succ kj4 =>
        have H := HA.out
        clear HA
        simp only [Qar.j1] at H
        by_cases c8 : x23_4 = true
        ·
         subst c8
         have H1 : (some (0, false)) = some (r1, r2) := by rw [if_pos rfl] at H; exact H
         clear H
         have H := H1
         clear H1
         simp only [Option.some.injEq, Prod.mk.injEq] at H
         obtain ⟨rfl, rfl⟩ := H
         go_wp2
         go_ret2
         exact ⟨by first | rfl | (simp [errW_none, errW_some] <;> rfl) | (simp [*, errW_none, errW_some] <;> rfl), bl HB⟩
        ·
         replace c8 := Bool.eq_false_iff.mpr c8
         subst c8
         have H1 : (Qar.l0 kj4 (mx x4_1 (rd l0 x9_1)) l0 (l0.length : Int) (wrap64 (x9_1 + 1))) = some (r1, r2) := by rw [if_neg (show ¬ (false = true) by decide)] at H; exact H
         clear H
         have H := H1
         clear H1
         obtain ⟨q9, q3⟩ : ∃ j_ : Int, (mx x4_1 (rd l0 x9_1)) = j_ := ⟨_, rfl⟩
         replace H : (Qar.l0 kj4 q9 l0 (l0.length : Int) (wrap64 (x9_1 + 1))) = some (r1, r2) := by first | (rw [q3] at H; exact H) | (simp only [q3] at H ⊢; exact H)
         have j4 : (if x4_1 < (rd l0 x9_1) then (rd l0 x9_1) else x4_1) = q9 := q3
         have H' := Qaa.mk H
         clear H
         go_wp2
         go_roundg kj4
         case measure => have := HK1.out; have := HJ4.out; omega
         case rel => exact ⟨(q9), (wrap64 (x9_1 + 1)), (by first | rfl | (simp; done) | (simp only [← q3] <;> (first | rfl | simp)) | (simp [*]; done)), (by first | rfl | (simp; done) | (simp [*]; done)), H', ⟨by have := HK1.out; have := HJ4.out; omega⟩, ⟨bl HB⟩⟩
     ·
      rw [if_neg c4] at H
      exact absurd H (by simp)
    ·
     rw [if_neg c3] at H
     exact absurd H (by simp)
   ·
    rw [if_neg c2] at H
    have q4 : decide (x9_1 < (l0.length : Int)) = false := decide_eq_false c2
    clear c2
    simp only [Option.some.injEq, Prod.mk.injEq] at H
    obtain ⟨rfl, rfl⟩ := H
    go_wp2
    go_ret2
    exact ⟨by first | rfl | (simp [errW_none, errW_some] <;> rfl) | (simp [*, errW_none, errW_some] <;> rfl), bl HB⟩
end Go.Proofs.Ytphnmaobpefoiaa.XW
end
section
namespace Go.Proofs.Ytphnmaobpefoiaa.XW
open Go.RowKit Go.Proofs.YtphnmaobpefoiaaXW Go.Proofs.YtphnmaobpefoiaaW.PrintWords Go.Proofs.YtphnmaobpefoiaaW.PrintLast Go.Proofs.YtphnmaobpefoiaaW.PrintMore
attribute [local go_sem] max2_int min2_int max_two min_two max_three min_three max_four min_four sleq
set_option linter.unusedVariables false
set_option linter.unusedSimpArgs false
mutual
def Qal.j0 : Nat → List Int → Int → Bool → Int → Int → Int → Int → ByteArray → Option (Int × Bool)
 | 0, _, _, _, _, _, _, _, _ => none
 | k + 1, x2, x13, x27, j6, q9, j7, j8, j9 => if x27 = true then ((Qat.f k 1 x2).bind fun z3 => (some (1, z3))) else (if x13 = 6 then (Qal.j1 k x2 x13 (x13 == 6) j6 q9 j7 j8 j9) else (if x13 = 7 then (Qal.j1 k x2 x13 (x13 == 7) j6 q9 j7 j8 j9) else (Qal.j1 k x2 x13 (x13 == 18) j6 q9 j7 j8 j9)))
def Qal.j1 : Nat → List Int → Int → Bool → Int → Int → Int → Int → ByteArray → Option (Int × Bool)
 | 0, _, _, _, _, _, _, _, _ => none
 | k + 1, x2, x13, x33, j6, q9, j7, j8, j9 => if x33 = true then ((Qar.f k x2).bind fun Qg => (some (1, Qg.2))) else (if x13 = 13 then (some (1, true)) else (if x13 = 14 then (some (q9, true)) else (if x13 = 15 then ((Qat.f k 3 x2).bind fun z4 => (some (1, z4))) else (if x13 = 16 then (if 1 ≤ (x2.length : Int) then ((Qar.f k (x2.drop 1)).bind fun j4 => (if j4.2 = true then ((Qat.f k 1 (x2.take 1)).bind fun q8 => (some (j4.1, q8))) else (some (j4.1, false)))) else (none)) else (if x13 = 17 then ((Qar.f k x2).bind fun z2 => (some (z2.1, z2.2))) else ((Qat.f k 2 x2).bind fun z5 => (some (2, z5))))))))
end
def Qal.f (k : Nat) (l0 : List (S86)) (q0 : Int) (q2 : Int) (q4 : Int) (q5 : Int) (q6 : ByteArray) (l2 : List Int) : Option (Int × Bool) := if q0 = 1 then (if 0 ≤ q2 then (if q2 < (l0.length : Int) then (some ((rd_T86 l0 q2).f1, true)) else (none)) else (none)) else (if q0 = 2 then (some (q4, true)) else (if q0 = 3 then (Qal.j0 k l2 q0 (q0 == 3) q0 q2 q4 q5 q6) else (if q0 = 4 then (Qal.j0 k l2 q0 (q0 == 4) q0 q2 q4 q5 q6) else (Qal.j0 k l2 q0 (q0 == 5) q0 q2 q4 q5 q6))))
theorem Qal.mono_l : ∀ k, (∀ y0 y1 y2 y3 y4 y5 y6 y7, LeO (Qal.j0 k y0 y1 y2 y3 y4 y5 y6 y7) (Qal.j0 (k + 1) y0 y1 y2 y3 y4 y5 y6 y7)) ∧ (∀ y0 y1 y2 y3 y4 y5 y6 y7, LeO (Qal.j1 k y0 y1 y2 y3 y4 y5 y6 y7) (Qal.j1 (k + 1) y0 y1 y2 y3 y4 y5 y6 y7))
 | 0 => ⟨fun _ _ _ _ _ _ _ _ r h => by simp [Qal.j0] at h, fun _ _ _ _ _ _ _ _ r h => by simp [Qal.j1] at h⟩
 | k + 1 => by
  obtain ⟨ih0, ih1⟩ := Qal.mono_l k
  refine ⟨?_, ?_⟩
  ·
   intro y0 y1 y2 y3 y4 y5 y6 y7
   unfold Qal.j0
   repeat' first
   | (with_reducible exact ih0 _ _ _ _ _ _ _ _)
   | (with_reducible exact ih1 _ _ _ _ _ _ _ _)
   | (with_reducible exact Qat.mono _ _ _)
   | (with_reducible exact Qar.mono _ _)
   | (with_reducible exact LeO.refl _)
   | (with_reducible exact LeO.none _)
   | (with_reducible refine LeO.ite ?_ ?_)
   | (with_reducible refine LeO.bind ?_ (fun _ => ?_))
   | exact ih0 _ _ _ _ _ _ _ _
   | exact ih1 _ _ _ _ _ _ _ _
   | exact Qat.mono _ _ _
   | exact Qar.mono _ _
   | exact LeO.none _
   | refine LeO.ite ?_ ?_
   | refine LeO.bind ?_ (fun _ => ?_)
  ·
   intro y0 y1 y2 y3 y4 y5 y6 y7
   unfold Qal.j1
   repeat' first
   | (with_reducible exact ih0 _ _ _ _ _ _ _ _)
   | (with_reducible exact ih1 _ _ _ _ _ _ _ _)
   | (with_reducible exact Qat.mono _ _ _)
   | (with_reducible exact Qar.mono _ _)
   | (with_reducible exact LeO.refl _)
   | (with_reducible exact LeO.none _)
   | (with_reducible refine LeO.ite ?_ ?_)
   | (with_reducible refine LeO.bind ?_ (fun _ => ?_))
   | exact ih0 _ _ _ _ _ _ _ _
   | exact ih1 _ _ _ _ _ _ _ _
   | exact Qat.mono _ _ _
   | exact Qar.mono _ _
   | exact LeO.none _
   | refine LeO.ite ?_ ?_
   | refine LeO.bind ?_ (fun _ => ?_)
theorem Qal.mono : ∀ a0 a1 a2 a3 a4 a5 a6 k, LeO (Qal.f k a0 a1 a2 a3 a4 a5 a6) (Qal.f (k + 1) a0 a1 a2 a3 a4 a5 a6) := by
 intro a0 a1 a2 a3 a4 a5 a6 k
 obtain ⟨ih0, ih1⟩ := Qal.mono_l k
 unfold Qal.f
 repeat' first
   | (with_reducible exact ih0 _ _ _ _ _ _ _ _)
   | (with_reducible exact ih1 _ _ _ _ _ _ _ _)
   | (with_reducible exact Qat.mono _ _ _)
   | (with_reducible exact Qar.mono _ _)
   | (with_reducible exact LeO.refl _)
   | (with_reducible exact LeO.none _)
   | (with_reducible refine LeO.ite ?_ ?_)
   | (with_reducible refine LeO.bind ?_ (fun _ => ?_))
   | exact ih0 _ _ _ _ _ _ _ _
   | exact ih1 _ _ _ _ _ _ _ _
   | exact Qat.mono _ _ _
   | exact Qar.mono _ _
   | exact LeO.none _
   | refine LeO.ite ?_ ?_
   | refine LeO.bind ?_ (fun _ => ?_)
set_option maxHeartbeats 8000000 in
set_option maxRecDepth 100000 in
theorem Qal.calls (k : Nat) (A0 : Option Addr) (c0 : Nat) (l0 : List (S86)) (q0 : Int) (q2 : Int) (q4 : Int) (q5 : Int) (q6 : ByteArray) (A2 : Option Addr) (c2 : Nat) (l2 : List Int) (r1 : Int) (r2 : Bool) (w : World) (hr0 : Kd.C k86 w A0 l0.length l0) (hc0 : l0.length ≤ c0) (hr2 : Kd.C (Kd.int .i64) w A2 l2.length l2) (hc2 : l2.length ≤ c2) (h : Qal.f k l0 q0 q2 q4 q5 q6 l2 = some (r1, r2)) :
  Calls Try.prog 60 #[.slice A0 l0.length c0, .agg #[.int .i64 q0, .int .i64 q2, .int .i64 q4, .int .i64 q5, .string q6], .slice A2 l2.length c2] w fun e w' => e = .returned (.tuple #[.int .i64 r1, .bool r2]) ∧ Below w.heap.size w w' := by
 have hu64 := Try.underlying64
 have J7 := Qaa.mk hr0
 have Jb := Qaa.mk hc0
 clear hr0 hc0
 have z6 := Qaa.mk hr2
 have z7 := Qaa.mk hc2
 clear hr2 hc2
 have HB := Qaa.mk (Below.refl w.heap.size w)
 have H : (if q0 = 1 then (if 0 ≤ q2 then (if q2 < (l0.length : Int) then (some ((rd_T86 l0 q2).f1, true)) else (none)) else (none)) else (if q0 = 2 then (some (q4, true)) else (if q0 = 3 then (Qal.j0 k l2 q0 (q0 == 3) q0 q2 q4 q5 q6) else (if q0 = 4 then (Qal.j0 k l2 q0 (q0 == 4) q0 q2 q4 q5 q6) else (Qal.j0 k l2 q0 (q0 == 5) q0 q2 q4 q5 q6))))) = some (r1, r2) := h
 clear h
 by_cases c4 : q0 = 1
 ·
  rw [if_pos c4] at H
  have Qw : (q0 == 1) = true := beq_iff_eq.mpr c4
  have Qx : (q0 != 1) = false := bne_eq_false_iff_eq.mpr c4
  clear c4
  by_cases c5 : 0 ≤ q2
  ·
   rw [if_pos c5] at H
   have Z7 : decide (0 ≤ q2) = true := decide_eq_true c5
   clear c5
   by_cases c6 : q2 < (l0.length : Int)
   ·
    rw [if_pos c6] at H
    have Z8 : decide (q2 < (l0.length : Int)) = true := decide_eq_true c6
    clear c6
    simp only [Option.some.injEq, Prod.mk.injEq] at H
    obtain ⟨rfl, rfl⟩ := H
    go_enter Try.func60, Try.ntmps60
    go_wp2_with (first | ((with_reducible refine gate_dst (N := 4) rfl ?_); refine bx 4 #[.int .i64 q0, .int .i64 q2, .int .i64 q4, .int .i64 q5, .string q6] 64 ?_; intro q7 hg w7 hbox hb; have q3 := Qaa.mk (hbox); have Z2 := Qaa.mk ((by rw [hg]; exact (below_size (bl HB)) : w.heap.size ≤ q7)); have Z3 := Qaa.mk ((by rw [hg]; exact (below_size (bl HB)) : w.heap.size ≤ q7)); replace HB := bs HB hb; clear hb hbox hg; obtain ⟨Qm, Qn, Qo, Qp, Qq, Qr, Qs, Qt, Qu, Qv⟩ := cf5 q3; have p172 : 0 ≤ (q2 : Int) := of_decide_eq_true (by first | (with_reducible assumption) | assumption); have q172 : q2 < (l0.length : Int) := of_decide_eq_true (by first | (with_reducible assumption) | assumption); obtain ⟨ad172, e172, j2, j3⟩ := at_T86 J7.out q2 p172 q172; cases e172; replace j2 := (HB.out.cell (World.block_lt_of_cell? w _ j2)).trans j2; replace j3 := (HB.out.cell (World.block_lt_of_cell? w _ j3)).trans j3; replace p172 := eq_true p172; replace q172 := eq_true q172))
    go_ret2
    exact ⟨by first | rfl | (simp [errW_none, errW_some] <;> rfl) | (simp [*, errW_none, errW_some] <;> rfl), bl HB⟩
   ·
    rw [if_neg c6] at H
    exact absurd H (by simp)
  ·
   rw [if_neg c5] at H
   exact absurd H (by simp)
 ·
  rw [if_neg c4] at H
  have Qw : (q0 == 1) = false := beq_eq_false_iff_ne.mpr c4
  have Qx : (q0 != 1) = true := bne_iff_ne.mpr c4
  by_cases c9 : q0 = 2
  ·
   rw [if_pos c9] at H
   have Qy : (q0 == 2) = true := beq_iff_eq.mpr c9
   have Qz : (q0 != 2) = false := bne_eq_false_iff_eq.mpr c9
   clear c9
   simp only [Option.some.injEq, Prod.mk.injEq] at H
   obtain ⟨rfl, rfl⟩ := H
   go_enter Try.func60, Try.ntmps60
   go_wp2_with (first | ((with_reducible refine gate_dst (N := 4) rfl ?_); refine bx 4 #[.int .i64 q0, .int .i64 q2, .int .i64 q4, .int .i64 q5, .string q6] 64 ?_; intro q7 hg w10 hbox hb; have q3 := Qaa.mk (hbox); have Z2 := Qaa.mk ((by rw [hg]; exact (below_size (bl HB)) : w.heap.size ≤ q7)); have Z3 := Qaa.mk ((by rw [hg]; exact (below_size (bl HB)) : w.heap.size ≤ q7)); replace HB := bs HB hb; clear hb hbox hg; obtain ⟨z8, z9, y8, y9, Q0, Q1, Q2, Q3, Q4, Q5⟩ := cf5 q3))
   go_ret2
   exact ⟨by first | rfl | (simp [errW_none, errW_some] <;> rfl) | (simp [*, errW_none, errW_some] <;> rfl), bl HB⟩
  ·
   rw [if_neg c9] at H
   have Qy : (q0 == 2) = false := beq_eq_false_iff_ne.mpr c9
   have Qz : (q0 != 2) = true := bne_iff_ne.mpr c9
   have Z0 := Qaa.mk H
   clear H
   go_enter Try.func60, Try.ntmps60
   go_upto_if 27 with (first | ((with_reducible refine gate_dst (N := 4) rfl ?_); refine bx 4 #[.int .i64 q0, .int .i64 q2, .int .i64 q4, .int .i64 q5, .string q6] 64 ?_; intro q7 hg w13 hbox hb; have q3 := Qaa.mk (hbox); have Z2 := Qaa.mk ((by rw [hg]; exact (below_size (bl HB)) : w.heap.size ≤ q7)); have Z3 := Qaa.mk ((by rw [hg]; exact (below_size (bl HB)) : w.heap.size ≤ q7)); replace HB := bs HB hb; clear hb hbox hg; obtain ⟨Q6, Q7, Q8, Q9, Qa, Qb, Qc, Qd, Qe, Qf⟩ := cf5 q3))
   (try simp only [Act.put, List.setIfInBounds_toArray, List.set_cons_zero, List.set_cons_succ])
   go_cut [27] (fun v27 wc => ∃ (kq : Nat) (x27_11 : Bool), v27 = .bool x27_11 ∧ Qaa (Qal.j0 kq l2 q0 x27_11 q0 q2 q4 q5 q6 = some (r1, r2)) ∧ Qaa (kq ≤ k) ∧ Qaa (wc.heap[q7]? = some (.cells #[.int .i64 q0, .int .i64 q2, .int .i64 q4, .int .i64 q5, .string q6] 64 (0, 0))) ∧ Qaa (Below w.heap.size w wc))
   case first =>
    have H := Z0.out
    clear Z0
    by_cases c15 : q0 = 3
    ·
     rw [if_pos c15] at H
     have j5 : (q0 == 3) = true := beq_iff_eq.mpr c15
     have Qh : (q0 != 3) = false := bne_eq_false_iff_eq.mpr c15
     clear c15
     (first | rw [j5] | (simp only [i64_w, i32_w]; rw [j5]) | skip)
     have H' := Qaa.mk H
     clear H
     go_wp2
     go_meet
     case rel => exact ⟨_, ((q0 == 3)), (by first | rfl | (simp; done) | (simp [*]; done)), H', ⟨by first | omega | exact Nat.le_refl _⟩, ⟨by apply blk_u; exact q3.out⟩, ⟨bl HB⟩⟩
    ·
     rw [if_neg c15] at H
     have j5 : (q0 == 3) = false := beq_eq_false_iff_ne.mpr c15
     have Qh : (q0 != 3) = true := bne_iff_ne.mpr c15
     (first | rw [j5] | (simp only [i64_w, i32_w]; rw [j5]) | skip)
     by_cases c16 : q0 = 4
     ·
      rw [if_pos c16] at H
      have Qi : (q0 == 4) = true := beq_iff_eq.mpr c16
      have Qj : (q0 != 4) = false := bne_eq_false_iff_eq.mpr c16
      clear c16
      have H' := Qaa.mk H
      clear H
      go_wp2
      go_meet
      case rel => exact ⟨_, ((q0 == 4)), (by first | rfl | (simp; done) | (simp [*]; done)), H', ⟨by first | omega | exact Nat.le_refl _⟩, ⟨by apply blk_u; exact q3.out⟩, ⟨bl HB⟩⟩
     ·
      rw [if_neg c16] at H
      have Qi : (q0 == 4) = false := beq_eq_false_iff_ne.mpr c16
      have Qj : (q0 != 4) = true := bne_iff_ne.mpr c16
      have H' := Qaa.mk H
      clear H
      go_wp2
      go_meet
      case rel => exact ⟨_, ((q0 == 5)), (by first | rfl | (simp; done) | (simp [*]; done)), H', ⟨by first | omega | exact Nat.le_refl _⟩, ⟨by apply blk_u; exact q3.out⟩, ⟨bl HB⟩⟩
   case rest =>
    clear Z0
    try clear c1
    try clear p1
    try clear q1
    try clear hx1
    try clear c2
    try clear p2
    try clear c4
    try clear Qw
    try clear Qx
    try clear c5
    try clear Z7
    try clear c6
    try clear Z8
    try clear c9
    try clear Qy
    try clear Qz
    try clear c15
    try clear j5
    try clear Qh
    try clear c16
    try clear Qi
    try clear Qj
    try clear z8
    try clear z9
    try clear y8
    try clear y9
    try clear Q0
    try clear Q6
    try clear Q7
    try clear Q8
    try clear Q9
    try clear Qa
    try clear Qm
    try clear Qn
    try clear Qo
    try clear Qp
    try clear Qq
    try clear Q1
    try clear Q2
    try clear Q3
    try clear Q4
    try clear Q5
    try clear Qb
    try clear Qc
    try clear Qd
    try clear Qe
    try clear Qf
    try clear Qr
    try clear Qs
    try clear Qt
    try clear Qu
    try clear Qv
    try clear j2
    try clear j3
    try clear p172
    try clear q172
    obtain ⟨kq, x27_11, rfl, HA, HJ11, q3, HB⟩ := hcut
    cases kq with
    | zero => exact absurd HA.out (by simp [Qal.j0])
    | succ kj11 =>
     have H := HA.out
     clear HA
     simp only [Qal.j0] at H
     by_cases c17 : x27_11 = true
     ·
      subst c17
      have H1 : ((Qat.f kj11 1 l2).bind fun z3 => (some (1, z3))) = some (r1, r2) := by rw [if_pos rfl] at H; exact H
      clear H
      have H := H1
      clear H1
      replace H := Option.bind_eq_some_iff.mp H
      obtain ⟨z3, Z9, H⟩ := H
      replace H : (some (1, z3)) = some (r1, r2) := H
      have A18 := Qaa.mk Z9
      clear Z9
      simp only [Option.some.injEq, Prod.mk.injEq] at H
      obtain ⟨rfl, rfl⟩ := H
      go_wp2_with (first | ((with_reducible refine gate_callee (f := 69) rfl ?_); refine gL (some 32) Try.func69 #[.int .i64 1, .slice A2 l2.length c2] ?_; (with_reducible refine (Qat.calls kj11 1 _ _ l2 z3 _ ?side1 ?side2 A18.out).mono ?_); (case side1 => exact Cb z6 HB); (case side2 => exact z7.out); rintro e w' ⟨rfl, ⟨nd, rfl⟩⟩; refine ⟨_, rfl, ?_⟩))
      go_ret2
      exact ⟨by first | rfl | (simp [errW_none, errW_some] <;> rfl) | (simp [*, errW_none, errW_some] <;> rfl), bl HB⟩
     ·
      replace c17 := Bool.eq_false_iff.mpr c17
      subst c17
      have H1 : (if q0 = 6 then (Qal.j1 kj11 l2 q0 (q0 == 6) q0 q2 q4 q5 q6) else (if q0 = 7 then (Qal.j1 kj11 l2 q0 (q0 == 7) q0 q2 q4 q5 q6) else (Qal.j1 kj11 l2 q0 (q0 == 18) q0 q2 q4 q5 q6))) = some (r1, r2) := by rw [if_neg (show ¬ (false = true) by decide)] at H; exact H
      clear H
      have H := H1
      clear H1
      have Z1 := Qaa.mk H
      clear H
      go_upto_if 33 with (fail)
      go_cut [33] (fun v33 wc => ∃ (kq : Nat) (x33_18 : Bool), v33 = .bool x33_18 ∧ Qaa (Qal.j1 kq l2 q0 x33_18 q0 q2 q4 q5 q6 = some (r1, r2)) ∧ Qaa (kq ≤ kj11) ∧ Qaa (wc.heap[q7]? = some (.cells #[.int .i64 q0, .int .i64 q2, .int .i64 q4, .int .i64 q5, .string q6] 64 (0, 0))) ∧ Qaa (Below w.heap.size w wc))
      case first =>
       have H := Z1.out
       clear Z1
       by_cases c20 : q0 = 6
       ·
        rw [if_pos c20] at H
        have z0 : (q0 == 6) = true := beq_iff_eq.mpr c20
        have Z4 : (q0 != 6) = false := bne_eq_false_iff_eq.mpr c20
        clear c20
        (first | rw [z0] | (simp only [i64_w, i32_w]; rw [z0]) | skip)
        have H' := Qaa.mk H
        clear H
        go_wp2
        go_meet
        case rel => exact ⟨_, ((q0 == 6)), (by first | rfl | (simp; done) | (simp [*]; done)), H', ⟨by have := HJ11.out; first | omega | exact Nat.le_refl _⟩, ⟨by apply blk_u; exact q3.out⟩, ⟨bl HB⟩⟩
       ·
        rw [if_neg c20] at H
        have z0 : (q0 == 6) = false := beq_eq_false_iff_ne.mpr c20
        have Z4 : (q0 != 6) = true := bne_iff_ne.mpr c20
        (first | rw [z0] | (simp only [i64_w, i32_w]; rw [z0]) | skip)
        by_cases c21 : q0 = 7
        ·
         rw [if_pos c21] at H
         have Z5 : (q0 == 7) = true := beq_iff_eq.mpr c21
         have Z6 : (q0 != 7) = false := bne_eq_false_iff_eq.mpr c21
         clear c21
         have H' := Qaa.mk H
         clear H
         go_wp2
         go_meet
         case rel => exact ⟨_, ((q0 == 7)), (by first | rfl | (simp; done) | (simp [*]; done)), H', ⟨by have := HJ11.out; first | omega | exact Nat.le_refl _⟩, ⟨by apply blk_u; exact q3.out⟩, ⟨bl HB⟩⟩
        ·
         rw [if_neg c21] at H
         have Z5 : (q0 == 7) = false := beq_eq_false_iff_ne.mpr c21
         have Z6 : (q0 != 7) = true := bne_iff_ne.mpr c21
         have H' := Qaa.mk H
         clear H
         go_wp2
         go_meet
         case rel => exact ⟨_, ((q0 == 18)), (by first | rfl | (simp; done) | (simp [*]; done)), H', ⟨by have := HJ11.out; first | omega | exact Nat.le_refl _⟩, ⟨by apply blk_u; exact q3.out⟩, ⟨bl HB⟩⟩
      case rest =>
       clear Z1
       try clear c1
       try clear p1
       try clear q1
       try clear hx1
       try clear c2
       try clear p2
       try clear c4
       try clear Qw
       try clear Qx
       try clear c5
       try clear Z7
       try clear c6
       try clear Z8
       try clear c9
       try clear Qy
       try clear Qz
       try clear c15
       try clear j5
       try clear Qh
       try clear c16
       try clear Qi
       try clear Qj
       try clear c17
       try clear p17
       try clear q17
       try clear hx17
       try clear c20
       try clear z0
       try clear Z4
       try clear c21
       try clear Z5
       try clear Z6
       try clear z8
       try clear z9
       try clear y8
       try clear y9
       try clear Q0
       try clear Q6
       try clear Q7
       try clear Q8
       try clear Q9
       try clear Qa
       try clear Qm
       try clear Qn
       try clear Qo
       try clear Qp
       try clear Qq
       try clear Q1
       try clear Q2
       try clear Q3
       try clear Q4
       try clear Q5
       try clear Qb
       try clear Qc
       try clear Qd
       try clear Qe
       try clear Qf
       try clear Qr
       try clear Qs
       try clear Qt
       try clear Qu
       try clear Qv
       try clear j2
       try clear j3
       try clear p1
       try clear p172
       try clear p2
       try clear q1
       try clear q172
       obtain ⟨kq, x33_18, rfl, HA, HJ18, q3, HB⟩ := hcut
       cases kq with
       | zero => exact absurd HA.out (by simp [Qal.j1])
       | succ kj18 =>
        have H := HA.out
        clear HA
        simp only [Qal.j1] at H
        by_cases c22 : x33_18 = true
        ·
         subst c22
         have H1 : ((Qar.f kj18 l2).bind fun Qg => (some (1, Qg.2))) = some (r1, r2) := by rw [if_pos rfl] at H; exact H
         clear H
         have H := H1
         clear H1
         replace H := Option.bind_eq_some_iff.mp H
         obtain ⟨⟨Zw, Za⟩, Zb, H⟩ := H
         replace H : (some (1, Za)) = some (r1, r2) := H
         have A23 := Qaa.mk Zb
         clear Zb
         simp only [Option.some.injEq, Prod.mk.injEq] at H
         obtain ⟨rfl, rfl⟩ := H
         go_wp2_with (first | ((with_reducible refine gate_callee (f := 70) rfl ?_); refine gL (some 39) Try.func70 #[.slice A2 l2.length c2] ?_; (with_reducible refine (Qar.calls kj18 _ _ l2 Zw Za _ ?side1 ?side2 A23.out).mono ?_); (case side1 => exact Cb z6 HB); (case side2 => exact z7.out); rintro e w24 ⟨rfl, hb⟩; refine ⟨_, rfl, ?_⟩; replace q3 := Bb q3 hb; replace HB := bs HB hb; (try clear hb)))
         go_ret2
         exact ⟨by first | rfl | (simp [errW_none, errW_some] <;> rfl) | (simp [*, errW_none, errW_some] <;> rfl), bl HB⟩
        ·
         replace c22 := Bool.eq_false_iff.mpr c22
         subst c22
         have H1 : (if q0 = 13 then (some (1, true)) else (if q0 = 14 then (some (q2, true)) else (if q0 = 15 then ((Qat.f kj18 3 l2).bind fun z4 => (some (1, z4))) else (if q0 = 16 then (if 1 ≤ (l2.length : Int) then ((Qar.f kj18 (l2.drop 1)).bind fun j4 => (if j4.2 = true then ((Qat.f kj18 1 (l2.take 1)).bind fun q8 => (some (j4.1, q8))) else (some (j4.1, false)))) else (none)) else (if q0 = 17 then ((Qar.f kj18 l2).bind fun z2 => (some (z2.1, z2.2))) else ((Qat.f kj18 2 l2).bind fun z5 => (some (2, z5)))))))) = some (r1, r2) := by rw [if_neg (show ¬ (false = true) by decide)] at H; exact H
         clear H
         have H := H1
         clear H1
         by_cases c25 : q0 = 13
         ·
          rw [if_pos c25] at H
          have Zk : (q0 == 13) = true := beq_iff_eq.mpr c25
          have Zl : (q0 != 13) = false := bne_eq_false_iff_eq.mpr c25
          clear c25
          simp only [Option.some.injEq, Prod.mk.injEq] at H
          obtain ⟨rfl, rfl⟩ := H
          go_wp2
          go_ret2
          exact ⟨by first | rfl | (simp [errW_none, errW_some] <;> rfl) | (simp [*, errW_none, errW_some] <;> rfl), bl HB⟩
         ·
          rw [if_neg c25] at H
          have Zk : (q0 == 13) = false := beq_eq_false_iff_ne.mpr c25
          have Zl : (q0 != 13) = true := bne_iff_ne.mpr c25
          by_cases c26 : q0 = 14
          ·
           rw [if_pos c26] at H
           have Zm : (q0 == 14) = true := beq_iff_eq.mpr c26
           have Zn : (q0 != 14) = false := bne_eq_false_iff_eq.mpr c26
           clear c26
           simp only [Option.some.injEq, Prod.mk.injEq] at H
           obtain ⟨rfl, rfl⟩ := H
           obtain ⟨Zx, Zy, Zz, J0, J1, J2, J3, J4, J5, J6⟩ := cf5 q3
           go_wp2
           go_ret2
           exact ⟨by first | rfl | (simp [errW_none, errW_some] <;> rfl) | (simp [*, errW_none, errW_some] <;> rfl), bl HB⟩
          ·
           rw [if_neg c26] at H
           have Zm : (q0 == 14) = false := beq_eq_false_iff_ne.mpr c26
           have Zn : (q0 != 14) = true := bne_iff_ne.mpr c26
           by_cases c28 : q0 = 15
           ·
            rw [if_pos c28] at H
            have Zo : (q0 == 15) = true := beq_iff_eq.mpr c28
            have Zp : (q0 != 15) = false := bne_eq_false_iff_eq.mpr c28
            clear c28
            replace H := Option.bind_eq_some_iff.mp H
            obtain ⟨z4, Zc, H⟩ := H
            replace H : (some (1, z4)) = some (r1, r2) := H
            have A29 := Qaa.mk Zc
            clear Zc
            simp only [Option.some.injEq, Prod.mk.injEq] at H
            obtain ⟨rfl, rfl⟩ := H
            go_wp2_with (first | ((with_reducible refine gate_callee (f := 69) rfl ?_); refine gL (some 52) Try.func69 #[.int .i64 3, .slice A2 l2.length c2] ?_; (with_reducible refine (Qat.calls kj18 3 _ _ l2 z4 _ ?side1 ?side2 A29.out).mono ?_); (case side1 => exact Cb z6 HB); (case side2 => exact z7.out); rintro e w' ⟨rfl, ⟨nd, rfl⟩⟩; refine ⟨_, rfl, ?_⟩))
            go_ret2
            exact ⟨by first | rfl | (simp [errW_none, errW_some] <;> rfl) | (simp [*, errW_none, errW_some] <;> rfl), bl HB⟩
           ·
            rw [if_neg c28] at H
            have Zo : (q0 == 15) = false := beq_eq_false_iff_ne.mpr c28
            have Zp : (q0 != 15) = true := bne_iff_ne.mpr c28
            by_cases c30 : q0 = 16
            ·
             rw [if_pos c30] at H
             have Zq : (q0 == 16) = true := beq_iff_eq.mpr c30
             have Zr : (q0 != 16) = false := bne_eq_false_iff_eq.mpr c30
             clear c30
             by_cases c31 : 1 ≤ (l2.length : Int)
             ·
              rw [if_pos c31] at H
              have J8 := eq_true c31
              have J9 : decide (1 ≤ (l2.length : Int)) = true := decide_eq_true c31
              clear c31
              replace H := Option.bind_eq_some_iff.mp H
              obtain ⟨⟨z1, Zd⟩, Ze, H⟩ := H
              replace H : (if Zd = true then ((Qat.f kj18 1 (l2.take 1)).bind fun q8 => (some (z1, q8))) else (some (z1, false))) = some (r1, r2) := H
              have A32 := Qaa.mk Ze
              clear Ze
              by_cases c33 : Zd = true
              ·
               subst c33
               have H1 : ((Qat.f kj18 1 (l2.take 1)).bind fun q8 => (some (z1, q8))) = some (r1, r2) := by rw [if_pos rfl] at H; exact H
               clear H
               have H := H1
               clear H1
               have Ja := eq_true (of_decide_eq_true (by first | (with_reducible assumption) | assumption) : 1 ≤ (l2.length : Int))
               replace H := Option.bind_eq_some_iff.mp H
               obtain ⟨q8, Zf, H⟩ := H
               replace H : (some (z1, q8)) = some (r1, r2) := H
               have A35 := Qaa.mk Zf
               clear Zf
               simp only [Option.some.injEq, Prod.mk.injEq] at H
               obtain ⟨rfl, rfl⟩ := H
               obtain ⟨i036, hi036, _, hsz36, _⟩ := info_parts info3
               obtain ⟨A36, hcut36, hA36, hC36⟩ := print_drop_of (P := Try.prog) (Value.int .i64) 0 24 3 .i64 Try.underlying24 hi036 hsz36 A2 c2 l2 1 (by omega) (of_decide_eq_true (by first | (with_reducible assumption) | assumption)) z7.out
               have Qk := Qaa.mk (Kd.C_of_reads (h1 := fun _ => rfl) (hA36 _ (Kd.reads_of_C z6.out)))
               have Ql := Qaa.mk hC36
               clear hA36 hC36 hi036 hsz36
               go_wp2_with (first | ((with_reducible refine gate_callee (f := 70) rfl ?_); refine goesL_ (some 58) rfl rfl Try.func70 (by kernel_rfl) rfl #[.slice A36 (l2.drop 1).length (c2 - 1)] rfl (by (try simp only [List.map_toArray, List.map_cons, List.map_nil]); first | done | (rw [show (l2.drop 1).length = (l2.length - 1) from List.length_drop] <;> rfl) | rfl | (simp only [List.length_drop, List.length_take]; rfl)) ?_; (with_reducible refine (Qar.calls kj18 _ _ (l2.drop 1) z1 true _ ?side1 ?side2 A32.out).mono ?_); (case side1 => exact Cb Qk HB); (case side2 => exact Ql.out); rintro e w37 ⟨rfl, hb⟩; refine ⟨_, rfl, ?_⟩; replace q3 := Bb q3 hb; replace HB := bs HB hb; (try clear hb); obtain ⟨i038, hi038, _, hsz38, _⟩ := info_parts info3; obtain ⟨hcut38, hA38, hC38⟩ := print_take_of (P := Try.prog) (Value.int .i64) 0 24 3 .i64 Try.underlying24 hi038 hsz38 A2 c2 l2 1 (by omega) (of_decide_eq_true (by first | (with_reducible assumption) | assumption)) z7.out; have Zs := Qaa.mk (Kd.C_of_reads (h1 := fun _ => rfl) (hA38 _ (Kd.reads_of_C z6.out))); have Zt := Qaa.mk hC38; clear hA38 hC38 hi038 hsz38) | (go_at_call 69; (try rw [show min 1 l2.length = (l2.take 1).length from List.length_take.symm]); (with_reducible refine (Qat.calls kj18 1 _ _ (l2.take 1) q8 _ ?side1 ?side2 A35.out).mono ?_); (case side1 => exact Cb Zs HB); (case side2 => exact Zt.out); rintro e w' ⟨rfl, ⟨nd, rfl⟩⟩))
               go_ret2
               exact ⟨by first | rfl | (simp [errW_none, errW_some] <;> rfl) | (simp [*, errW_none, errW_some] <;> rfl), bl HB⟩
              ·
               replace c33 := Bool.eq_false_iff.mpr c33
               subst c33
               have H1 : (some (z1, false)) = some (r1, r2) := by rw [if_neg (show ¬ (false = true) by decide)] at H; exact H
               clear H
               have H := H1
               clear H1
               simp only [Option.some.injEq, Prod.mk.injEq] at H
               obtain ⟨rfl, rfl⟩ := H
               obtain ⟨i039, hi039, _, hsz39, _⟩ := info_parts info3
               obtain ⟨A39, hcut39, hA39, hC39⟩ := print_drop_of (P := Try.prog) (Value.int .i64) 0 24 3 .i64 Try.underlying24 hi039 hsz39 A2 c2 l2 1 (by omega) (of_decide_eq_true (by first | (with_reducible assumption) | assumption)) z7.out
               have Qk := Qaa.mk (Kd.C_of_reads (h1 := fun _ => rfl) (hA39 _ (Kd.reads_of_C z6.out)))
               have Ql := Qaa.mk hC39
               clear hA39 hC39 hi039 hsz39
               go_wp2_with (first | ((with_reducible refine gate_callee (f := 70) rfl ?_); refine goesL_ (some 58) rfl rfl Try.func70 (by kernel_rfl) rfl #[.slice A39 (l2.drop 1).length (c2 - 1)] rfl (by (try simp only [List.map_toArray, List.map_cons, List.map_nil]); first | done | (rw [show (l2.drop 1).length = (l2.length - 1) from List.length_drop] <;> rfl) | rfl | (simp only [List.length_drop, List.length_take]; rfl)) ?_; (with_reducible refine (Qar.calls kj18 _ _ (l2.drop 1) z1 false _ ?side1 ?side2 A32.out).mono ?_); (case side1 => exact Cb Qk HB); (case side2 => exact Ql.out); rintro e w40 ⟨rfl, hb⟩; refine ⟨_, rfl, ?_⟩; replace q3 := Bb q3 hb; replace HB := bs HB hb; (try clear hb)))
               go_ret2
               exact ⟨by first | rfl | (simp [errW_none, errW_some] <;> rfl) | (simp [*, errW_none, errW_some] <;> rfl), bl HB⟩
             ·
              rw [if_neg c31] at H
              exact absurd H (by simp)
            ·
             rw [if_neg c30] at H
             have Zq : (q0 == 16) = false := beq_eq_false_iff_ne.mpr c30
             have Zr : (q0 != 16) = true := bne_iff_ne.mpr c30
             by_cases c41 : q0 = 17
             ·
              rw [if_pos c41] at H
              have Zu : (q0 == 17) = true := beq_iff_eq.mpr c41
              have Zv : (q0 != 17) = false := bne_eq_false_iff_eq.mpr c41
              clear c41
              replace H := Option.bind_eq_some_iff.mp H
              obtain ⟨⟨Zg, Zh⟩, Zi, H⟩ := H
              replace H : (some (Zg, Zh)) = some (r1, r2) := H
              have A42 := Qaa.mk Zi
              clear Zi
              simp only [Option.some.injEq, Prod.mk.injEq] at H
              obtain ⟨rfl, rfl⟩ := H
              go_wp2_with (first | ((with_reducible refine gate_callee (f := 70) rfl ?_); refine gL (some 71) Try.func70 #[.slice A2 l2.length c2] ?_; (with_reducible refine (Qar.calls kj18 _ _ l2 Zg Zh _ ?side1 ?side2 A42.out).mono ?_); (case side1 => exact Cb z6 HB); (case side2 => exact z7.out); rintro e w43 ⟨rfl, hb⟩; refine ⟨_, rfl, ?_⟩; replace q3 := Bb q3 hb; replace HB := bs HB hb; (try clear hb)))
              go_ret2
              exact ⟨by first | rfl | (simp [errW_none, errW_some] <;> rfl) | (simp [*, errW_none, errW_some] <;> rfl), bl HB⟩
             ·
              rw [if_neg c41] at H
              have Zu : (q0 == 17) = false := beq_eq_false_iff_ne.mpr c41
              have Zv : (q0 != 17) = true := bne_iff_ne.mpr c41
              replace H := Option.bind_eq_some_iff.mp H
              obtain ⟨z5, Zj, H⟩ := H
              replace H : (some (2, z5)) = some (r1, r2) := H
              have A44 := Qaa.mk Zj
              clear Zj
              simp only [Option.some.injEq, Prod.mk.injEq] at H
              obtain ⟨rfl, rfl⟩ := H
              go_wp2_with (first | ((with_reducible refine gate_callee (f := 69) rfl ?_); refine gL (some 75) Try.func69 #[.int .i64 2, .slice A2 l2.length c2] ?_; (with_reducible refine (Qat.calls kj18 2 _ _ l2 z5 _ ?side1 ?side2 A44.out).mono ?_); (case side1 => exact Cb z6 HB); (case side2 => exact z7.out); rintro e w' ⟨rfl, ⟨nd, rfl⟩⟩; refine ⟨_, rfl, ?_⟩))
              go_ret2
              exact ⟨by first | rfl | (simp [errW_none, errW_some] <;> rfl) | (simp [*, errW_none, errW_some] <;> rfl), bl HB⟩
end Go.Proofs.Ytphnmaobpefoiaa.XW
end
