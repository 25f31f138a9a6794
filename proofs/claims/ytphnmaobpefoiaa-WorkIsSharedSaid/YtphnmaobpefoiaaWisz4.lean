/- A part of the proof of: WorkIsShared: for every input the call returns true and each argument reads as before; no condition. -/
import Derived.Test.YtphnmaobpefoiaaWisz3
import Derived.ChangeArms
import Derived.ChangeSlices
import Derived.Deep.RegionLaw
import Derived.OpenShut
set_option linter.unusedVariables false
set_option linter.unusedSimpArgs false
section
namespace Go.Proofs.Ytphnmaobpefoiaa.XW
open Go.RowKit Go.Proofs.YtphnmaobpefoiaaXW Go.Proofs.YtphnmaobpefoiaaW.PrintWords Go.Proofs.YtphnmaobpefoiaaW.PrintLast Go.Proofs.YtphnmaobpefoiaaW.PrintMore
attribute [local go_sem] max2_int min2_int max_two min_two max_three min_three max_four min_four sleq
set_option linter.unusedVariables false
set_option linter.unusedSimpArgs false
def Qaj.l0 : Nat → List (S86) → List Int → List (S64) → Int → Int → Option (Int × Int)
 | 0, _, _, _, _, _ => none
 | k + 1, x0, x7, x24, x25, x26 => if x26 < x25 then (if 0 ≤ x26 then (if x26 < (x24.length : Int) then ((Qai.f k x0 ((rd_T64 x24 x26).f0) ((rd_T64 x24 x26).f1) ((rd_T64 x24 x26).f2.f0) ((rd_T64 x24 x26).f2.f1) ((rd_T64 x24 x26).f2.f2)).bind fun j8 => (if j8 = 0 then ((Qao.f k ((rd_T64 x24 x26).f0) ((rd_T64 x24 x26).f1) ((rd_T64 x24 x26).f2.f0) ((rd_T64 x24 x26).f2.f1) ((rd_T64 x24 x26).f2.f2)).bind fun j1 => (if (wrap64 ((x7.length : Int) - j1)) < 0 then (some (0, 13)) else (if 0 ≤ (wrap64 ((x7.length : Int) - j1)) then (if (wrap64 ((x7.length : Int) - j1)) ≤ (x7.length : Int) then ((Qal.f k x0 ((rd_T64 x24 x26).f0) ((rd_T64 x24 x26).f1) ((rd_T64 x24 x26).f2.f0) ((rd_T64 x24 x26).f2.f1) ((rd_T64 x24 x26).f2.f2) (x7.drop ((wrap64 ((x7.length : Int) - j1)) : Int).toNat)).bind fun j3 => (if j3.2 = true then ((some (x7.take ((wrap64 ((x7.length : Int) - j1)) : Int).toNat : List Int)).bind fun y197 => (if y197.length < 17592186044416 then (Qaj.l0 k x0 (y197 ++ [j3.1]) x24 x25 (wrap64 (x26 + 1))) else (none))) else (some (0, 10)))) else (none)) else (none)))) else (some (0, j8)))) else (none)) else (none)) else (if (x7.length : Int) = 1 then (if 0 < (x7.length : Int) then (some (rd x7 0, 0)) else (none)) else (some (0, 13)))
def Qaj.f (k : Nat) (l0 : List (S86)) (q0 : List (S64)) : Option (Int × Int) := (Qad.f k l0).bind fun j7 => (if j7 = 0 then (if (q0.length : Int) > 200 then (some (0, 2)) else (Qaj.l0 k l0 ([] : List Int) q0 (q0.length : Int) 0)) else (some (0, j7)))
theorem Qaj.mono_l : ∀ k, (∀ y0 y1 y2 y3 y4, LeO (Qaj.l0 k y0 y1 y2 y3 y4) (Qaj.l0 (k + 1) y0 y1 y2 y3 y4))
 | 0 => fun _ _ _ _ _ r h => by simp [Qaj.l0] at h
 | k + 1 => by
  have ih0 := Qaj.mono_l k
  ·
   intro y0 y1 y2 y3 y4
   unfold Qaj.l0
   repeat' first
   | (with_reducible exact ih0 _ _ _ _ _)
   | (with_reducible exact Qao.mono _ _ _ _ _ _)
   | (with_reducible exact Qai.mono _ _ _ _ _ _ _)
   | (with_reducible exact Qal.mono _ _ _ _ _ _ _ _)
   | (with_reducible exact Qad.mono _ _)
   | (with_reducible exact LeO.refl _)
   | (with_reducible exact LeO.none _)
   | (with_reducible refine LeO.ite ?_ ?_)
   | (with_reducible refine LeO.bind ?_ (fun _ => ?_))
   | exact ih0 _ _ _ _ _
   | exact Qao.mono _ _ _ _ _ _
   | exact Qai.mono _ _ _ _ _ _ _
   | exact Qal.mono _ _ _ _ _ _ _ _
   | exact Qad.mono _ _
   | exact LeO.none _
   | refine LeO.ite ?_ ?_
   | refine LeO.bind ?_ (fun _ => ?_)
theorem Qaj.mono : ∀ a0 a1 k, LeO (Qaj.f k a0 a1) (Qaj.f (k + 1) a0 a1) := by
 intro a0 a1 k
 have ih0 := Qaj.mono_l k
 unfold Qaj.f
 repeat' first
   | (with_reducible exact ih0 _ _ _ _ _)
   | (with_reducible exact Qao.mono _ _ _ _ _ _)
   | (with_reducible exact Qai.mono _ _ _ _ _ _ _)
   | (with_reducible exact Qal.mono _ _ _ _ _ _ _ _)
   | (with_reducible exact Qad.mono _ _)
   | (with_reducible exact LeO.refl _)
   | (with_reducible exact LeO.none _)
   | (with_reducible refine LeO.ite ?_ ?_)
   | (with_reducible refine LeO.bind ?_ (fun _ => ?_))
   | exact ih0 _ _ _ _ _
   | exact Qao.mono _ _ _ _ _ _
   | exact Qai.mono _ _ _ _ _ _ _
   | exact Qal.mono _ _ _ _ _ _ _ _
   | exact Qad.mono _ _
   | exact LeO.none _
   | refine LeO.ite ?_ ?_
   | refine LeO.bind ?_ (fun _ => ?_)
def Qaj.T16 : Bool × List (List Nat × List Nat) := (true, [([], []), ([], []), ([], []), ([], []), ([2, 3], [2, 3]), ([0, 1, 4], [0, 1, 4]), ([5], [5]), ([6], [6]), ([6], [6]), ([7, 5, 0, 1, 2, 3, 4, 5, 6, 7], [7]), ([8, 9, 0, 1, 2, 3, 4, 5, 6, 7, 8, 9], [8])])
def Qaj.B16 : List Nat := [0, 0, 0, 0, 12, 31, 63, 127, 127, 255, 1023]
theorem Qaj.tab16 : rtab .any (opsOf Try.f42 16) = Qaj.T16 := by kernel_rfl
theorem Qaj.bits16 : waitsOk Qaj.T16.2 Qaj.B16 = true := by kernel_rfl
set_option maxHeartbeats 8000000 in
set_option maxRecDepth 100000 in
theorem Qaj.calls (k : Nat) (A0 : Option Addr) (c0 : Nat) (l0 : List (S86)) (z0 : Option Addr) (z1 : Nat) (q0 : List (S64)) (r1 : Int) (r2 : Int) (w : World) (hr0 : Kd.C k86 w A0 l0.length l0) (hc0 : l0.length ≤ c0) (Q0 : Kd.C k64 w z0 q0.length q0) (Q1 : q0.length ≤ z1) (h : Qaj.f k l0 q0 = some (r1, r2)) :
  Calls Try.prog 42 #[.slice A0 l0.length c0, .agg #[.slice z0 q0.length z1]] w fun e w' => e = .returned (.tuple #[.int .i64 r1, .int .i64 r2]) ∧ Below w.heap.size w w' := by
 have hu34 := Try.underlying34
 have hu64 := Try.underlying64
 have z4 := Qaa.mk hr0
 have z5 := Qaa.mk hc0
 clear hr0 hc0
 have z7 := Qaa.mk Q0
 have Jl := Qaa.mk Q1
 clear Q0 Q1
 have HB := Qaa.mk (Below.refl w.heap.size w)
 have H : ((Qad.f k l0).bind fun j7 => (if j7 = 0 then (if (q0.length : Int) > 200 then (some (0, 2)) else (Qaj.l0 k l0 ([] : List Int) q0 (q0.length : Int) 0)) else (some (0, j7)))) = some (r1, r2) := h
 clear h
 replace H := Option.bind_eq_some_iff.mp H
 obtain ⟨j7, A30, H⟩ := H
 replace H : (if j7 = 0 then (if (q0.length : Int) > 200 then (some (0, 2)) else (Qaj.l0 k l0 ([] : List Int) q0 (q0.length : Int) 0)) else (some (0, j7))) = some (r1, r2) := H
 have A3 := Qaa.mk A30
 clear A30
 by_cases c4 : j7 = 0
 ·
  rw [if_pos c4] at H
  have Q7 : (j7 == 0) = true := beq_iff_eq.mpr c4
  have Q8 : (j7 != 0) = false := bne_eq_false_iff_eq.mpr c4
  clear c4
  by_cases c5 : (q0.length : Int) > 200
  ·
   rw [if_pos c5] at H
   have Q9 : decide (200 < (q0.length : Int)) = true := decide_eq_true c5
   have Qa : decide (200 < q0.length) = true := decide_eq_true (by omega)
   clear c5
   simp only [Option.some.injEq, Prod.mk.injEq] at H
   obtain ⟨rfl, rfl⟩ := H
   go_enter Try.func42, Try.ntmps42
   go_wp2_with (first | ((with_reducible refine gate_dst (N := 3) rfl ?_); refine bx 3 #[.slice z0 q0.length z1] 34 ?_; intro j2 hg w6 hbox hb; have q2 := Qaa.mk (hbox); have Q2 := Qaa.mk ((by rw [hg]; exact (below_size (bl HB)) : w.heap.size ≤ j2)); have Q3 := Qaa.mk ((by rw [hg]; exact (below_size (bl HB)) : w.heap.size ≤ j2)); replace HB := bs HB hb; clear hb hbox hg) | ((with_reducible refine gate_callee (f := 58) rfl ?_); refine gL (some 15) Try.func58 #[.slice A0 l0.length c0] ?_; (with_reducible refine (Qad.calls k _ _ l0 j7 _ ?side1 ?side2 A3.out).mono ?_); (case side1 => exact Cb z4 HB); (case side2 => exact z5.out); rintro e w7 ⟨rfl, hb⟩; refine ⟨_, rfl, ?_⟩; replace q2 := Bb q2 hb; replace HB := bs HB hb; (try clear hb); have Qb : w7.cell? ⟨j2, 0, none⟩ = some (.slice z0 q0.length z1) := (blk_cell q2.out 0).trans rfl; have Qc := blk_frozen q2.out 0))
   go_ret2
   exact ⟨by first | rfl | (simp [errW_none, errW_some] <;> rfl) | (simp [*, errW_none, errW_some] <;> rfl), bl HB⟩
  ·
   rw [if_neg c5] at H
   have Q9 : decide (200 < (q0.length : Int)) = false := decide_eq_false c5
   have Qa : decide (200 < q0.length) = false := decide_eq_false (by omega)
   clear c5
   have H' := Qaa.mk H
   clear H
   go_enter Try.func42, Try.ntmps42
   go_wp2_with (first | ((with_reducible refine gate_dst (N := 3) rfl ?_); refine bx 3 #[.slice z0 q0.length z1] 34 ?_; intro j2 hg w9 hbox hb; have q2 := Qaa.mk (hbox); have Q2 := Qaa.mk ((by rw [hg]; exact (below_size (bl HB)) : w.heap.size ≤ j2)); have Q3 := Qaa.mk ((by rw [hg]; exact (below_size (bl HB)) : w.heap.size ≤ j2)); replace HB := bs HB hb; clear hb hbox hg) | ((with_reducible refine gate_callee (f := 58) rfl ?_); refine gL (some 15) Try.func58 #[.slice A0 l0.length c0] ?_; (with_reducible refine (Qad.calls k _ _ l0 j7 _ ?side1 ?side2 A3.out).mono ?_); (case side1 => exact Cb z4 HB); (case side2 => exact z5.out); rintro e w10 ⟨rfl, hb⟩; refine ⟨_, rfl, ?_⟩; replace q2 := Bb q2 hb; replace HB := bs HB hb; (try clear hb); have Q5 : w10.cell? ⟨j2, 0, none⟩ = some (.slice z0 q0.length z1) := (blk_cell q2.out 0).trans rfl; have Q6 := blk_frozen q2.out 0))
   go_loopg [7, 26] k (fun kq v7 v26 w' => ∃ (x7_1 : List Int) (x26_1 : Int), v26 = .int .i64 x26_1 ∧ Qaa (Qaj.l0 kq l0 x7_1 q0 (q0.length : Int) x26_1 = some (r1, r2)) ∧ Qaa (kq ≤ k) ∧ Qaa (Kd.R (Kd.int .i64) 3 w' w.heap.size (fun _ => True) v7 x7_1) ∧ Qaa (w'.heap[j2]? = some (.cells #[(.slice z0 q0.length z1)] 34 (0, 0))) ∧ Qaa (Below w.heap.size w w'))
   case atStart => exact ⟨(([] : List Int)), (0), (by first | rfl | (simp; done) | (simp [*]; done)), H', ⟨Nat.le_refl _⟩, ⟨by first | exact Kd.R_nil _ _ _ _ _ | exact Kd.N_nil _ _ _ _ _ | exact Kd.V_nil _ _ _ _ _ | exact Kd.Q_nil _ _ _ _ _ | exact Kd.S_nil _ _ _ _ _⟩, ⟨by apply blk_u; exact q2.out⟩, ⟨bl HB⟩⟩
   case round =>
    clear H'
    try clear c1
    try clear p2
    try clear c4
    try clear Q7
    try clear Q8
    try clear c5
    try clear Q9
    try clear Qa
    try clear Q5
    try clear Qb
    try clear Q6
    try clear Qc
    obtain ⟨x7_1, x26_1, rfl, HA, HK1, q3, q2, HB⟩ := hrel
    cases gk with
    | zero => exact absurd HA.out (by simp [Qaj.l0])
    | succ k1 =>
     have H := HA.out
     clear HA
     simp only [Qaj.l0] at H
     by_cases c12 : x26_1 < (q0.length : Int)
     ·
      rw [if_pos c12] at H
      have Qh : decide (x26_1 < (q0.length : Int)) = true := decide_eq_true c12
      clear c12
      by_cases c13 : 0 ≤ x26_1
      ·
       rw [if_pos c13] at H
       have Jm : decide (0 ≤ x26_1) = true := decide_eq_true c13
       clear c13
       by_cases c14 : x26_1 < (q0.length : Int)
       ·
        rw [if_pos c14] at H
        have Jn : decide (x26_1 < (q0.length : Int)) = true := decide_eq_true c14
        clear c14
        replace H := Option.bind_eq_some_iff.mp H
        obtain ⟨j8, Qd, H⟩ := H
        replace H : (if j8 = 0 then ((Qao.f k1 ((rd_T64 q0 x26_1).f0) ((rd_T64 q0 x26_1).f1) ((rd_T64 q0 x26_1).f2.f0) ((rd_T64 q0 x26_1).f2.f1) ((rd_T64 q0 x26_1).f2.f2)).bind fun j1 => (if (wrap64 ((x7_1.length : Int) - j1)) < 0 then (some (0, 13)) else (if 0 ≤ (wrap64 ((x7_1.length : Int) - j1)) then (if (wrap64 ((x7_1.length : Int) - j1)) ≤ (x7_1.length : Int) then ((Qal.f k1 l0 ((rd_T64 q0 x26_1).f0) ((rd_T64 q0 x26_1).f1) ((rd_T64 q0 x26_1).f2.f0) ((rd_T64 q0 x26_1).f2.f1) ((rd_T64 q0 x26_1).f2.f2) (x7_1.drop ((wrap64 ((x7_1.length : Int) - j1)) : Int).toNat)).bind fun j3 => (if j3.2 = true then ((some (x7_1.take ((wrap64 ((x7_1.length : Int) - j1)) : Int).toNat : List Int)).bind fun y197 => (if y197.length < 17592186044416 then (Qaj.l0 k1 l0 (y197 ++ [j3.1]) q0 (q0.length : Int) (wrap64 (x26_1 + 1))) else (none))) else (some (0, 10)))) else (none)) else (none)))) else (some (0, j8))) = some (r1, r2) := H
        have A15 := Qaa.mk Qd
        clear Qd
        by_cases c16 : j8 = 0
        ·
         rw [if_pos c16] at H
         have Qi : (j8 == 0) = true := beq_iff_eq.mpr c16
         have Qj : (j8 != 0) = false := bne_eq_false_iff_eq.mpr c16
         clear c16
         replace H := Option.bind_eq_some_iff.mp H
         obtain ⟨j1, Qe, H⟩ := H
         replace H : (if (wrap64 ((x7_1.length : Int) - j1)) < 0 then (some (0, 13)) else (if 0 ≤ (wrap64 ((x7_1.length : Int) - j1)) then (if (wrap64 ((x7_1.length : Int) - j1)) ≤ (x7_1.length : Int) then ((Qal.f k1 l0 ((rd_T64 q0 x26_1).f0) ((rd_T64 q0 x26_1).f1) ((rd_T64 q0 x26_1).f2.f0) ((rd_T64 q0 x26_1).f2.f1) ((rd_T64 q0 x26_1).f2.f2) (x7_1.drop ((wrap64 ((x7_1.length : Int) - j1)) : Int).toNat)).bind fun j3 => (if j3.2 = true then ((some (x7_1.take ((wrap64 ((x7_1.length : Int) - j1)) : Int).toNat : List Int)).bind fun y197 => (if y197.length < 17592186044416 then (Qaj.l0 k1 l0 (y197 ++ [j3.1]) q0 (q0.length : Int) (wrap64 (x26_1 + 1))) else (none))) else (some (0, 10)))) else (none)) else (none))) = some (r1, r2) := H
         have A17 := Qaa.mk Qe
         clear Qe
         by_cases c18 : (wrap64 ((x7_1.length : Int) - j1)) < 0
         ·
          rw [if_pos c18] at H
          have Q4 : decide ((wrap64 ((x7_1.length : Int) - j1)) < 0) = true := decide_eq_true c18
          clear c18
          simp only [Option.some.injEq, Prod.mk.injEq] at H
          obtain ⟨rfl, rfl⟩ := H
          have p187 : 0 ≤ (x26_1 : Int) := of_decide_eq_true (by first | (with_reducible assumption) | assumption)
          have q187 : x26_1 < (q0.length : Int) := of_decide_eq_true (by first | (with_reducible assumption) | assumption)
          obtain ⟨ad187, e187, q6, q7, q8, q9, j0⟩ := at_T64 z7.out x26_1 p187 q187
          cases e187
          replace q6 := (HB.out.cell (World.block_lt_of_cell? w _ q6)).trans q6
          replace q7 := (HB.out.cell (World.block_lt_of_cell? w _ q7)).trans q7
          replace q8 := (HB.out.cell (World.block_lt_of_cell? w _ q8)).trans q8
          replace q9 := (HB.out.cell (World.block_lt_of_cell? w _ q9)).trans q9
          replace j0 := (HB.out.cell (World.block_lt_of_cell? w _ j0)).trans j0
          replace p187 := eq_true p187
          replace q187 := eq_true q187
          go_wp2_with (first | ((with_reducible refine gate_dst (N := 9) rfl ?_); refine bx 9 #[.int .i64 0, .int .i64 0, .int .i64 0, .int .i64 0, .string (⟨#[]⟩ : ByteArray)] 64 ?_; intro q4 hg w19 hbox hb; have q1 := Qaa.mk (hbox); have y6 := Qaa.mk ((by rw [hg]; exact (below_size (bl HB)) : w.heap.size ≤ q4)); have y7 := Qaa.mk ((by rw [hg]; exact (below_size (bl HB)) : w.heap.size ≤ q4)); have j4 := Qaa.mk ((by rw [hg]; exact Nat.ne_of_lt (blk_lt (Ub q2)) : j2 ≠ q4)); have j5 := Qaa.mk ((by rw [hg]; exact Nat.ne_of_gt (blk_lt (Ub q2)) : q4 ≠ j2)); replace q3 := Rb q3 hb; replace q2 := Bb q2 hb; replace HB := bs HB hb; clear hb hbox hg; have Jo := j5.out; have Jp := j4.out; obtain ⟨Qn, Qo, Qp, Qq, Qr, Qs, Qt, Qu, Qv, Qw⟩ := cf5 q1) | ((with_reducible refine gate_callee (f := 59) rfl ?_); refine gL (some 32) Try.func59 #[.slice A0 l0.length c0, .agg #[.int .i64 ((rd_T64 q0 x26_1).f0), .int .i64 ((rd_T64 q0 x26_1).f1), .int .i64 ((rd_T64 q0 x26_1).f2.f0), .int .i64 ((rd_T64 q0 x26_1).f2.f1), .string ((rd_T64 q0 x26_1).f2.f2)]] ?_; (with_reducible refine (Qai.calls k1 _ _ l0 ((rd_T64 q0 x26_1).f0) ((rd_T64 q0 x26_1).f1) ((rd_T64 q0 x26_1).f2.f0) ((rd_T64 q0 x26_1).f2.f1) ((rd_T64 q0 x26_1).f2.f2) j8 _ ?side1 ?side2 A15.out).mono ?_); (case side1 => exact Kd.C_below z4.out (bl HB)); (case side2 => exact z5.out); rintro e w22 ⟨rfl, hb⟩; refine ⟨_, rfl, ?_⟩; replace q3 := Qaa.mk (Kd.R_below (Rf q3 q1) hb); replace q2 := Bb q2 hb; replace q1 := Qaa.mk (blk_below (g := q4) (o := .cells #[.int .i64 ((rd_T64 q0 x26_1).f0), .int .i64 ((rd_T64 q0 x26_1).f1), .int .i64 ((rd_T64 q0 x26_1).f2.f0), .int .i64 ((rd_T64 q0 x26_1).f2.f1), .string ((rd_T64 q0 x26_1).f2.f2)] 64 (0, 0)) (by apply blk_u; refine blk_put (cs := #[.int .i64 ((rd_T64 q0 x26_1).f0), .int .i64 ((rd_T64 q0 x26_1).f1), .int .i64 ((rd_T64 q0 x26_1).f2.f0), .int .i64 ((rd_T64 q0 x26_1).f2.f1), .string (⟨#[]⟩ : ByteArray)]) ?_ 4 _ rfl; apply blk_u; refine blk_put (cs := #[.int .i64 ((rd_T64 q0 x26_1).f0), .int .i64 ((rd_T64 q0 x26_1).f1), .int .i64 ((rd_T64 q0 x26_1).f2.f0), .int .i64 0, .string (⟨#[]⟩ : ByteArray)]) ?_ 3 _ rfl; apply blk_u; refine blk_put (cs := #[.int .i64 ((rd_T64 q0 x26_1).f0), .int .i64 ((rd_T64 q0 x26_1).f1), .int .i64 0, .int .i64 0, .string (⟨#[]⟩ : ByteArray)]) ?_ 2 _ rfl; apply blk_u; refine blk_put (cs := #[.int .i64 ((rd_T64 q0 x26_1).f0), .int .i64 0, .int .i64 0, .int .i64 0, .string (⟨#[]⟩ : ByteArray)]) ?_ 1 _ rfl; apply blk_u; refine blk_put (cs := #[.int .i64 0, .int .i64 0, .int .i64 0, .int .i64 0, .string (⟨#[]⟩ : ByteArray)]) ?_ 0 _ rfl; apply blk_u; exact q1.out) hb); replace HB := bs HB hb; (try clear hb); obtain ⟨Y3, Y4, eo23⟩ := Kd.R_slice q3.out; subst eo23; obtain ⟨Qx, Qy, Qz, Z0, Z1, Z2, Z3, Z4, Z5, Z6⟩ := cf5 q1) | ((with_reducible refine gate_callee (f := 43) rfl ?_); refine gL (some 39) Try.func43 #[.agg #[.int .i64 ((rd_T64 q0 x26_1).f0), .int .i64 ((rd_T64 q0 x26_1).f1), .int .i64 ((rd_T64 q0 x26_1).f2.f0), .int .i64 ((rd_T64 q0 x26_1).f2.f1), .string ((rd_T64 q0 x26_1).f2.f2)]] ?_; (with_reducible refine (Qao.calls k1 ((rd_T64 q0 x26_1).f0) ((rd_T64 q0 x26_1).f1) ((rd_T64 q0 x26_1).f2.f0) ((rd_T64 q0 x26_1).f2.f1) ((rd_T64 q0 x26_1).f2.f2) j1 _ A17.out).mono ?_); rintro e w25 ⟨rfl, hb⟩; refine ⟨_, rfl, ?_⟩; replace q3 := Rb q3 hb; replace q2 := Bb q2 hb; replace q1 := Bb q1 hb; replace HB := bs HB hb; (try clear hb)))
          go_ret2
          exact ⟨by first | rfl | (simp [errW_none, errW_some] <;> rfl) | (simp [*, errW_none, errW_some] <;> rfl), bl HB⟩
         ·
          rw [if_neg c18] at H
          have Q4 : decide ((wrap64 ((x7_1.length : Int) - j1)) < 0) = false := decide_eq_false c18
          clear c18
          obtain ⟨q5, j9⟩ : ∃ j_ : Int, (wrap64 ((x7_1.length : Int) - j1)) = j_ := ⟨_, rfl⟩
          replace H : (if 0 ≤ (q5) then (if (q5) ≤ (x7_1.length : Int) then ((Qal.f k1 l0 ((rd_T64 q0 x26_1).f0) ((rd_T64 q0 x26_1).f1) ((rd_T64 q0 x26_1).f2.f0) ((rd_T64 q0 x26_1).f2.f1) ((rd_T64 q0 x26_1).f2.f2) (x7_1.drop ((q5) : Int).toNat)).bind fun j3 => (if j3.2 = true then ((some (x7_1.take ((q5) : Int).toNat : List Int)).bind fun y197 => (if y197.length < 17592186044416 then (Qaj.l0 k1 l0 (y197 ++ [j3.1]) q0 (q0.length : Int) (wrap64 (x26_1 + 1))) else (none))) else (some (0, 10)))) else (none)) else (none)) = some (r1, r2) := by first | (rw [j9] at H; exact H) | (simp only [j9] at H ⊢; exact H)
          (try rw [j9] at Q4)
          (try rw [j9] at A15)
          (try rw [j9] at A17)
          have hji26w : (IntKind.i64.wrap ((x7_1.length : Int) - j1)) = q5 := (i64_w _).trans j9
          by_cases c27 : 0 ≤ (q5)
          ·
           rw [if_pos c27] at H
           have Jq := eq_true c27
           have Jr : decide (0 ≤ (q5)) = true := decide_eq_true c27
           clear c27
           by_cases c28 : (q5) ≤ (x7_1.length : Int)
           ·
            rw [if_pos c28] at H
            have Js := eq_true c28
            have Jt : decide ((q5) ≤ (x7_1.length : Int)) = true := decide_eq_true c28
            clear c28
            obtain ⟨y191, hy191⟩ : ∃ y_ : List Int, y_ = (x7_1.drop ((q5) : Int).toNat) := ⟨_, rfl⟩
            replace H : ((Qal.f k1 l0 ((rd_T64 q0 x26_1).f0) ((rd_T64 q0 x26_1).f1) ((rd_T64 q0 x26_1).f2.f0) ((rd_T64 q0 x26_1).f2.f1) ((rd_T64 q0 x26_1).f2.f2) y191).bind fun j3 => (if j3.2 = true then ((some (x7_1.take ((q5) : Int).toNat : List Int)).bind fun y197 => (if y197.length < 17592186044416 then (Qaj.l0 k1 l0 (y197 ++ [j3.1]) q0 (q0.length : Int) (wrap64 (x26_1 + 1))) else (none))) else (some (0, 10)))) = some (r1, r2) := by first | (rw [hy191]; with_reducible exact H) | (have H2_ := (Option.bind_some _ _).symm.trans H; rw [hy191]; with_reducible exact H2_) | (have H2_ := (Option.bind_some _ _).symm.trans H; with_reducible exact H2_) | with_reducible exact H | (rw [hy191]; exact H) | exact H
            have Ny191 := Qaa.mk hy191
            clear hy191
            replace H := Option.bind_eq_some_iff.mp H
            obtain ⟨⟨z2, Qf⟩, Qg, H⟩ := H
            replace H : (if Qf = true then ((some (x7_1.take ((q5) : Int).toNat : List Int)).bind fun y197 => (if y197.length < 17592186044416 then (Qaj.l0 k1 l0 (y197 ++ [z2]) q0 (q0.length : Int) (wrap64 (x26_1 + 1))) else (none))) else (some (0, 10))) = some (r1, r2) := H
            have A29 := Qaa.mk Qg
            clear Qg
            by_cases c30 : Qf = true
            ·
             subst c30
             have H1 : ((some (x7_1.take ((q5) : Int).toNat : List Int)).bind fun y197 => (if y197.length < 17592186044416 then (Qaj.l0 k1 l0 (y197 ++ [z2]) q0 (q0.length : Int) (wrap64 (x26_1 + 1))) else (none))) = some (r1, r2) := by rw [if_pos rfl] at H; exact H
             clear H
             have H := H1
             clear H1
             have Ju := eq_true (of_decide_eq_true (by first | (with_reducible assumption) | assumption) : (q5) ≤ (x7_1.length : Int))
             obtain ⟨y197, hy197⟩ : ∃ y_ : List Int, y_ = (x7_1.take ((q5) : Int).toNat) := ⟨_, rfl⟩
             replace H : (if y197.length < 17592186044416 then (Qaj.l0 k1 l0 (y197 ++ [z2]) q0 (q0.length : Int) (wrap64 (x26_1 + 1))) else (none)) = some (r1, r2) := by first | (rw [hy197]; with_reducible exact H) | (have H2_ := (Option.bind_some _ _).symm.trans H; rw [hy197]; with_reducible exact H2_) | (have H2_ := (Option.bind_some _ _).symm.trans H; with_reducible exact H2_) | with_reducible exact H | (rw [hy197]; exact H) | exact H
             have Ny197 := Qaa.mk hy197
             clear hy197
             by_cases c32 : y197.length < 17592186044416
             ·
              rw [if_pos c32] at H
              have LMc32 := Qaa.mk c32
              clear c32
              obtain ⟨y200, hy200⟩ : ∃ y_ : List Int, y_ = (y197 ++ [z2]) := ⟨_, rfl⟩
              replace H : (Qaj.l0 k1 l0 y200 q0 (q0.length : Int) (wrap64 (x26_1 + 1))) = some (r1, r2) := by first | (rw [hy200]; with_reducible exact H) | (have H2_ := (Option.bind_some _ _).symm.trans H; rw [hy200]; with_reducible exact H2_) | (have H2_ := (Option.bind_some _ _).symm.trans H; with_reducible exact H2_) | with_reducible exact H | (rw [hy200]; exact H) | exact H
              have Ny200 := Qaa.mk hy200
              clear hy200
              have H' := Qaa.mk H
              clear H
              have p187 : 0 ≤ (x26_1 : Int) := of_decide_eq_true (by first | (with_reducible assumption) | assumption)
              have q187 : x26_1 < (q0.length : Int) := of_decide_eq_true (by first | (with_reducible assumption) | assumption)
              obtain ⟨ad187, e187, q6, q7, q8, q9, j0⟩ := at_T64 z7.out x26_1 p187 q187
              cases e187
              replace q6 := (HB.out.cell (World.block_lt_of_cell? w _ q6)).trans q6
              replace q7 := (HB.out.cell (World.block_lt_of_cell? w _ q7)).trans q7
              replace q8 := (HB.out.cell (World.block_lt_of_cell? w _ q8)).trans q8
              replace q9 := (HB.out.cell (World.block_lt_of_cell? w _ q9)).trans q9
              replace j0 := (HB.out.cell (World.block_lt_of_cell? w _ j0)).trans j0
              replace p187 := eq_true p187
              replace q187 := eq_true q187
              try go_wp2_with (first | ((with_reducible refine gate_dst (N := 9) rfl ?_); refine bx 9 #[.int .i64 0, .int .i64 0, .int .i64 0, .int .i64 0, .string (⟨#[]⟩ : ByteArray)] 64 ?_; intro q4 hg w33 hbox hb; have q1 := Qaa.mk (hbox); have y6 := Qaa.mk ((by rw [hg]; exact (below_size (bl HB)) : w.heap.size ≤ q4)); have y7 := Qaa.mk ((by rw [hg]; exact (below_size (bl HB)) : w.heap.size ≤ q4)); have j4 := Qaa.mk ((by rw [hg]; exact Nat.ne_of_lt (blk_lt (Ub q2)) : j2 ≠ q4)); have j5 := Qaa.mk ((by rw [hg]; exact Nat.ne_of_gt (blk_lt (Ub q2)) : q4 ≠ j2)); replace q3 := Rb q3 hb; replace q2 := Bb q2 hb; replace HB := bs HB hb; clear hb hbox hg; have Jv := j5.out; have Jw := j4.out; obtain ⟨Z7, Z8, Z9, Za, Zb, Zc, Zd, Ze, Zf, Zg⟩ := cf5 q1) | ((with_reducible refine gate_callee (f := 59) rfl ?_); refine gL (some 32) Try.func59 #[.slice A0 l0.length c0, .agg #[.int .i64 ((rd_T64 q0 x26_1).f0), .int .i64 ((rd_T64 q0 x26_1).f1), .int .i64 ((rd_T64 q0 x26_1).f2.f0), .int .i64 ((rd_T64 q0 x26_1).f2.f1), .string ((rd_T64 q0 x26_1).f2.f2)]] ?_; (with_reducible refine (Qai.calls k1 _ _ l0 ((rd_T64 q0 x26_1).f0) ((rd_T64 q0 x26_1).f1) ((rd_T64 q0 x26_1).f2.f0) ((rd_T64 q0 x26_1).f2.f1) ((rd_T64 q0 x26_1).f2.f2) j8 _ ?side1 ?side2 A15.out).mono ?_); (case side1 => exact Kd.C_below z4.out (bl HB)); (case side2 => exact z5.out); rintro e w36 ⟨rfl, hb⟩; refine ⟨_, rfl, ?_⟩; replace q3 := Qaa.mk (Kd.R_below (Rf q3 q1) hb); replace q2 := Bb q2 hb; replace q1 := Qaa.mk (blk_below (g := q4) (o := .cells #[.int .i64 ((rd_T64 q0 x26_1).f0), .int .i64 ((rd_T64 q0 x26_1).f1), .int .i64 ((rd_T64 q0 x26_1).f2.f0), .int .i64 ((rd_T64 q0 x26_1).f2.f1), .string ((rd_T64 q0 x26_1).f2.f2)] 64 (0, 0)) (by apply blk_u; refine blk_put (cs := #[.int .i64 ((rd_T64 q0 x26_1).f0), .int .i64 ((rd_T64 q0 x26_1).f1), .int .i64 ((rd_T64 q0 x26_1).f2.f0), .int .i64 ((rd_T64 q0 x26_1).f2.f1), .string (⟨#[]⟩ : ByteArray)]) ?_ 4 _ rfl; apply blk_u; refine blk_put (cs := #[.int .i64 ((rd_T64 q0 x26_1).f0), .int .i64 ((rd_T64 q0 x26_1).f1), .int .i64 ((rd_T64 q0 x26_1).f2.f0), .int .i64 0, .string (⟨#[]⟩ : ByteArray)]) ?_ 3 _ rfl; apply blk_u; refine blk_put (cs := #[.int .i64 ((rd_T64 q0 x26_1).f0), .int .i64 ((rd_T64 q0 x26_1).f1), .int .i64 0, .int .i64 0, .string (⟨#[]⟩ : ByteArray)]) ?_ 2 _ rfl; apply blk_u; refine blk_put (cs := #[.int .i64 ((rd_T64 q0 x26_1).f0), .int .i64 0, .int .i64 0, .int .i64 0, .string (⟨#[]⟩ : ByteArray)]) ?_ 1 _ rfl; apply blk_u; refine blk_put (cs := #[.int .i64 0, .int .i64 0, .int .i64 0, .int .i64 0, .string (⟨#[]⟩ : ByteArray)]) ?_ 0 _ rfl; apply blk_u; exact q1.out) hb); replace HB := bs HB hb; (try clear hb); obtain ⟨z6, z3, eo37⟩ := Kd.R_slice q3.out; subst eo37; obtain ⟨Zh, Zi, Zj, Zk, Zl, Zm, Zn, Zo, Zp, Zq⟩ := cf5 q1) | ((with_reducible refine gate_callee (f := 43) rfl ?_); refine gL (some 39) Try.func43 #[.agg #[.int .i64 ((rd_T64 q0 x26_1).f0), .int .i64 ((rd_T64 q0 x26_1).f1), .int .i64 ((rd_T64 q0 x26_1).f2.f0), .int .i64 ((rd_T64 q0 x26_1).f2.f1), .string ((rd_T64 q0 x26_1).f2.f2)]] ?_; (with_reducible refine (Qao.calls k1 ((rd_T64 q0 x26_1).f0) ((rd_T64 q0 x26_1).f1) ((rd_T64 q0 x26_1).f2.f0) ((rd_T64 q0 x26_1).f2.f1) ((rd_T64 q0 x26_1).f2.f2) j1 _ A17.out).mono ?_); rintro e w39 ⟨rfl, hb⟩; refine ⟨_, rfl, ?_⟩; replace q3 := Rb q3 hb; replace q2 := Bb q2 hb; replace q1 := Bb q1 hb; replace HB := bs HB hb; (try clear hb)))
              replace q3 := Qaa.mk (Kd.R_drew q3.out)
              replace q2 := Qaa.mk (blk_drew q2.out)
              replace q1 := Qaa.mk (blk_drew q1.out)
              replace HB := Qaa.mk (below_drew1 HB.out)
              have q41 : ((q5) : Int) ≤ ((x7_1.length : Int) : Int) := of_decide_eq_true (by first | (with_reducible assumption) | assumption)
              obtain ⟨i041, hi041, _, hsz41, _⟩ := info_parts info3
              have hroom41 : x7_1.length ≤ z3 := (Kd.R_reads' q3.out).2.1
              have hC41 : Kd.C (Kd.int .i64) _ z6 x7_1.length x7_1 := (Kd.R_reads' q3.out).2.2
              have q041 : (0 : Int) ≤ ((q5) : Int) := of_decide_eq_true (by first | (with_reducible assumption) | assumption)
              have hcut41 := cut_from (P := Try.prog) 24 3 .i64 Try.underlying24 hi041 1 hsz41 z6 x7_1.length z3 (q5) q041 q41
              have hr41 := Kd.C_drop (m := ((q5) : Int).toNat) (c := z3) hC41 (by omega) hroom41
              obtain ⟨A41, hA41⟩ : ∃ A1, A1 = (if z3 = ((q5) : Int).toNat then z6 else (z6 : Option Addr).map (·.add (((q5) : Int).toNat * 1))) := ⟨_, rfl⟩
              obtain ⟨c41, hc41⟩ : ∃ c1, c1 = z3 - ((q5) : Int).toNat := ⟨_, rfl⟩
              have hy41 : y191.length = x7_1.length - ((q5) : Int).toNat := (by rw [Ny191.out, List.length_drop] <;> omega)
              rw [show (x7_1).drop ((q5) : Int).toNat = y191 from Ny191.out.symm] at hr41
              replace hr41 : Kd.C (Kd.int .i64) _ A41 y191.length y191 := (by rw [hA41]; exact hr41)
              rw [← hy41, ← hA41, ← hc41] at hcut41
              have j6 := Qaa.mk hr41
              have y8 := Qaa.mk (show y191.length ≤ c41 from by rw [hy41, hc41]; exact Nat.sub_le_sub_right hroom41 _)
              clear hr41 hC41 hroom41 hi041 hsz41 hc41
              have KY41 := Qaa.mk hy41
              have KA41 := Qaa.mk hA41
              clear hy41 hA41
              have KL41 := Qaa.mk (show ((q5) : Int).toNat ≤ x7_1.length from by omega)
              replace q41 := eq_true q41
              refine start_ (n := 11) (S := fun w' => w'.cell? ⟨q4, 0, none⟩ = some (.int .i64 ((rd_T64 q0 x26_1).f0)) ∧ w'.cell? ⟨q4, 1, none⟩ = some (.int .i64 ((rd_T64 q0 x26_1).f1)) ∧ w'.cell? ⟨q4, 2, none⟩ = some (.int .i64 ((rd_T64 q0 x26_1).f2.f0)) ∧ w'.cell? ⟨q4, 3, none⟩ = some (.int .i64 ((rd_T64 q0 x26_1).f2.f1)) ∧ w'.cell? ⟨q4, 4, none⟩ = some (.string ((rd_T64 q0 x26_1).f2.f2))) (ds := []) #[false, false, false, false, false, false, false, false, false, false, false] (by kernel_rfl) rfl rfl ⟨(blk_cell q1.out 0).trans rfl, (blk_cell q1.out 1).trans rfl, (blk_cell q1.out 2).trans rfl, (blk_cell q1.out 3).trans rfl, (blk_cell q1.out 4).trans rfl⟩ (fun hHeld => ?_); refine with_tabW Qaj.tab16 Qaj.bits16 (fun HT_ HW_ => ?_)
              generalize w39.drew = w40 at q3 q2 q1 HB j6 hHeld ⊢
              refine pure_ (i := 0) (N := some 44) (v := ?_) (a' := ?_) #[true, false, false, false, false, false, false, false, false, false, false] rfl rfl (any_of HT_.out (by kernel_rfl)) (fun _ _ _ h => h) (Or.inl ⟨by rfl, ?_⟩) ?_ ?_
              rotate_left
              ·
               intro w'
               go_simp
               with_reducible rfl
              rotate_left
              ·
               simp only [Act.put, List.setIfInBounds_toArray, List.set_cons_zero, List.set_cons_succ, i64_w, i32_w]
               rfl
              refine pure_ (i := 2) (N := some 46) (v := ?_) (a' := ?_) #[true, false, true, false, false, false, false, false, false, false, false] rfl rfl (any_of HT_.out (by kernel_rfl)) (fun _ _ _ h => h) (Or.inl ⟨by rfl, ?_⟩) ?_ ?_
              rotate_left
              ·
               intro w'
               go_simp
               with_reducible rfl
              rotate_left
              ·
               simp only [Act.put, List.setIfInBounds_toArray, List.set_cons_zero, List.set_cons_succ, i64_w, i32_w]
               rfl
              refine pure_ (i := 3) (N := some 47) (v := ?_) (a' := ?_) #[true, false, true, true, false, false, false, false, false, false, false] rfl rfl (any_of HT_.out (by kernel_rfl)) (fun _ _ _ h => h) (Or.inl ⟨by rfl, ?_⟩) ?_ ?_
              rotate_left
              ·
               intro w'
               go_simp
               with_reducible rfl
              rotate_left
              ·
               simp only [Act.put, List.setIfInBounds_toArray, List.set_cons_zero, List.set_cons_succ, i64_w, i32_w]
               rfl
              refine pure_ (i := 4) (N := some 48) (v := ?_) (a' := ?_) #[true, false, true, true, true, false, false, false, false, false, false] rfl rfl (any_of HT_.out (by kernel_rfl)) (fun _ _ _ h => h) (Or.inl ⟨by rfl, ?_⟩) ?_ ?_
              rotate_left
              ·
               intro w'
               go_simp
               with_reducible rfl
              rotate_left
              ·
               simp only [Act.put, List.setIfInBounds_toArray, List.set_cons_zero, List.set_cons_succ, i64_w, i32_w]
               rfl
              refine take_ (i := 1) (N := some 45) (v := ?_) (a' := ?_) #[true, true, true, true, true, false, false, false, false, false, false] rfl rfl (take_ofW HT_.out HW_.out (by kernel_rfl)) (fun _ _ _ h => h) (Or.inl ⟨by rfl, ?_⟩) hHeld ?_ ?_
              rotate_left
              ·
               rintro w' ⟨s0, s1, s2, s3, s4⟩
               go_simp
               with_reducible rfl
              rotate_left
              ·
               simp only [Act.put, List.setIfInBounds_toArray, List.set_cons_zero, List.set_cons_succ, i64_w, i32_w]
               rfl
              refine one_ (i := 5) (N := some 49) #[true, true, true, true, true, true, false, false, false, false, false] rfl rfl (one_of HT_.out (by kernel_rfl)) (by decide) (fun K hK => ?_)
              refine goes_ Try.func60 (by kernel_rfl) rfl #[.slice A0 l0.length c0, .agg #[.int .i64 ((rd_T64 q0 x26_1).f0), .int .i64 ((rd_T64 q0 x26_1).f1), .int .i64 ((rd_T64 q0 x26_1).f2.f0), .int .i64 ((rd_T64 q0 x26_1).f2.f1), .string ((rd_T64 q0 x26_1).f2.f2)], .slice A41 y191.length c41] (by rfl) rfl rfl (by (try simp only [List.map_toArray, List.map_cons, List.map_nil]); first | done | rfl | (simp only [List.length_drop, List.length_take]; rfl)) ?_
              with_reducible refine (Qal.calls k1 _ _ l0 ((rd_T64 q0 x26_1).f0) ((rd_T64 q0 x26_1).f1) ((rd_T64 q0 x26_1).f2.f0) ((rd_T64 q0 x26_1).f2.f1) ((rd_T64 q0 x26_1).f2.f2) _ _ y191 z2 true _ ?side1 ?side2 ?side3 ?side4 A29.out).mono ?_
              (case side1 => exact Cb z4 HB)
              (case side2 => exact z5.out)
              (case side3 => repeat (first | exact (by repeat (first | (with_reducible exact j6.out) | (with_reducible refine Kd.C_alloc ?_ _) | (with_reducible refine Kd.C_drewN ?_ _) | (with_reducible refine Kd.C_drew ?_) | exact j6.out)) | (with_reducible refine Kd.C_alloc ?_ _) | (with_reducible refine Kd.C_drewN ?_ _) | (with_reducible refine Kd.C_drew ?_)))
              (case side4 => exact y8.out)
              rintro e w42 ⟨rfl, hb⟩
              refine ⟨_, rfl, ?_⟩
              replace q3 := Rb q3 hb
              replace q2 := Bb q2 hb
              replace q1 := Bb q1 hb
              replace j6 := Qaa.mk (Kd.C_below (by repeat (first | (with_reducible exact j6.out) | (with_reducible refine Kd.C_alloc ?_ _) | (with_reducible refine Kd.C_drewN ?_ _) | (with_reducible refine Kd.C_drew ?_) | exact j6.out)) hb)
              replace HB := bs HB hb
              (try clear hb)
              (try clear hb2)
              (try clear hk)
              (try clear hi)
              refine hK.out _ _ ⟨(blk_cell q1.out 0).trans rfl, (blk_cell q1.out 1).trans rfl, (blk_cell q1.out 2).trans rfl, (blk_cell q1.out 3).trans rfl, (blk_cell q1.out 4).trans rfl⟩ (fun hHeld => ?_)
              clear hK K
              refine norm_ (a' := ?_) ?_ ?_
              rotate_left
              ·
               show Act.put _ (some 49) _ = _
               simp only [Act.put, List.setIfInBounds_toArray, List.set_cons_zero, List.set_cons_succ, i64_w, i32_w]
               rfl
              refine pure_ (i := 6) (N := some 43) (v := ?_) (a' := ?_) #[true, true, true, true, true, true, true, false, false, false, false] rfl rfl (any_of HT_.out (by kernel_rfl)) (fun _ _ _ h => h) (Or.inl ⟨by rfl, ?_⟩) ?_ ?_
              rotate_left
              ·
               intro w'
               go_simp
               with_reducible rfl
              rotate_left
              ·
               simp only [Act.put, List.setIfInBounds_toArray, List.set_cons_zero, List.set_cons_succ, i64_w, i32_w]
               rfl
              refine pure_ (i := 7) (N := some 50) (v := ?_) (a' := ?_) #[true, true, true, true, true, true, true, true, false, false, false] rfl rfl (any_of HT_.out (by kernel_rfl)) (fun _ _ _ h => h) (Or.inl ⟨by rfl, ?_⟩) ?_ ?_
              rotate_left
              ·
               intro w'
               go_simp
               with_reducible rfl
              rotate_left
              ·
               simp only [Act.put, List.setIfInBounds_toArray, List.set_cons_zero, List.set_cons_succ, i64_w, i32_w]
               rfl
              refine pure_ (i := 8) (N := some 51) (v := ?_) (a' := ?_) #[true, true, true, true, true, true, true, true, true, false, false] rfl rfl (any_of HT_.out (by kernel_rfl)) (fun _ _ _ h => h) (Or.inl ⟨by rfl, ?_⟩) ?_ ?_
              rotate_left
              ·
               intro w'
               go_simp
               with_reducible rfl
              rotate_left
              ·
               simp only [Act.put, List.setIfInBounds_toArray, List.set_cons_zero, List.set_cons_succ, i64_w, i32_w]
               rfl
              refine pure_ (i := 9) (N := some 12) (v := ?_) (a' := ?_) #[true, true, true, true, true, true, true, true, true, true, false] rfl rfl (any_of HT_.out (by kernel_rfl)) (fun _ _ _ h => h) (Or.inl ⟨by rfl, ?_⟩) ?_ ?_
              rotate_left
              ·
               intro w'
               go_simp
               with_reducible rfl
              rotate_left
              ·
               simp only [Act.put, List.setIfInBounds_toArray, List.set_cons_zero, List.set_cons_succ, i64_w, i32_w]
               rfl
              refine pure_ (i := 10) (N := some 13) (v := ?_) (a' := ?_) #[true, true, true, true, true, true, true, true, true, true, true] rfl rfl (any_of HT_.out (by kernel_rfl)) (fun _ _ _ h => h) (Or.inl ⟨by rfl, ?_⟩) ?_ ?_
              rotate_left
              ·
               intro w'
               go_simp
               with_reducible rfl
              rotate_left
              ·
               simp only [Act.put, List.setIfInBounds_toArray, List.set_cons_zero, List.set_cons_succ, i64_w, i32_w]
               rfl
              refine done_ (done_of HT_.out (by kernel_rfl)) ?_
              have q43 : ((q5) : Int) ≤ ((x7_1.length : Int) : Int) := of_decide_eq_true (by first | (with_reducible assumption) | assumption)
              obtain ⟨i043, hi043, _, hsz43, _⟩ := info_parts info3
              have hcut43 := cut_to (P := Try.prog) 24 3 .i64 Try.underlying24 hi043 z6 x7_1.length z3 (q5) (of_decide_eq_true (by first | (with_reducible assumption) | assumption)) q43 (Kd.R_reads' q3.out).2.1
              have hr43 := Kd.R_take (m := ((q5) : Int).toNat) q3.out (by omega)
              have hy43 : y197.length = ((q5) : Int).toNat := (by rw [Ny197.out, List.length_take]; omega)
              rw [← Ny197.out] at hr43
              rw [← hy43] at hr43 hcut43
              clear hy43 hi043 hsz43 q3
              have z8 := Qaa.mk hr43
              clear hr43
              replace q43 := eq_true q43
              try go_wp2_with (first | ((with_reducible refine gate_builtin (b := .append) (xs := #[.tmp 56, .tmp 58]) rfl ?_); at_builtin; refine Kd.R_append (Kd.int .i64) (w0 := w) w.heap.size rfl (.tmp 56) (.tmp 58) 24 3 (.int .i64 0) 8 rfl Try.underlying24 info3 rfl (by decide) (by omega) (.slice z6 y197.length z3) y197 z2 [.int .i64 z2] (fun _ => True) (fun _ => False) rfl rfl ?aP (fun _ hk => hk.elim) ?aF ?aO ?aB ?aS ?aL ?_; (case aP => exact rfl); (case aB => exact (bl HB)); (case aF => exact (fun _ _ => trivial)); (case aO => exact (R_u z8.out)); (case aS => exact (below_size (bl HB))); (case aL => have := LMc32.out; omega); intro Y5 w44 ho hb hg hat; rw [← Ny200.out] at ho; have Qk := Qaa.mk (ho); replace q2 := Qaa.mk (blk_grown (Ub q2) hg (Kd.R_ne z8.out q2.out (by decide))); replace q1 := Qaa.mk (blk_grown (Ub q1) hg (Kd.R_ne z8.out q1.out (by decide))); replace HB := Qaa.mk (hb); clear z8; clear ho hb hg hat))
              go_roundg k1
              case measure => have := HK1.out; omega
              case rel => exact ⟨(y200), (wrap64 (x26_1 + 1)), (by first | rfl | (simp; done) | (simp [*]; done)), H', ⟨by have := HK1.out; omega⟩, ⟨by apply R_u; exact Qk.out⟩, ⟨by apply blk_u; exact q2.out⟩, ⟨bl HB⟩⟩
             ·
              rw [if_neg c32] at H
              exact absurd H (by simp)
            ·
             replace c30 := Bool.eq_false_iff.mpr c30
             subst c30
             have H1 : (some (0, 10)) = some (r1, r2) := by rw [if_neg (show ¬ (false = true) by decide)] at H; exact H
             clear H
             have H := H1
             clear H1
             simp only [Option.some.injEq, Prod.mk.injEq] at H
             obtain ⟨rfl, rfl⟩ := H
             have p187 : 0 ≤ (x26_1 : Int) := of_decide_eq_true (by first | (with_reducible assumption) | assumption)
             have q187 : x26_1 < (q0.length : Int) := of_decide_eq_true (by first | (with_reducible assumption) | assumption)
             obtain ⟨ad187, e187, q6, q7, q8, q9, j0⟩ := at_T64 z7.out x26_1 p187 q187
             cases e187
             replace q6 := (HB.out.cell (World.block_lt_of_cell? w _ q6)).trans q6
             replace q7 := (HB.out.cell (World.block_lt_of_cell? w _ q7)).trans q7
             replace q8 := (HB.out.cell (World.block_lt_of_cell? w _ q8)).trans q8
             replace q9 := (HB.out.cell (World.block_lt_of_cell? w _ q9)).trans q9
             replace j0 := (HB.out.cell (World.block_lt_of_cell? w _ j0)).trans j0
             replace p187 := eq_true p187
             replace q187 := eq_true q187
             try go_wp2_with (first | ((with_reducible refine gate_dst (N := 9) rfl ?_); refine bx 9 #[.int .i64 0, .int .i64 0, .int .i64 0, .int .i64 0, .string (⟨#[]⟩ : ByteArray)] 64 ?_; intro q4 hg w45 hbox hb; have q1 := Qaa.mk (hbox); have y6 := Qaa.mk ((by rw [hg]; exact (below_size (bl HB)) : w.heap.size ≤ q4)); have y7 := Qaa.mk ((by rw [hg]; exact (below_size (bl HB)) : w.heap.size ≤ q4)); have j4 := Qaa.mk ((by rw [hg]; exact Nat.ne_of_lt (blk_lt (Ub q2)) : j2 ≠ q4)); have j5 := Qaa.mk ((by rw [hg]; exact Nat.ne_of_gt (blk_lt (Ub q2)) : q4 ≠ j2)); replace q3 := Rb q3 hb; replace q2 := Bb q2 hb; replace HB := bs HB hb; clear hb hbox hg; have Jx := j5.out; have Jy := j4.out; obtain ⟨Zr, Zs, Zt, Zu, Zv, Zw, Zx, Zy, Zz, J0⟩ := cf5 q1) | ((with_reducible refine gate_callee (f := 59) rfl ?_); refine gL (some 32) Try.func59 #[.slice A0 l0.length c0, .agg #[.int .i64 ((rd_T64 q0 x26_1).f0), .int .i64 ((rd_T64 q0 x26_1).f1), .int .i64 ((rd_T64 q0 x26_1).f2.f0), .int .i64 ((rd_T64 q0 x26_1).f2.f1), .string ((rd_T64 q0 x26_1).f2.f2)]] ?_; (with_reducible refine (Qai.calls k1 _ _ l0 ((rd_T64 q0 x26_1).f0) ((rd_T64 q0 x26_1).f1) ((rd_T64 q0 x26_1).f2.f0) ((rd_T64 q0 x26_1).f2.f1) ((rd_T64 q0 x26_1).f2.f2) j8 _ ?side1 ?side2 A15.out).mono ?_); (case side1 => exact Kd.C_below z4.out (bl HB)); (case side2 => exact z5.out); rintro e w48 ⟨rfl, hb⟩; refine ⟨_, rfl, ?_⟩; replace q3 := Qaa.mk (Kd.R_below (Rf q3 q1) hb); replace q2 := Bb q2 hb; replace q1 := Qaa.mk (blk_below (g := q4) (o := .cells #[.int .i64 ((rd_T64 q0 x26_1).f0), .int .i64 ((rd_T64 q0 x26_1).f1), .int .i64 ((rd_T64 q0 x26_1).f2.f0), .int .i64 ((rd_T64 q0 x26_1).f2.f1), .string ((rd_T64 q0 x26_1).f2.f2)] 64 (0, 0)) (by apply blk_u; refine blk_put (cs := #[.int .i64 ((rd_T64 q0 x26_1).f0), .int .i64 ((rd_T64 q0 x26_1).f1), .int .i64 ((rd_T64 q0 x26_1).f2.f0), .int .i64 ((rd_T64 q0 x26_1).f2.f1), .string (⟨#[]⟩ : ByteArray)]) ?_ 4 _ rfl; apply blk_u; refine blk_put (cs := #[.int .i64 ((rd_T64 q0 x26_1).f0), .int .i64 ((rd_T64 q0 x26_1).f1), .int .i64 ((rd_T64 q0 x26_1).f2.f0), .int .i64 0, .string (⟨#[]⟩ : ByteArray)]) ?_ 3 _ rfl; apply blk_u; refine blk_put (cs := #[.int .i64 ((rd_T64 q0 x26_1).f0), .int .i64 ((rd_T64 q0 x26_1).f1), .int .i64 0, .int .i64 0, .string (⟨#[]⟩ : ByteArray)]) ?_ 2 _ rfl; apply blk_u; refine blk_put (cs := #[.int .i64 ((rd_T64 q0 x26_1).f0), .int .i64 0, .int .i64 0, .int .i64 0, .string (⟨#[]⟩ : ByteArray)]) ?_ 1 _ rfl; apply blk_u; refine blk_put (cs := #[.int .i64 0, .int .i64 0, .int .i64 0, .int .i64 0, .string (⟨#[]⟩ : ByteArray)]) ?_ 0 _ rfl; apply blk_u; exact q1.out) hb); replace HB := bs HB hb; (try clear hb); obtain ⟨y9, z9, eo49⟩ := Kd.R_slice q3.out; subst eo49; obtain ⟨J1, J2, J3, J4, J5, J6, J7, J8, J9, Ja⟩ := cf5 q1) | ((with_reducible refine gate_callee (f := 43) rfl ?_); refine gL (some 39) Try.func43 #[.agg #[.int .i64 ((rd_T64 q0 x26_1).f0), .int .i64 ((rd_T64 q0 x26_1).f1), .int .i64 ((rd_T64 q0 x26_1).f2.f0), .int .i64 ((rd_T64 q0 x26_1).f2.f1), .string ((rd_T64 q0 x26_1).f2.f2)]] ?_; (with_reducible refine (Qao.calls k1 ((rd_T64 q0 x26_1).f0) ((rd_T64 q0 x26_1).f1) ((rd_T64 q0 x26_1).f2.f0) ((rd_T64 q0 x26_1).f2.f1) ((rd_T64 q0 x26_1).f2.f2) j1 _ A17.out).mono ?_); rintro e w51 ⟨rfl, hb⟩; refine ⟨_, rfl, ?_⟩; replace q3 := Rb q3 hb; replace q2 := Bb q2 hb; replace q1 := Bb q1 hb; replace HB := bs HB hb; (try clear hb)))
             replace q3 := Qaa.mk (Kd.R_drew q3.out)
             replace q2 := Qaa.mk (blk_drew q2.out)
             replace q1 := Qaa.mk (blk_drew q1.out)
             replace HB := Qaa.mk (below_drew1 HB.out)
             have q53 : ((q5) : Int) ≤ ((x7_1.length : Int) : Int) := of_decide_eq_true (by first | (with_reducible assumption) | assumption)
             obtain ⟨i053, hi053, _, hsz53, _⟩ := info_parts info3
             have hroom53 : x7_1.length ≤ z9 := (Kd.R_reads' q3.out).2.1
             have hC53 : Kd.C (Kd.int .i64) _ y9 x7_1.length x7_1 := (Kd.R_reads' q3.out).2.2
             have q053 : (0 : Int) ≤ ((q5) : Int) := of_decide_eq_true (by first | (with_reducible assumption) | assumption)
             have hcut53 := cut_from (P := Try.prog) 24 3 .i64 Try.underlying24 hi053 1 hsz53 y9 x7_1.length z9 (q5) q053 q53
             have hr53 := Kd.C_drop (m := ((q5) : Int).toNat) (c := z9) hC53 (by omega) hroom53
             obtain ⟨A53, hA53⟩ : ∃ A1, A1 = (if z9 = ((q5) : Int).toNat then y9 else (y9 : Option Addr).map (·.add (((q5) : Int).toNat * 1))) := ⟨_, rfl⟩
             obtain ⟨c53, hc53⟩ : ∃ c1, c1 = z9 - ((q5) : Int).toNat := ⟨_, rfl⟩
             have hy53 : y191.length = x7_1.length - ((q5) : Int).toNat := (by rw [Ny191.out, List.length_drop] <;> omega)
             rw [show (x7_1).drop ((q5) : Int).toNat = y191 from Ny191.out.symm] at hr53
             replace hr53 : Kd.C (Kd.int .i64) _ A53 y191.length y191 := (by rw [hA53]; exact hr53)
             rw [← hy53, ← hA53, ← hc53] at hcut53
             have j6 := Qaa.mk hr53
             have y8 := Qaa.mk (show y191.length ≤ c53 from by rw [hy53, hc53]; exact Nat.sub_le_sub_right hroom53 _)
             clear hr53 hC53 hroom53 hi053 hsz53 hc53
             have KY53 := Qaa.mk hy53
             have KA53 := Qaa.mk hA53
             clear hy53 hA53
             have KL53 := Qaa.mk (show ((q5) : Int).toNat ≤ x7_1.length from by omega)
             replace q53 := eq_true q53
             refine start_ (n := 11) (S := fun w' => w'.cell? ⟨q4, 0, none⟩ = some (.int .i64 ((rd_T64 q0 x26_1).f0)) ∧ w'.cell? ⟨q4, 1, none⟩ = some (.int .i64 ((rd_T64 q0 x26_1).f1)) ∧ w'.cell? ⟨q4, 2, none⟩ = some (.int .i64 ((rd_T64 q0 x26_1).f2.f0)) ∧ w'.cell? ⟨q4, 3, none⟩ = some (.int .i64 ((rd_T64 q0 x26_1).f2.f1)) ∧ w'.cell? ⟨q4, 4, none⟩ = some (.string ((rd_T64 q0 x26_1).f2.f2))) (ds := []) #[false, false, false, false, false, false, false, false, false, false, false] (by kernel_rfl) rfl rfl ⟨(blk_cell q1.out 0).trans rfl, (blk_cell q1.out 1).trans rfl, (blk_cell q1.out 2).trans rfl, (blk_cell q1.out 3).trans rfl, (blk_cell q1.out 4).trans rfl⟩ (fun hHeld => ?_); refine with_tabW Qaj.tab16 Qaj.bits16 (fun HT_ HW_ => ?_)
             generalize w51.drew = w52 at q3 q2 q1 HB j6 hHeld ⊢
             refine pure_ (i := 0) (N := some 44) (v := ?_) (a' := ?_) #[true, false, false, false, false, false, false, false, false, false, false] rfl rfl (any_of HT_.out (by kernel_rfl)) (fun _ _ _ h => h) (Or.inl ⟨by rfl, ?_⟩) ?_ ?_
             rotate_left
             ·
              intro w'
              go_simp
              with_reducible rfl
             rotate_left
             ·
              simp only [Act.put, List.setIfInBounds_toArray, List.set_cons_zero, List.set_cons_succ, i64_w, i32_w]
              rfl
             refine pure_ (i := 2) (N := some 46) (v := ?_) (a' := ?_) #[true, false, true, false, false, false, false, false, false, false, false] rfl rfl (any_of HT_.out (by kernel_rfl)) (fun _ _ _ h => h) (Or.inl ⟨by rfl, ?_⟩) ?_ ?_
             rotate_left
             ·
              intro w'
              go_simp
              with_reducible rfl
             rotate_left
             ·
              simp only [Act.put, List.setIfInBounds_toArray, List.set_cons_zero, List.set_cons_succ, i64_w, i32_w]
              rfl
             refine pure_ (i := 3) (N := some 47) (v := ?_) (a' := ?_) #[true, false, true, true, false, false, false, false, false, false, false] rfl rfl (any_of HT_.out (by kernel_rfl)) (fun _ _ _ h => h) (Or.inl ⟨by rfl, ?_⟩) ?_ ?_
             rotate_left
             ·
              intro w'
              go_simp
              with_reducible rfl
             rotate_left
             ·
              simp only [Act.put, List.setIfInBounds_toArray, List.set_cons_zero, List.set_cons_succ, i64_w, i32_w]
              rfl
             refine pure_ (i := 4) (N := some 48) (v := ?_) (a' := ?_) #[true, false, true, true, true, false, false, false, false, false, false] rfl rfl (any_of HT_.out (by kernel_rfl)) (fun _ _ _ h => h) (Or.inl ⟨by rfl, ?_⟩) ?_ ?_
             rotate_left
             ·
              intro w'
              go_simp
              with_reducible rfl
             rotate_left
             ·
              simp only [Act.put, List.setIfInBounds_toArray, List.set_cons_zero, List.set_cons_succ, i64_w, i32_w]
              rfl
             refine take_ (i := 1) (N := some 45) (v := ?_) (a' := ?_) #[true, true, true, true, true, false, false, false, false, false, false] rfl rfl (take_ofW HT_.out HW_.out (by kernel_rfl)) (fun _ _ _ h => h) (Or.inl ⟨by rfl, ?_⟩) hHeld ?_ ?_
             rotate_left
             ·
              rintro w' ⟨s0, s1, s2, s3, s4⟩
              go_simp
              with_reducible rfl
             rotate_left
             ·
              simp only [Act.put, List.setIfInBounds_toArray, List.set_cons_zero, List.set_cons_succ, i64_w, i32_w]
              rfl
             refine one_ (i := 5) (N := some 49) #[true, true, true, true, true, true, false, false, false, false, false] rfl rfl (one_of HT_.out (by kernel_rfl)) (by decide) (fun K hK => ?_)
             refine goes_ Try.func60 (by kernel_rfl) rfl #[.slice A0 l0.length c0, .agg #[.int .i64 ((rd_T64 q0 x26_1).f0), .int .i64 ((rd_T64 q0 x26_1).f1), .int .i64 ((rd_T64 q0 x26_1).f2.f0), .int .i64 ((rd_T64 q0 x26_1).f2.f1), .string ((rd_T64 q0 x26_1).f2.f2)], .slice A53 y191.length c53] (by rfl) rfl rfl (by (try simp only [List.map_toArray, List.map_cons, List.map_nil]); first | done | rfl | (simp only [List.length_drop, List.length_take]; rfl)) ?_
             with_reducible refine (Qal.calls k1 _ _ l0 ((rd_T64 q0 x26_1).f0) ((rd_T64 q0 x26_1).f1) ((rd_T64 q0 x26_1).f2.f0) ((rd_T64 q0 x26_1).f2.f1) ((rd_T64 q0 x26_1).f2.f2) _ _ y191 z2 false _ ?side1 ?side2 ?side3 ?side4 A29.out).mono ?_
             (case side1 => exact Cb z4 HB)
             (case side2 => exact z5.out)
             (case side3 => repeat (first | exact (by repeat (first | (with_reducible exact j6.out) | (with_reducible refine Kd.C_alloc ?_ _) | (with_reducible refine Kd.C_drewN ?_ _) | (with_reducible refine Kd.C_drew ?_) | exact j6.out)) | (with_reducible refine Kd.C_alloc ?_ _) | (with_reducible refine Kd.C_drewN ?_ _) | (with_reducible refine Kd.C_drew ?_)))
             (case side4 => exact y8.out)
             rintro e w54 ⟨rfl, hb⟩
             refine ⟨_, rfl, ?_⟩
             replace q3 := Rb q3 hb
             replace q2 := Bb q2 hb
             replace q1 := Bb q1 hb
             replace j6 := Qaa.mk (Kd.C_below (by repeat (first | (with_reducible exact j6.out) | (with_reducible refine Kd.C_alloc ?_ _) | (with_reducible refine Kd.C_drewN ?_ _) | (with_reducible refine Kd.C_drew ?_) | exact j6.out)) hb)
             replace HB := bs HB hb
             (try clear hb)
             (try clear hb2)
             (try clear hk)
             (try clear hi)
             refine hK.out _ _ ⟨(blk_cell q1.out 0).trans rfl, (blk_cell q1.out 1).trans rfl, (blk_cell q1.out 2).trans rfl, (blk_cell q1.out 3).trans rfl, (blk_cell q1.out 4).trans rfl⟩ (fun hHeld => ?_)
             clear hK K
             refine norm_ (a' := ?_) ?_ ?_
             rotate_left
             ·
              show Act.put _ (some 49) _ = _
              simp only [Act.put, List.setIfInBounds_toArray, List.set_cons_zero, List.set_cons_succ, i64_w, i32_w]
              rfl
             refine pure_ (i := 6) (N := some 43) (v := ?_) (a' := ?_) #[true, true, true, true, true, true, true, false, false, false, false] rfl rfl (any_of HT_.out (by kernel_rfl)) (fun _ _ _ h => h) (Or.inl ⟨by rfl, ?_⟩) ?_ ?_
             rotate_left
             ·
              intro w'
              go_simp
              with_reducible rfl
             rotate_left
             ·
              simp only [Act.put, List.setIfInBounds_toArray, List.set_cons_zero, List.set_cons_succ, i64_w, i32_w]
              rfl
             refine pure_ (i := 7) (N := some 50) (v := ?_) (a' := ?_) #[true, true, true, true, true, true, true, true, false, false, false] rfl rfl (any_of HT_.out (by kernel_rfl)) (fun _ _ _ h => h) (Or.inl ⟨by rfl, ?_⟩) ?_ ?_
             rotate_left
             ·
              intro w'
              go_simp
              with_reducible rfl
             rotate_left
             ·
              simp only [Act.put, List.setIfInBounds_toArray, List.set_cons_zero, List.set_cons_succ, i64_w, i32_w]
              rfl
             refine pure_ (i := 8) (N := some 51) (v := ?_) (a' := ?_) #[true, true, true, true, true, true, true, true, true, false, false] rfl rfl (any_of HT_.out (by kernel_rfl)) (fun _ _ _ h => h) (Or.inl ⟨by rfl, ?_⟩) ?_ ?_
             rotate_left
             ·
              intro w'
              go_simp
              with_reducible rfl
             rotate_left
             ·
              simp only [Act.put, List.setIfInBounds_toArray, List.set_cons_zero, List.set_cons_succ, i64_w, i32_w]
              rfl
             refine pure_ (i := 9) (N := some 12) (v := ?_) (a' := ?_) #[true, true, true, true, true, true, true, true, true, true, false] rfl rfl (any_of HT_.out (by kernel_rfl)) (fun _ _ _ h => h) (Or.inl ⟨by rfl, ?_⟩) ?_ ?_
             rotate_left
             ·
              intro w'
              go_simp
              with_reducible rfl
             rotate_left
             ·
              simp only [Act.put, List.setIfInBounds_toArray, List.set_cons_zero, List.set_cons_succ, i64_w, i32_w]
              rfl
             refine pure_ (i := 10) (N := some 13) (v := ?_) (a' := ?_) #[true, true, true, true, true, true, true, true, true, true, true] rfl rfl (any_of HT_.out (by kernel_rfl)) (fun _ _ _ h => h) (Or.inl ⟨by rfl, ?_⟩) ?_ ?_
             rotate_left
             ·
              intro w'
              go_simp
              with_reducible rfl
             rotate_left
             ·
              simp only [Act.put, List.setIfInBounds_toArray, List.set_cons_zero, List.set_cons_succ, i64_w, i32_w]
              rfl
             refine done_ (done_of HT_.out (by kernel_rfl)) ?_
             try go_wp2
             go_ret2
             exact ⟨by first | rfl | (simp [errW_none, errW_some] <;> rfl) | (simp only [← j9]; first | rfl | (simp [errW_none, errW_some] <;> rfl)) | (simp [*, errW_none, errW_some] <;> rfl), bl HB⟩
           ·
            rw [if_neg c28] at H
            exact absurd H (by simp)
          ·
           rw [if_neg c27] at H
           exact absurd H (by simp)
        ·
         rw [if_neg c16] at H
         have Qi : (j8 == 0) = false := beq_eq_false_iff_ne.mpr c16
         have Qj : (j8 != 0) = true := bne_iff_ne.mpr c16
         simp only [Option.some.injEq, Prod.mk.injEq] at H
         obtain ⟨rfl, rfl⟩ := H
         have p187 : 0 ≤ (x26_1 : Int) := of_decide_eq_true (by first | (with_reducible assumption) | assumption)
         have q187 : x26_1 < (q0.length : Int) := of_decide_eq_true (by first | (with_reducible assumption) | assumption)
         obtain ⟨ad187, e187, q6, q7, q8, q9, j0⟩ := at_T64 z7.out x26_1 p187 q187
         cases e187
         replace q6 := (HB.out.cell (World.block_lt_of_cell? w _ q6)).trans q6
         replace q7 := (HB.out.cell (World.block_lt_of_cell? w _ q7)).trans q7
         replace q8 := (HB.out.cell (World.block_lt_of_cell? w _ q8)).trans q8
         replace q9 := (HB.out.cell (World.block_lt_of_cell? w _ q9)).trans q9
         replace j0 := (HB.out.cell (World.block_lt_of_cell? w _ j0)).trans j0
         replace p187 := eq_true p187
         replace q187 := eq_true q187
         go_wp2_with (first | ((with_reducible refine gate_dst (N := 9) rfl ?_); refine bx 9 #[.int .i64 0, .int .i64 0, .int .i64 0, .int .i64 0, .string (⟨#[]⟩ : ByteArray)] 64 ?_; intro q4 hg w55 hbox hb; have q1 := Qaa.mk (hbox); have y6 := Qaa.mk ((by rw [hg]; exact (below_size (bl HB)) : w.heap.size ≤ q4)); have y7 := Qaa.mk ((by rw [hg]; exact (below_size (bl HB)) : w.heap.size ≤ q4)); have j4 := Qaa.mk ((by rw [hg]; exact Nat.ne_of_lt (blk_lt (Ub q2)) : j2 ≠ q4)); have j5 := Qaa.mk ((by rw [hg]; exact Nat.ne_of_gt (blk_lt (Ub q2)) : q4 ≠ j2)); replace q3 := Rb q3 hb; replace q2 := Bb q2 hb; replace HB := bs HB hb; clear hb hbox hg; have Jz := j5.out; have Y0 := j4.out; obtain ⟨Jb, Jc, Jd, Je, Jf, Jg, Jh, Ji, Jj, Jk⟩ := cf5 q1) | ((with_reducible refine gate_callee (f := 59) rfl ?_); refine gL (some 32) Try.func59 #[.slice A0 l0.length c0, .agg #[.int .i64 ((rd_T64 q0 x26_1).f0), .int .i64 ((rd_T64 q0 x26_1).f1), .int .i64 ((rd_T64 q0 x26_1).f2.f0), .int .i64 ((rd_T64 q0 x26_1).f2.f1), .string ((rd_T64 q0 x26_1).f2.f2)]] ?_; (with_reducible refine (Qai.calls k1 _ _ l0 ((rd_T64 q0 x26_1).f0) ((rd_T64 q0 x26_1).f1) ((rd_T64 q0 x26_1).f2.f0) ((rd_T64 q0 x26_1).f2.f1) ((rd_T64 q0 x26_1).f2.f2) j8 _ ?side1 ?side2 A15.out).mono ?_); (case side1 => exact Kd.C_below z4.out (bl HB)); (case side2 => exact z5.out); rintro e w58 ⟨rfl, hb⟩; refine ⟨_, rfl, ?_⟩; replace q3 := Qaa.mk (Kd.R_below (Rf q3 q1) hb); replace q2 := Bb q2 hb; replace q1 := Qaa.mk (blk_below (g := q4) (o := .cells #[.int .i64 ((rd_T64 q0 x26_1).f0), .int .i64 ((rd_T64 q0 x26_1).f1), .int .i64 ((rd_T64 q0 x26_1).f2.f0), .int .i64 ((rd_T64 q0 x26_1).f2.f1), .string ((rd_T64 q0 x26_1).f2.f2)] 64 (0, 0)) (by apply blk_u; refine blk_put (cs := #[.int .i64 ((rd_T64 q0 x26_1).f0), .int .i64 ((rd_T64 q0 x26_1).f1), .int .i64 ((rd_T64 q0 x26_1).f2.f0), .int .i64 ((rd_T64 q0 x26_1).f2.f1), .string (⟨#[]⟩ : ByteArray)]) ?_ 4 _ rfl; apply blk_u; refine blk_put (cs := #[.int .i64 ((rd_T64 q0 x26_1).f0), .int .i64 ((rd_T64 q0 x26_1).f1), .int .i64 ((rd_T64 q0 x26_1).f2.f0), .int .i64 0, .string (⟨#[]⟩ : ByteArray)]) ?_ 3 _ rfl; apply blk_u; refine blk_put (cs := #[.int .i64 ((rd_T64 q0 x26_1).f0), .int .i64 ((rd_T64 q0 x26_1).f1), .int .i64 0, .int .i64 0, .string (⟨#[]⟩ : ByteArray)]) ?_ 2 _ rfl; apply blk_u; refine blk_put (cs := #[.int .i64 ((rd_T64 q0 x26_1).f0), .int .i64 0, .int .i64 0, .int .i64 0, .string (⟨#[]⟩ : ByteArray)]) ?_ 1 _ rfl; apply blk_u; refine blk_put (cs := #[.int .i64 0, .int .i64 0, .int .i64 0, .int .i64 0, .string (⟨#[]⟩ : ByteArray)]) ?_ 0 _ rfl; apply blk_u; exact q1.out) hb); replace HB := bs HB hb; (try clear hb)))
         go_ret2
         exact ⟨by first | rfl | (simp [errW_none, errW_some] <;> rfl) | (simp [*, errW_none, errW_some] <;> rfl), bl HB⟩
       ·
        rw [if_neg c14] at H
        exact absurd H (by simp)
      ·
       rw [if_neg c13] at H
       exact absurd H (by simp)
     ·
      rw [if_neg c12] at H
      have Qh : decide (x26_1 < (q0.length : Int)) = false := decide_eq_false c12
      clear c12
      by_cases c59 : (x7_1.length : Int) = 1
      ·
       rw [if_pos c59] at H
       have Ql : ((x7_1.length : Int) == 1) = true := beq_iff_eq.mpr c59
       have Qm : ((x7_1.length : Int) != 1) = false := bne_eq_false_iff_eq.mpr c59
       clear c59
       by_cases c60 : 0 < (x7_1.length : Int)
       ·
        rw [if_pos c60] at H
        have Y1 : decide (0 < (x7_1.length : Int)) = true := decide_eq_true c60
        have Y2 : decide (0 < x7_1.length) = true := decide_eq_true (by omega)
        clear c60
        simp only [Option.some.injEq, Prod.mk.injEq] at H
        obtain ⟨rfl, rfl⟩ := H
        obtain ⟨Y6, Y7, eo61⟩ := Kd.R_slice q3.out
        subst eo61
        have p203 : 0 ≤ (0 : Int) := (by omega)
        have q203 : 0 < (x7_1.length : Int) := of_decide_eq_true (by first | (with_reducible assumption) | assumption)
        obtain ⟨ad203, e203, y5⟩ := Kd.at_int (Kd.R_reads' q3.out).2.2 0 p203 q203
        cases e203
        have qi203 : (0 < x7_1.length) = True := eq_true (by omega)
        (try rw [show ((0 : Int)).toNat = 0 from rfl] at y5)
        (try rw [Addr.add_zero'] at y5)
        replace p203 := eq_true p203
        replace q203 := eq_true q203
        go_wp2
        go_ret2
        exact ⟨by first | rfl | (simp [errW_none, errW_some] <;> rfl) | (simp [*, errW_none, errW_some] <;> rfl), bl HB⟩
       ·
        rw [if_neg c60] at H
        exact absurd H (by simp)
      ·
       rw [if_neg c59] at H
       have Ql : ((x7_1.length : Int) == 1) = false := beq_eq_false_iff_ne.mpr c59
       have Qm : ((x7_1.length : Int) != 1) = true := bne_iff_ne.mpr c59
       simp only [Option.some.injEq, Prod.mk.injEq] at H
       obtain ⟨rfl, rfl⟩ := H
       obtain ⟨Y8, Y9, eo62⟩ := Kd.R_slice q3.out
       subst eo62
       go_wp2
       go_ret2
       exact ⟨by first | rfl | (simp [errW_none, errW_some] <;> rfl) | (simp [*, errW_none, errW_some] <;> rfl), bl HB⟩
 ·
  rw [if_neg c4] at H
  have Q7 : (j7 == 0) = false := beq_eq_false_iff_ne.mpr c4
  have Q8 : (j7 != 0) = true := bne_iff_ne.mpr c4
  simp only [Option.some.injEq, Prod.mk.injEq] at H
  obtain ⟨rfl, rfl⟩ := H
  go_enter Try.func42, Try.ntmps42
  go_wp2_with (first | ((with_reducible refine gate_dst (N := 3) rfl ?_); refine bx 3 #[.slice z0 q0.length z1] 34 ?_; intro j2 hg w63 hbox hb; have q2 := Qaa.mk (hbox); have Q2 := Qaa.mk ((by rw [hg]; exact (below_size (bl HB)) : w.heap.size ≤ j2)); have Q3 := Qaa.mk ((by rw [hg]; exact (below_size (bl HB)) : w.heap.size ≤ j2)); replace HB := bs HB hb; clear hb hbox hg) | ((with_reducible refine gate_callee (f := 58) rfl ?_); refine gL (some 15) Try.func58 #[.slice A0 l0.length c0] ?_; (with_reducible refine (Qad.calls k _ _ l0 j7 _ ?side1 ?side2 A3.out).mono ?_); (case side1 => exact Cb z4 HB); (case side2 => exact z5.out); rintro e w64 ⟨rfl, hb⟩; refine ⟨_, rfl, ?_⟩; replace q2 := Bb q2 hb; replace HB := bs HB hb; (try clear hb)))
  go_ret2
  exact ⟨by first | rfl | (simp [errW_none, errW_some] <;> rfl) | (simp [*, errW_none, errW_some] <;> rfl), bl HB⟩
end Go.Proofs.Ytphnmaobpefoiaa.XW
end
section
namespace Go.Proofs.Ytphnmaobpefoiaa.XW
open Go.RowKit Go.Proofs.YtphnmaobpefoiaaXW Go.Proofs.YtphnmaobpefoiaaW.PrintWords Go.Proofs.YtphnmaobpefoiaaW.PrintLast Go.Proofs.YtphnmaobpefoiaaW.PrintMore
attribute [local go_sem] max2_int min2_int max_two min_two max_three min_three max_four min_four sleq
set_option linter.unusedVariables false
set_option linter.unusedSimpArgs false
def Qap.l0 : Nat → List (S86) → List Int → List (S34) → Int → Int → Option (List Int × Int)
 | 0, _, _, _, _, _ => none
 | k + 1, x0, x9, x26, x27, x28 => if x28 < x27 then (if 0 ≤ x28 then (if x28 < (x26.length : Int) then ((Qaj.f k x0 ((rd_T34 x26 x28).f0)).bind fun z9 => (if z9.2 = 0 then (if x9.length < 17592186044416 then (Qap.l0 k x0 (x9 ++ [z9.1]) x26 x27 (wrap64 (x28 + 1))) else (none)) else (some (([] : List Int), z9.2)))) else (none)) else (none)) else (some (x9, 0))
def Qap.f (k : Nat) (l0 : List (S86)) (q4 : Int) (q1 : List (S39)) (q5 : Bool) (q2 : List Int) (l2 : List (S34)) : Option (List Int × Int) := (Qas.f k l0 q4 q1 q5 q2).bind fun q7 => (if q7 = 0 then (if (l2.length : Int) = 0 then (some (([] : List Int), 6)) else (if (l2.length : Int) > 20 then (some (([] : List Int), 2)) else (Qap.l0 k l0 ([] : List Int) l2 (l2.length : Int) 0))) else (some (([] : List Int), q7)))
set_option maxHeartbeats 8000000 in
set_option maxRecDepth 100000 in
theorem Qap.calls (k : Nat) (A0 : Option Addr) (c0 : Nat) (l0 : List (S86)) (q4 : Int) (j1 : Option Addr) (j2 : Nat) (q1 : List (S39)) (q5 : Bool) (j3 : Option Addr) (j4 : Nat) (q2 : List Int) (A2 : Option Addr) (c2 : Nat) (l2 : List (S34)) (r1 : List Int) (r2 : Int) (w : World) (hr0 : Kd.C k86 w A0 l0.length l0) (hc0 : l0.length ≤ c0) (y7 : Kd.C k39 w j1 q1.length q1) (y8 : q1.length ≤ j2) (y9 : Kd.C (Kd.int .i64) w j3 q2.length q2) (Q0 : q2.length ≤ j4) (hr2 : Kd.C k34 w A2 l2.length l2) (hc2 : l2.length ≤ c2) (h : Qap.f k l0 q4 q1 q5 q2 l2 = some (r1, r2)) :
  Calls Try.prog 17 #[.slice A0 l0.length c0, .agg #[.int .i64 q4, .slice j1 q1.length j2, .bool q5, .slice j3 q2.length j4], .slice A2 l2.length c2] w fun e w' => ∃ v0_ : Value, e = .returned (.tuple #[v0_, .int .i64 r2]) ∧ Kd.R (Kd.int .i64) 3 w' w.heap.size (fun _ => True) v0_ r1 ∧ Below w.heap.size w w' := by
 have hu26 := Try.underlying26
 have hu34 := Try.underlying34
 have z7 := Qaa.mk hr0
 have z8 := Qaa.mk hc0
 clear hr0 hc0
 have z3 := Qaa.mk y7
 have z4 := Qaa.mk y8
 clear y7 y8
 have z5 := Qaa.mk y9
 have z6 := Qaa.mk Q0
 clear y9 Q0
 have Z2 := Qaa.mk hr2
 have Zn := Qaa.mk hc2
 clear hr2 hc2
 have HB := Qaa.mk (Below.refl w.heap.size w)
 have H : ((Qas.f k l0 q4 q1 q5 q2).bind fun q7 => (if q7 = 0 then (if (l2.length : Int) = 0 then (some (([] : List Int), 6)) else (if (l2.length : Int) > 20 then (some (([] : List Int), 2)) else (Qap.l0 k l0 ([] : List Int) l2 (l2.length : Int) 0))) else (some (([] : List Int), q7)))) = some (r1, r2) := h
 clear h
 replace H := Option.bind_eq_some_iff.mp H
 obtain ⟨q7, A40, H⟩ := H
 replace H : (if q7 = 0 then (if (l2.length : Int) = 0 then (some (([] : List Int), 6)) else (if (l2.length : Int) > 20 then (some (([] : List Int), 2)) else (Qap.l0 k l0 ([] : List Int) l2 (l2.length : Int) 0))) else (some (([] : List Int), q7))) = some (r1, r2) := H
 have A4 := Qaa.mk A40
 clear A40
 by_cases c5 : q7 = 0
 ·
  rw [if_pos c5] at H
  have Qj : (q7 == 0) = true := beq_iff_eq.mpr c5
  have Qk : (q7 != 0) = false := bne_eq_false_iff_eq.mpr c5
  clear c5
  by_cases c6 : (l2.length : Int) = 0
  ·
   rw [if_pos c6] at H
   have Ql : ((l2.length : Int) == 0) = true := beq_iff_eq.mpr c6
   have Qm : ((l2.length : Int) != 0) = false := bne_eq_false_iff_eq.mpr c6
   clear c6
   simp only [Option.some.injEq, Prod.mk.injEq] at H
   obtain ⟨rfl, rfl⟩ := H
   go_enter Try.func17, Try.ntmps17
   go_wp2_with (first | ((with_reducible refine gate_dst (N := 4) rfl ?_); refine bx 4 #[.int .i64 q4, .slice j1 q1.length j2, .bool q5, .slice j3 q2.length j4] 26 ?_; intro q3 hg w7 hbox hb; have q0 := Qaa.mk (hbox); have y5 := Qaa.mk ((by rw [hg]; exact (below_size (bl HB)) : w.heap.size ≤ q3)); have y6 := Qaa.mk ((by rw [hg]; exact (below_size (bl HB)) : w.heap.size ≤ q3)); replace HB := bs HB hb; clear hb hbox hg; obtain ⟨Qn, Qo, Qp, Qq, Qr, Qs, Qt, Qu⟩ := cf4 q0) | ((with_reducible refine gate_callee (f := 37) rfl ?_); refine gL (some 16) Try.func37 #[.slice A0 l0.length c0, .agg #[.int .i64 q4, .slice j1 q1.length j2, .bool q5, .slice j3 q2.length j4]] ?_; (with_reducible refine (Qas.calls k _ _ l0 q4 _ _ q1 q5 _ _ q2 q7 _ ?side1 ?side2 ?side3 ?side4 ?side5 ?side6 A4.out).mono ?_); (case side1 => exact Cb z7 HB); (case side2 => exact z8.out); (case side3 => exact Cb z3 HB); (case side4 => exact z4.out); (case side5 => exact Cb z5 HB); (case side6 => exact z6.out); rintro e w9 ⟨rfl, hb⟩; refine ⟨_, rfl, ?_⟩; replace q0 := Bb q0 hb; replace HB := bs HB hb; (try clear hb)))
   go_ret2
   exact ⟨_, by first | rfl | (simp [errW_none, errW_some] <;> rfl) | (simp [*, errW_none, errW_some] <;> rfl), by first | exact Kd.R_nil _ _ _ _ _ | exact Kd.N_nil _ _ _ _ _ | exact Kd.V_nil _ _ _ _ _ | exact Kd.Q_nil _ _ _ _ _ | exact Kd.S_nil _ _ _ _ _, bl HB⟩
  ·
   rw [if_neg c6] at H
   have Ql : ((l2.length : Int) == 0) = false := beq_eq_false_iff_ne.mpr c6
   have Qm : ((l2.length : Int) != 0) = true := bne_iff_ne.mpr c6
   have Z3 : ¬ (l2 = []) := fun h_ => c6 (by rw [h_]; rfl)
   by_cases c10 : (l2.length : Int) > 20
   ·
    rw [if_pos c10] at H
    have Q1 : decide (20 < (l2.length : Int)) = true := decide_eq_true c10
    have Q2 : decide (20 < l2.length) = true := decide_eq_true (by omega)
    clear c10
    simp only [Option.some.injEq, Prod.mk.injEq] at H
    obtain ⟨rfl, rfl⟩ := H
    go_enter Try.func17, Try.ntmps17
    go_wp2_with (first | ((with_reducible refine gate_dst (N := 4) rfl ?_); refine bx 4 #[.int .i64 q4, .slice j1 q1.length j2, .bool q5, .slice j3 q2.length j4] 26 ?_; intro q3 hg w11 hbox hb; have q0 := Qaa.mk (hbox); have y5 := Qaa.mk ((by rw [hg]; exact (below_size (bl HB)) : w.heap.size ≤ q3)); have y6 := Qaa.mk ((by rw [hg]; exact (below_size (bl HB)) : w.heap.size ≤ q3)); replace HB := bs HB hb; clear hb hbox hg; obtain ⟨Q3, Q4, Q5, Q6, Q7, Q8, Q9, Qa⟩ := cf4 q0) | ((with_reducible refine gate_callee (f := 37) rfl ?_); refine gL (some 16) Try.func37 #[.slice A0 l0.length c0, .agg #[.int .i64 q4, .slice j1 q1.length j2, .bool q5, .slice j3 q2.length j4]] ?_; (with_reducible refine (Qas.calls k _ _ l0 q4 _ _ q1 q5 _ _ q2 q7 _ ?side1 ?side2 ?side3 ?side4 ?side5 ?side6 A4.out).mono ?_); (case side1 => exact Cb z7 HB); (case side2 => exact z8.out); (case side3 => exact Cb z3 HB); (case side4 => exact z4.out); (case side5 => exact Cb z5 HB); (case side6 => exact z6.out); rintro e w13 ⟨rfl, hb⟩; refine ⟨_, rfl, ?_⟩; replace q0 := Bb q0 hb; replace HB := bs HB hb; (try clear hb)))
    go_ret2
    exact ⟨_, by first | rfl | (simp [errW_none, errW_some] <;> rfl) | (simp [*, errW_none, errW_some] <;> rfl), by first | exact Kd.R_nil _ _ _ _ _ | exact Kd.N_nil _ _ _ _ _ | exact Kd.V_nil _ _ _ _ _ | exact Kd.Q_nil _ _ _ _ _ | exact Kd.S_nil _ _ _ _ _, bl HB⟩
   ·
    rw [if_neg c10] at H
    have Q1 : decide (20 < (l2.length : Int)) = false := decide_eq_false c10
    have Q2 : decide (20 < l2.length) = false := decide_eq_false (by omega)
    clear c10
    have H' := Qaa.mk H
    clear H
    go_enter Try.func17, Try.ntmps17
    go_wp2_with (first | ((with_reducible refine gate_dst (N := 4) rfl ?_); refine bx 4 #[.int .i64 q4, .slice j1 q1.length j2, .bool q5, .slice j3 q2.length j4] 26 ?_; intro q3 hg w14 hbox hb; have q0 := Qaa.mk (hbox); have y5 := Qaa.mk ((by rw [hg]; exact (below_size (bl HB)) : w.heap.size ≤ q3)); have y6 := Qaa.mk ((by rw [hg]; exact (below_size (bl HB)) : w.heap.size ≤ q3)); replace HB := bs HB hb; clear hb hbox hg; obtain ⟨Qb, Qc, Qd, Qe, Qf, Qg, Qh, Qi⟩ := cf4 q0) | ((with_reducible refine gate_callee (f := 37) rfl ?_); refine gL (some 16) Try.func37 #[.slice A0 l0.length c0, .agg #[.int .i64 q4, .slice j1 q1.length j2, .bool q5, .slice j3 q2.length j4]] ?_; (with_reducible refine (Qas.calls k _ _ l0 q4 _ _ q1 q5 _ _ q2 q7 _ ?side1 ?side2 ?side3 ?side4 ?side5 ?side6 A4.out).mono ?_); (case side1 => exact Cb z7 HB); (case side2 => exact z8.out); (case side3 => exact Cb z3 HB); (case side4 => exact z4.out); (case side5 => exact Cb z5 HB); (case side6 => exact z6.out); rintro e w16 ⟨rfl, hb⟩; refine ⟨_, rfl, ?_⟩; replace q0 := Bb q0 hb; replace HB := bs HB hb; (try clear hb)))
    go_loopg [9, 28] k (fun kq v9 v28 w' => ∃ (x9_1 : List Int) (x28_1 : Int), v28 = .int .i64 x28_1 ∧ Qaa (Qap.l0 kq l0 x9_1 l2 (l2.length : Int) x28_1 = some (r1, r2)) ∧ Qaa (kq ≤ k) ∧ Qaa (Kd.R (Kd.int .i64) 3 w' w.heap.size (fun _ => True) v9 x9_1) ∧ Qaa (w'.heap[q3]? = some (.cells #[.int .i64 q4, (.slice j1 q1.length j2), .bool q5, (.slice j3 q2.length j4)] 26 (0, 0))) ∧ Qaa (Below w.heap.size w w'))
    case atStart => exact ⟨(([] : List Int)), (0), (by first | rfl | (simp; done) | (simp [*]; done)), H', ⟨Nat.le_refl _⟩, ⟨by first | exact Kd.R_nil _ _ _ _ _ | exact Kd.N_nil _ _ _ _ _ | exact Kd.V_nil _ _ _ _ _ | exact Kd.Q_nil _ _ _ _ _ | exact Kd.S_nil _ _ _ _ _⟩, ⟨by apply blk_u; exact q0.out⟩, ⟨bl HB⟩⟩
    case round =>
     clear H'
     try clear c1
     try clear c2
     try clear p2
     try clear c3
     try clear c5
     try clear Qj
     try clear Qk
     try clear c6
     try clear Ql
     try clear Qm
     try clear Z3
     try clear c10
     try clear Q1
     try clear Q2
     try clear Q3
     try clear Q4
     try clear Q5
     try clear Q6
     try clear Qb
     try clear Qc
     try clear Qd
     try clear Qe
     try clear Qn
     try clear Qo
     try clear Qp
     try clear Qq
     try clear Q7
     try clear Q8
     try clear Q9
     try clear Qa
     try clear Qf
     try clear Qg
     try clear Qh
     try clear Qi
     try clear Qr
     try clear Qs
     try clear Qt
     try clear Qu
     obtain ⟨x9_1, x28_1, rfl, HA, HK1, q9, q0, HB⟩ := hrel
     cases gk with
     | zero => exact absurd HA.out (by simp [Qap.l0])
     | succ k1 =>
      have H := HA.out
      clear HA
      simp only [Qap.l0] at H
      by_cases c17 : x28_1 < (l2.length : Int)
      ·
       rw [if_pos c17] at H
       have Qw : decide (x28_1 < (l2.length : Int)) = true := decide_eq_true c17
       clear c17
       by_cases c18 : 0 ≤ x28_1
       ·
        rw [if_pos c18] at H
        have Zg : decide (0 ≤ x28_1) = true := decide_eq_true c18
        clear c18
        by_cases c19 : x28_1 < (l2.length : Int)
        ·
         rw [if_pos c19] at H
         have Zh : decide (x28_1 < (l2.length : Int)) = true := decide_eq_true c19
         clear c19
         replace H := Option.bind_eq_some_iff.mp H
         obtain ⟨⟨z0, j5⟩, Qv, H⟩ := H
         replace H : (if j5 = 0 then (if x9_1.length < 17592186044416 then (Qap.l0 k1 l0 (x9_1 ++ [z0]) l2 (l2.length : Int) (wrap64 (x28_1 + 1))) else (none)) else (some (([] : List Int), j5))) = some (r1, r2) := H
         have A20 := Qaa.mk Qv
         clear Qv
         by_cases c21 : j5 = 0
         ·
          rw [if_pos c21] at H
          have Qx : (j5 == 0) = true := beq_iff_eq.mpr c21
          have Qy : (j5 != 0) = false := bne_eq_false_iff_eq.mpr c21
          clear c21
          by_cases c22 : x9_1.length < 17592186044416
          ·
           rw [if_pos c22] at H
           have LMc22 := Qaa.mk c22
           clear c22
           obtain ⟨y210, hy210⟩ : ∃ y_ : List Int, y_ = (x9_1 ++ [z0]) := ⟨_, rfl⟩
           replace H : (Qap.l0 k1 l0 y210 l2 (l2.length : Int) (wrap64 (x28_1 + 1))) = some (r1, r2) := by first | (rw [hy210]; with_reducible exact H) | (have H2_ := (Option.bind_some _ _).symm.trans H; rw [hy210]; with_reducible exact H2_) | (have H2_ := (Option.bind_some _ _).symm.trans H; with_reducible exact H2_) | with_reducible exact H | (rw [hy210]; exact H) | exact H
           have Ny210 := Qaa.mk hy210
           clear hy210
           have H' := Qaa.mk H
           clear H
           have p206 : 0 ≤ (x28_1 : Int) := of_decide_eq_true (by first | (with_reducible assumption) | assumption)
           have q206 : x28_1 < (l2.length : Int) := of_decide_eq_true (by first | (with_reducible assumption) | assumption)
           obtain ⟨ad206, j6, j7, e206, j0, hl206_0, hi206_0⟩ := at_T34 Z2.out x28_1 p206 q206
           cases e206
           replace j0 := (HB.out.cell (World.block_lt_of_cell? w _ j0)).trans j0
           have z1 := Qaa.mk hi206_0
           have z2 := Qaa.mk hl206_0
           clear hi206_0 hl206_0
           replace p206 := eq_true p206
           replace q206 := eq_true q206
           go_wp2_with (first | ((with_reducible refine gate_dst (N := 11) rfl ?_); refine bx 11 #[.slice none 0 0] 34 ?_; intro q8 hg w23 hbox hb; have q6 := Qaa.mk (hbox); have Qz := Qaa.mk ((by rw [hg]; exact (below_size (bl HB)) : w.heap.size ≤ q8)); have Z0 := Qaa.mk ((by rw [hg]; exact (below_size (bl HB)) : w.heap.size ≤ q8)); have j8 := Qaa.mk ((by rw [hg]; exact Nat.ne_of_lt (blk_lt (Ub q0)) : q3 ≠ q8)); have j9 := Qaa.mk ((by rw [hg]; exact Nat.ne_of_gt (blk_lt (Ub q0)) : q8 ≠ q3)); replace q9 := Rb q9 hb; replace q0 := Bb q0 hb; replace HB := bs HB hb; clear hb hbox hg; have Zi := j9.out; have Zj := j8.out; have Z4 : w23.cell? ⟨q8, 0, none⟩ = some (.slice none 0 0) := (blk_cell q6.out 0).trans rfl; have Z5 := blk_frozen q6.out 0) | ((with_reducible refine gate_callee (f := 42) rfl ?_); refine gL (some 35) Try.func42 #[.slice A0 l0.length c0, .agg #[.slice j6 ((rd_T34 l2 x28_1).f0).length j7]] ?_; (with_reducible refine (Qaj.calls k1 _ _ l0 _ _ ((rd_T34 l2 x28_1).f0) z0 j5 _ ?side1 ?side2 ?side3 ?side4 A20.out).mono ?_); (case side1 => exact Kd.C_below z7.out (bl HB)); (case side2 => exact z8.out); (case side3 => exact Kd.C_below z1.out (bl HB)); (case side4 => exact z2.out); rintro e w26 ⟨rfl, hb⟩; refine ⟨_, rfl, ?_⟩; replace q9 := Qaa.mk (Kd.R_below (Rf q9 q6) hb); replace q0 := Bb q0 hb; replace q6 := Qaa.mk (blk_below (g := q8) (o := .cells #[.slice j6 ((rd_T34 l2 x28_1).f0).length j7] 34 (0, 0)) (by apply blk_u; refine blk_put (cs := #[.slice none 0 0]) ?_ 0 _ rfl; apply blk_u; exact q6.out) hb); replace HB := bs HB hb; (try clear hb)) | ((with_reducible refine gate_builtin (b := .append) (xs := #[.tmp 41, .tmp 43]) rfl ?_); at_builtin; refine Kd.R_append (Kd.int .i64) (w0 := w) w.heap.size rfl (.tmp 41) (.tmp 43) 24 3 (.int .i64 0) 8 rfl Try.underlying24 info3 rfl (by decide) (by omega) u9 x9_1 z0 [.int .i64 z0] (fun _ => True) (fun _ => False) rfl rfl ?aP (fun _ hk => hk.elim) ?aF ?aO ?aB ?aS ?aL ?_; (case aP => exact rfl); (case aB => exact (bl HB)); (case aF => exact (fun _ _ => trivial)); (case aO => exact (R_u q9.out)); (case aS => exact (below_size (bl HB))); (case aL => have := LMc22.out; omega); intro Zm w27 ho hb hg hat; rw [← Ny210.out] at ho; have Z1 := Qaa.mk (ho); replace q0 := Qaa.mk (blk_grown (Ub q0) hg (Kd.R_ne q9.out q0.out (by decide))); replace q6 := Qaa.mk (blk_grown (Ub q6) hg (Kd.R_ne q9.out q6.out (by decide))); replace HB := Qaa.mk (hb); clear q9; clear ho hb hg hat))
           go_roundg k1
           case measure => have := HK1.out; omega
           case rel => exact ⟨(y210), (wrap64 (x28_1 + 1)), (by first | rfl | (simp; done) | (simp [*]; done)), H', ⟨by have := HK1.out; omega⟩, ⟨by apply R_u; exact Z1.out⟩, ⟨by apply blk_u; exact q0.out⟩, ⟨bl HB⟩⟩
          ·
           rw [if_neg c22] at H
           exact absurd H (by simp)
         ·
          rw [if_neg c21] at H
          have Qx : (j5 == 0) = false := beq_eq_false_iff_ne.mpr c21
          have Qy : (j5 != 0) = true := bne_iff_ne.mpr c21
          simp only [Option.some.injEq, Prod.mk.injEq] at H
          obtain ⟨rfl, rfl⟩ := H
          have p206 : 0 ≤ (x28_1 : Int) := of_decide_eq_true (by first | (with_reducible assumption) | assumption)
          have q206 : x28_1 < (l2.length : Int) := of_decide_eq_true (by first | (with_reducible assumption) | assumption)
          obtain ⟨ad206, j6, j7, e206, j0, hl206_0, hi206_0⟩ := at_T34 Z2.out x28_1 p206 q206
          cases e206
          replace j0 := (HB.out.cell (World.block_lt_of_cell? w _ j0)).trans j0
          have z1 := Qaa.mk hi206_0
          have z2 := Qaa.mk hl206_0
          clear hi206_0 hl206_0
          replace p206 := eq_true p206
          replace q206 := eq_true q206
          go_wp2_with (first | ((with_reducible refine gate_dst (N := 11) rfl ?_); refine bx 11 #[.slice none 0 0] 34 ?_; intro q8 hg w28 hbox hb; have q6 := Qaa.mk (hbox); have Qz := Qaa.mk ((by rw [hg]; exact (below_size (bl HB)) : w.heap.size ≤ q8)); have Z0 := Qaa.mk ((by rw [hg]; exact (below_size (bl HB)) : w.heap.size ≤ q8)); have j8 := Qaa.mk ((by rw [hg]; exact Nat.ne_of_lt (blk_lt (Ub q0)) : q3 ≠ q8)); have j9 := Qaa.mk ((by rw [hg]; exact Nat.ne_of_gt (blk_lt (Ub q0)) : q8 ≠ q3)); replace q9 := Rb q9 hb; replace q0 := Bb q0 hb; replace HB := bs HB hb; clear hb hbox hg; have Zk := j9.out; have Zl := j8.out; have Z6 : w28.cell? ⟨q8, 0, none⟩ = some (.slice none 0 0) := (blk_cell q6.out 0).trans rfl; have Z7 := blk_frozen q6.out 0) | ((with_reducible refine gate_callee (f := 42) rfl ?_); refine gL (some 35) Try.func42 #[.slice A0 l0.length c0, .agg #[.slice j6 ((rd_T34 l2 x28_1).f0).length j7]] ?_; (with_reducible refine (Qaj.calls k1 _ _ l0 _ _ ((rd_T34 l2 x28_1).f0) z0 j5 _ ?side1 ?side2 ?side3 ?side4 A20.out).mono ?_); (case side1 => exact Kd.C_below z7.out (bl HB)); (case side2 => exact z8.out); (case side3 => exact Kd.C_below z1.out (bl HB)); (case side4 => exact z2.out); rintro e w31 ⟨rfl, hb⟩; refine ⟨_, rfl, ?_⟩; replace q9 := Qaa.mk (Kd.R_below (Rf q9 q6) hb); replace q0 := Bb q0 hb; replace q6 := Qaa.mk (blk_below (g := q8) (o := .cells #[.slice j6 ((rd_T34 l2 x28_1).f0).length j7] 34 (0, 0)) (by apply blk_u; refine blk_put (cs := #[.slice none 0 0]) ?_ 0 _ rfl; apply blk_u; exact q6.out) hb); replace HB := bs HB hb; (try clear hb)))
          go_ret2
          exact ⟨_, by first | rfl | (simp [errW_none, errW_some] <;> rfl) | (simp [*, errW_none, errW_some] <;> rfl), by first | exact Kd.R_nil _ _ _ _ _ | exact Kd.N_nil _ _ _ _ _ | exact Kd.V_nil _ _ _ _ _ | exact Kd.Q_nil _ _ _ _ _ | exact Kd.S_nil _ _ _ _ _, bl HB⟩
        ·
         rw [if_neg c19] at H
         exact absurd H (by simp)
       ·
        rw [if_neg c18] at H
        exact absurd H (by simp)
      ·
       rw [if_neg c17] at H
       have Qw : decide (x28_1 < (l2.length : Int)) = false := decide_eq_false c17
       clear c17
       simp only [Option.some.injEq, Prod.mk.injEq] at H
       obtain ⟨rfl, rfl⟩ := H
       go_wp2
       go_ret2
       exact ⟨_, by first | rfl | (simp [errW_none, errW_some] <;> rfl) | (simp [*, errW_none, errW_some] <;> rfl), by apply R_u; exact q9.out, bl HB⟩
 ·
  rw [if_neg c5] at H
  have Qj : (q7 == 0) = false := beq_eq_false_iff_ne.mpr c5
  have Qk : (q7 != 0) = true := bne_iff_ne.mpr c5
  simp only [Option.some.injEq, Prod.mk.injEq] at H
  obtain ⟨rfl, rfl⟩ := H
  go_enter Try.func17, Try.ntmps17
  go_wp2_with (first | ((with_reducible refine gate_dst (N := 4) rfl ?_); refine bx 4 #[.int .i64 q4, .slice j1 q1.length j2, .bool q5, .slice j3 q2.length j4] 26 ?_; intro q3 hg w32 hbox hb; have q0 := Qaa.mk (hbox); have y5 := Qaa.mk ((by rw [hg]; exact (below_size (bl HB)) : w.heap.size ≤ q3)); have y6 := Qaa.mk ((by rw [hg]; exact (below_size (bl HB)) : w.heap.size ≤ q3)); replace HB := bs HB hb; clear hb hbox hg; obtain ⟨Z8, Z9, Za, Zb, Zc, Zd, Ze, Zf⟩ := cf4 q0) | ((with_reducible refine gate_callee (f := 37) rfl ?_); refine gL (some 16) Try.func37 #[.slice A0 l0.length c0, .agg #[.int .i64 q4, .slice j1 q1.length j2, .bool q5, .slice j3 q2.length j4]] ?_; (with_reducible refine (Qas.calls k _ _ l0 q4 _ _ q1 q5 _ _ q2 q7 _ ?side1 ?side2 ?side3 ?side4 ?side5 ?side6 A4.out).mono ?_); (case side1 => exact Cb z7 HB); (case side2 => exact z8.out); (case side3 => exact Cb z3 HB); (case side4 => exact z4.out); (case side5 => exact Cb z5 HB); (case side6 => exact z6.out); rintro e w34 ⟨rfl, hb⟩; refine ⟨_, rfl, ?_⟩; replace q0 := Bb q0 hb; replace HB := bs HB hb; (try clear hb)))
  go_ret2
  exact ⟨_, by first | rfl | (simp [errW_none, errW_some] <;> rfl) | (simp [*, errW_none, errW_some] <;> rfl), by first | exact Kd.R_nil _ _ _ _ _ | exact Kd.N_nil _ _ _ _ _ | exact Kd.V_nil _ _ _ _ _ | exact Kd.Q_nil _ _ _ _ _ | exact Kd.S_nil _ _ _ _ _, bl HB⟩
end Go.Proofs.Ytphnmaobpefoiaa.XW
end
section
namespace Go.Proofs.Ytphnmaobpefoiaa.XW
open Go.RowKit Go.Proofs.YtphnmaobpefoiaaXW Go.Proofs.YtphnmaobpefoiaaW.PrintWords Go.Proofs.YtphnmaobpefoiaaW.PrintLast Go.Proofs.YtphnmaobpefoiaaW.PrintMore
theorem w_in (x : Int) (h0 : -4611686018427387904 ≤ x) (h1 : x ≤ 4611686018427387904) : wrap64 x = x := by unfold wrap64; omega
theorem rdOf_nat {α : Type} (d : α) (l : List α) (i : Nat) (h : i < l.length) : rdOf d l (i : Int) = l[i] := by
  simp [rdOf, List.getD_eq_getElem?_getD, h]
theorem rd_nat (l : List Int) (i : Nat) (h : i < l.length) : rd l (i : Int) = l[i] := by
  simp [rd, List.getD_eq_getElem?_getD, h]
theorem toList_ba (s : ByteArray) : s.toList = s.data.toList := Lib.toList_data s
theorem str_eq (s t : ByteArray) : s.toList = t.toList ↔ s = t := by
  rw [toList_ba, toList_ba]
  constructor
  · intro h
    cases s; cases t
    simp at h
    simp [h]
  · intro h; rw [h]
theorem str_nil (s : ByteArray) : s.toList = ([] : List UInt8) ↔ s = ⟨#[]⟩ := by
  have h := str_eq s ⟨#[]⟩
  rw [← h, toList_ba ⟨#[]⟩]
def okText (s : ByteArray) : Prop := s.size ≤ 200 ∧ ∀ i : Nat, i < s.size → 32 ≤ bt s i ∧ bt s i ≤ 126
def okNum (a n : Int) : Prop := (a = 1 → 0 ≤ n ∧ n ≤ 1) ∧ (a = 2 → -1000000000000000 ≤ n ∧ n ≤ 1000000000000000)
theorem textLoop (s : ByteArray) (hs : s.size ≤ 200) (x y : Int) (z : ByteArray) (d : Nat) : ∀ (k : Nat) (i : Nat), i + d = s.size → d < k →
    ∃ r, Qae.l0 k (s.size : Int) (i : Int) x y s = some r ∧ (r = 0 ↔ ∀ j : Nat, i ≤ j → j < s.size → 32 ≤ bt s j ∧ bt s j ≤ 126) := by
  induction d with
  | zero =>
    intro k i hi hk
    obtain ⟨k, rfl⟩ : ∃ m, k = m + 1 := ⟨k - 1, by omega⟩
    refine ⟨0, by simp only [Qae.l0]; rw [if_neg (by omega)], by simp; intro j h1 h2; omega⟩
  | succ d ih =>
    intro k i hi hk
    obtain ⟨k, rfl⟩ : ∃ m, k = m + 1 := ⟨k - 1, by omega⟩
    have hb := bt_range s i
    have hw : wrap64 (bt s (i : Int)) = bt s i := w_in _ (by omega) (by omega)
    have hw1 : wrap64 ((i : Int) + 1) = ((i + 1 : Nat) : Int) := by rw [w_in _ (by omega) (by omega)]; simp
    simp only [Qae.l0]
    rw [if_pos (by omega), if_pos (by omega), if_pos (by omega), hw]
    simp only [Qau.f]
    by_cases h1 : (32 : Int) ≤ bt s i
    · rw [if_pos h1]
      simp only [Option.bind_some]
      by_cases h2 : bt s i ≤ 126
      · rw [if_pos (by simpa using h2), hw1]
        obtain ⟨r, hr, he⟩ := ih k (i + 1) (by omega) (by omega)
        refine ⟨r, hr, he.trans ⟨fun h j h3 h4 => ?_, fun h j h3 h4 => h j (by omega) h4⟩⟩
        rcases Nat.lt_or_ge i j with h5 | h5
        · exact h j h5 h4
        · have : j = i := by omega
          subst this; exact ⟨h1, h2⟩
      · rw [if_neg (by simpa using h2)]
        refine ⟨3, rfl, by simp, fun h => ?_⟩
        exact absurd (h i (Nat.le_refl _) (by omega)).2 h2
    · rw [if_neg h1]
      simp only [Option.bind_some]
      rw [if_neg (by simp)]
      refine ⟨3, rfl, by simp, fun h => ?_⟩
      exact absurd (h i (Nat.le_refl _) (by omega)).1 h1
theorem checkText_ev (s : ByteArray) (k : Nat) (hk : 300 ≤ k) : ∃ r, Qae.f k 3 0 s = some r ∧ (r = 0 ↔ okText s) := by
  obtain ⟨k, rfl⟩ : ∃ m, k = m + 1 := ⟨k - 1, by omega⟩
  unfold Qae.f
  rw [if_neg (by decide), if_neg (by decide)]
  simp only [Qae.j0]
  rw [if_neg (by decide)]
  simp only [if_true]
  by_cases h : (s.size : Int) > 200
  · rw [if_pos h]
    exact ⟨2, rfl, by simp, fun h2 => by have := h2.1; omega⟩
  · rw [if_neg h]
    obtain ⟨r, hr, he⟩ := textLoop s (by omega) 3 0 s s.size k 0 (by omega) (by omega)
    exact ⟨r, hr, he.trans ⟨fun h1 => ⟨by omega, fun i hi => h1 i (Nat.zero_le _) hi⟩, fun h1 j _ h2 => h1.2 j h2⟩⟩
theorem in_f (a b c : Int) : Qau.f a b c = some (decide (b ≤ a ∧ a ≤ c)) := by
  unfold Qau.f
  split
  · rename_i h; simp [h]
  · rename_i h; simp [h]
theorem range_f (a b c : Int) : Qaz.f a b c = some (if b ≤ a ∧ a ≤ c then 0 else 1) := by
  unfold Qaz.f
  rw [in_f]
  simp only [Option.bind_some]
  by_cases h : b ≤ a ∧ a ≤ c
  · rw [if_pos (by simpa using h), if_pos h]
  · rw [if_neg (by simpa using h), if_neg h]
theorem checkNum_ev (a n : Int) (ha : a = 1 ∨ a = 2) (k : Nat) (hk : 2 ≤ k) : ∃ r, Qae.f k a n ⟨#[]⟩ = some r ∧ (r = 0 ↔ okNum a n) := by
  obtain ⟨k, rfl⟩ : ∃ m, k = m + 1 := ⟨k - 1, by omega⟩
  have he : (⟨#[]⟩ : ByteArray).toList = ([] : List UInt8) := (str_nil _).2 rfl
  unfold Qae.f okNum
  rcases ha with rfl | rfl
  · rw [if_neg (by decide), if_pos rfl]
    simp only [Qae.j0]
    rw [if_pos (by decide), if_pos he]
    simp only [if_true, range_f, Option.bind_some]
    refine ⟨_, rfl, ?_⟩
    split <;> simp_all
  · rw [if_neg (by decide), if_neg (by decide)]
    simp only [Qae.j0]
    rw [if_pos (by decide), if_pos he, if_neg (by decide), range_f]
    simp only [Option.bind_some]
    refine ⟨_, rfl, ?_⟩
    split <;> simp_all
theorem textsLoop (l : List ByteArray) (hl : l.length < 4611686018427387904) (d : Nat) : ∀ (k : Nat) (i : Nat), i + d = l.length → d + 300 < k →
    ∃ r, Qah.l0 k l (l.length : Int) (i : Int) = some r ∧ (r = 0 ↔ ∀ (j : Nat) (h : j < l.length), i ≤ j → okText l[j]) := by
  induction d with
  | zero =>
    intro k i hi hk
    obtain ⟨k, rfl⟩ : ∃ m, k = m + 1 := ⟨k - 1, by omega⟩
    refine ⟨0, by simp only [Qah.l0]; rw [if_neg (by omega)], by simp; intro j h1 h2; omega⟩
  | succ d ih =>
    intro k i hi hk
    obtain ⟨k, rfl⟩ : ∃ m, k = m + 1 := ⟨k - 1, by omega⟩
    have hw1 : wrap64 ((i : Int) + 1) = ((i + 1 : Nat) : Int) := by rw [w_in _ (by omega) (by omega)]; simp
    simp only [Qah.l0]
    rw [if_pos (by omega), if_pos (by omega), if_pos (by omega), rdOf_nat _ _ _ (by omega)]
    simp only [Qbc.f, Option.bind_some]
    obtain ⟨r, hr, he⟩ := checkText_ev l[i] k (by omega)
    rw [hr]
    simp only [Option.bind_some]
    by_cases h0 : r = 0
    · rw [if_pos h0, hw1]
      obtain ⟨q, hq, hqe⟩ := ih k (i + 1) (by omega) (by omega)
      refine ⟨q, hq, hqe.trans ⟨fun h j h3 h4 => ?_, fun h j h3 h4 => h j h3 (by omega)⟩⟩
      rcases Nat.lt_or_ge i j with h5 | h5
      · exact h j h3 h5
      · have : j = i := by omega
        subst this; exact he.1 h0
    · rw [if_neg h0]
      refine ⟨r, rfl, fun h => absurd h h0, fun h => ?_⟩
      exact absurd (he.2 (h i (by omega) (Nat.le_refl _))) h0
theorem checkTexts_ev (l : List ByteArray) (hl : l.length < 4611686018427387904) (k : Nat) (hk : l.length + 300 < k) : ∃ r, Qah.f k l = some r ∧ (r = 0 ↔ ∀ s ∈ l, okText s) := by
  obtain ⟨r, hr, he⟩ := textsLoop l hl l.length k 0 (by omega) (by omega)
  refine ⟨r, hr, he.trans ⟨fun h s hs => ?_, fun h j hj _ => h _ (List.getElem_mem hj)⟩⟩
  obtain ⟨j, hj, rfl⟩ := List.getElem_of_mem hs
  exact h j hj (Nat.zero_le _)
theorem indexLoop (l : List Bool) (b : Bool) (hl : l.length < 4611686018427387904) (d : Nat) : ∀ (k : Nat) (i : Nat), i + d = l.length → d < k →
    ∃ r, Qak.l0 k l b (l.length : Int) (i : Int) = some r ∧ (0 ≤ r ↔ ∃ (j : Nat) (h : j < l.length), i ≤ j ∧ l[j] = b) := by
  induction d with
  | zero =>
    intro k i hi hk
    obtain ⟨k, rfl⟩ : ∃ m, k = m + 1 := ⟨k - 1, by omega⟩
    refine ⟨-1, by simp only [Qak.l0]; rw [if_neg (by omega)], ?_⟩
    constructor
    · intro h; omega
    · rintro ⟨j, h1, h2, _⟩; omega
  | succ d ih =>
    intro k i hi hk
    obtain ⟨k, rfl⟩ : ∃ m, k = m + 1 := ⟨k - 1, by omega⟩
    have hw1 : wrap64 ((i : Int) + 1) = ((i + 1 : Nat) : Int) := by rw [w_in _ (by omega) (by omega)]; simp
    simp only [Qak.l0]
    rw [if_pos (by omega), if_pos (by omega), if_pos (by omega), rdOf_nat _ _ _ (by omega)]
    by_cases h0 : b = l[i]
    · rw [if_pos (by simp [← h0])]
      refine ⟨i, rfl, fun _ => ⟨i, by omega, Nat.le_refl _, h0.symm⟩, fun _ => by omega⟩
    · rw [if_neg (by simpa using h0), hw1]
      obtain ⟨q, hq, hqe⟩ := ih k (i + 1) (by omega) (by omega)
      refine ⟨q, hq, hqe.trans ⟨fun ⟨j, h1, h2, h3⟩ => ⟨j, h1, by omega, h3⟩, fun ⟨j, h1, h2, h3⟩ => ?_⟩⟩
      rcases Nat.lt_or_ge i j with h5 | h5
      · exact ⟨j, h1, h5, h3⟩
      · have : j = i := by omega
        subst this; exact absurd h3.symm h0
theorem contains_ev (l : List Bool) (b : Bool) (hl : l.length < 4611686018427387904) (k : Nat) (hk : l.length < k) : Qam.f k l b = some (decide (b ∈ l)) := by
  obtain ⟨r, hr, he⟩ := indexLoop l b hl l.length k 0 (by omega) hk
  unfold Qam.f Qak.f
  rw [show ((0 : Int)) = ((0 : Nat) : Int) from rfl, hr]
  simp only [Option.bind_some]
  congr 1
  rw [decide_eq_decide]
  have h2 : (0 ≤ r) ↔ b ∈ l := he.trans ⟨fun ⟨j, h1, _, h3⟩ => h3 ▸ List.getElem_mem h1, fun h => by
    obtain ⟨j, h1, h3⟩ := List.getElem_of_mem h
    exact ⟨j, h1, Nat.zero_le _, h3⟩⟩
  exact h2
def hasD (dc : List ByteArray) (cd : List Int) : Bool := !(dc.isEmpty && cd.isEmpty)
theorem hasD_f {a : Int} {nl : List Bool} {nm : List Int} {tx dc : List ByteArray} {cd : List Int} : Qax.f a nl nm tx dc cd = some (hasD dc cd) := by
  unfold Qax.f hasD
  cases dc with
  | cons x l => simp
  | nil =>
    cases cd with
    | nil => simp
    | cons x l => simp
theorem hasD_false {dc : List ByteArray} {cd : List Int} : hasD dc cd = false ↔ dc = [] ∧ cd = [] := by
  cases dc <;> cases cd <;> simp [hasD]
def FormOk (a : Int) (nl : List Bool) (nm : List Int) (tx dc : List ByteArray) (cd : List Int) (n : Int) : Prop :=
  (nl = [] ∨ ((nl.length : Int) = n ∧ true ∈ nl)) ∧ (a ≠ 3 → tx = [] ∧ dc = [] ∧ cd = [] ∧ (nm.length : Int) = n) ∧
  (a = 3 → nm = [] ∧ dc.length ≤ 1000 ∧ (hasD dc cd = true → tx = [] ∧ (cd.length : Int) = n) ∧ (hasD dc cd = false → (tx.length : Int) = n))
theorem len_pos {α : Type} (l : List α) : ((l.length : Int) > 0) ↔ l ≠ [] := by
  cases l <;> simp
theorem form_j0 (a : Int) (nl : List Bool) (nm : List Int) (tx dc : List ByteArray) (cd : List Int) (n : Int) (x : Bool) (k : Nat) (hk : 10 ≤ k) :
    ∃ r, Qab.j0 k n x a nl nm tx dc cd = some r ∧ (r = 0 ↔ x = false ∧ (a ≠ 3 → tx = [] ∧ dc = [] ∧ cd = [] ∧ (nm.length : Int) = n) ∧
  (a = 3 → nm = [] ∧ dc.length ≤ 1000 ∧ (hasD dc cd = true → tx = [] ∧ (cd.length : Int) = n) ∧ (hasD dc cd = false → (tx.length : Int) = n))) := by
  obtain ⟨k, rfl⟩ : ∃ m, k = m + 4 := ⟨k - 4, by omega⟩
  simp only [Qab.j0]
  by_cases hx : x = true
  · rw [if_pos hx]
    exact ⟨3, rfl, by simp [hx]⟩
  rw [if_neg hx]
  have hx' : x = false := by simpa using hx
  by_cases ha : a = 3
  · rw [if_pos ha]
    have e1 : ∀ y, Qab.j4 (k + 1) y = some (if y = true then 3 else 0) := by
      intro y; simp only [Qab.j4]; split <;> rfl
    have e2 : ∀ (x5 y : Bool), Qab.j3 (k + 2) n x5 y a nl nm tx dc cd = some (if y = true then 3 else if x5 = true then (if (cd.length : Int) = n then 0 else 3) else (if (tx.length : Int) = n then 0 else 3)) := by
      intro x5 y
      simp only [Qab.j3, e1]
      by_cases h : (tx.length : Int) = n <;> by_cases h2 : (cd.length : Int) = n <;> cases y <;> cases x5 <;> simp [h, h2]
    have e3 : ∀ (x5 : Bool), Qab.j2 (k + 3) n x5 a nl nm tx dc cd = some (if nm ≠ [] ∨ (x5 = true ∧ tx ≠ []) ∨ dc.length > 1000 then 3 else if x5 = true then (if (cd.length : Int) = n then 0 else 3) else (if (tx.length : Int) = n then 0 else 3)) := by
      intro x5
      simp only [Qab.j2, e2, len_pos]
      have hd : ((dc.length : Int) > 1000) ↔ dc.length > 1000 := by omega
      simp only [hd]
      by_cases h1 : nm = [] <;> by_cases h2 : tx = [] <;> by_cases h3 : dc.length > 1000 <;> cases x5 <;> simp [h1, h2, h3]
    have e4 : (if (dc.length : Int) > 0 then Qab.j2 (k + 3) n true a nl nm tx dc cd else Qab.j2 (k + 3) n (decide ((cd.length : Int) > 0)) a nl nm tx dc cd) = Qab.j2 (k + 3) n (hasD dc cd) a nl nm tx dc cd := by
      cases dc with
      | cons y l => rw [if_pos (by simp)]; simp [hasD]
      | nil =>
        rw [if_neg (by simp)]
        cases cd with
        | nil => simp [hasD]
        | cons y l => simp [hasD]
    rw [e4, e3]
    refine ⟨_, rfl, ?_⟩
    simp only [hx', ha, true_and, ne_eq, not_true, false_implies, true_implies]
    by_cases h1 : nm = [] <;> by_cases h2 : tx = [] <;> by_cases h3 : dc.length > 1000 <;> cases hd : hasD dc cd <;> simp [h1, h2, h3] <;> omega
  · rw [if_neg ha]
    have e1 : ∀ y, Qab.j1 (k + 3) y = some (if y = true then 3 else 0) := by
      intro y; simp only [Qab.j1]; split <;> rfl
    simp only [e1, len_pos]
    simp only [hx', ha, true_and, false_implies, and_true, ne_eq, not_false_iff, true_implies]
    by_cases h1 : tx = [] <;> by_cases h2 : dc = [] <;> by_cases h3 : cd = [] <;> by_cases h4 : (nm.length : Int) = n <;> simp [h1, h2, h3, h4]
theorem form_ev (a : Int) (nl : List Bool) (nm : List Int) (tx dc : List ByteArray) (cd : List Int) (n : Int) (hn : n ≤ 1000) (k : Nat) (hk : 2000 ≤ k) :
    ∃ r, Qab.f k a nl nm tx dc cd n = some r ∧ (r = 0 ↔ FormOk a nl nm tx dc cd n) := by
  unfold Qab.f FormOk
  by_cases h1 : nl = []
  · rw [if_neg (by rw [len_pos]; simp [h1])]
    obtain ⟨r, hr, he⟩ := form_j0 a nl nm tx dc cd n false k (by omega)
    exact ⟨r, hr, he.trans (by simp [h1])⟩
  · rw [if_pos ((len_pos _).2 h1)]
    by_cases h2 : (nl.length : Int) = n
    · rw [if_pos h2, contains_ev nl true (by omega) k (by omega)]
      simp only [Option.bind_some]
      obtain ⟨r, hr, he⟩ := form_j0 a nl nm tx dc cd n (!decide (true ∈ nl)) k (by omega)
      exact ⟨r, hr, he.trans (by simp [h1, h2])⟩
    · rw [if_neg h2]
      obtain ⟨r, hr, he⟩ := form_j0 a nl nm tx dc cd n true k (by omega)
      exact ⟨r, hr, he.trans (by simp [h1, h2])⟩
def nullAt (nl : List Bool) (i : Nat) : Bool := nl.getD i false
theorem null_f {a : Int} {nl : List Bool} {nm : List Int} {tx dc : List ByteArray} {cd : List Int} {i : Nat} (h : nl = [] ∨ i < nl.length) : Qay.f a nl nm tx dc cd (i : Int) = some (nullAt nl i) := by
  unfold Qay.f nullAt
  rcases h with rfl | h
  · simp
  · rw [if_pos (by omega), if_pos (by omega), if_pos (by omega)]
    rfl
def RowOk (a : Int) (nl : List Bool) (nm : List Int) (tx dc : List ByteArray) (cd : List Int) (i : Nat) : Prop :=
  (a ≠ 3 → (nullAt nl i = true → nm.getD i 0 = 0) ∧ (nullAt nl i = false → okNum a (nm.getD i 0))) ∧
  (a = 3 → hasD dc cd = false → nullAt nl i = true → tx.getD i ⟨#[]⟩ = ⟨#[]⟩) ∧
  (a = 3 → hasD dc cd = true → (nullAt nl i = true → cd.getD i 0 = 0) ∧ (nullAt nl i = false → 0 ≤ cd.getD i 0 ∧ cd.getD i 0 < dc.length))
theorem rd_getD (l : List Int) (i : Nat) : rd l (i : Int) = l.getD i 0 := by simp [rd]
theorem rdOf_getD {α : Type} (d : α) (l : List α) (i : Nat) : rdOf d l (i : Int) = l.getD i d := by simp [rdOf]
theorem row_ev {a : Int} {nl : List Bool} {nm : List Int} {tx dc : List ByteArray} {cd : List Int} {n : Nat} (ha : 1 ≤ a ∧ a ≤ 3) (hF : FormOk a nl nm tx dc cd n) (i : Nat) (hi : i < n) (k : Nat) (hk : 300 ≤ k) :
    ∃ r, Qag.f k a nl nm tx dc cd (i : Int) = some r ∧ (r = 0 ↔ RowOk a nl nm tx dc cd i) := by
  obtain ⟨k, rfl⟩ : ∃ m, k = m + 1 := ⟨k - 1, by omega⟩
  unfold Qag.f
  rw [null_f (by rcases hF.1 with h | h; exact .inl h; exact .inr (by omega))]
  simp only [Option.bind_some]
  unfold RowOk
  by_cases h3 : a = 3
  · obtain ⟨_, hdl, hc, ht⟩ := hF.2.2 h3
    rw [if_pos h3, hasD_f]
    simp only [Option.bind_some]
    cases hd : hasD dc cd with
    | true =>
      obtain ⟨_, hcl⟩ := hc hd
      rw [if_pos rfl]
      simp only [h3, ne_eq, not_true, false_implies, true_implies, true_and, Bool.true_eq_false, Bool.false_eq_true]
      have hw : wrap64 ((dc.length : Int) - 1) = (dc.length : Int) - 1 := w_in _ (by omega) (by omega)
      cases hnl : nullAt nl i with
      | true =>
        rw [if_pos rfl, if_pos (by omega), if_pos (by omega)]
        simp only [Qag.j0, rd_getD]
        generalize cd.getD i 0 = x
        by_cases h0 : x = 0
        · exact ⟨0, by simp [h0], by simp [h0]⟩
        · exact ⟨3, by simp [h0], by simp [h0]⟩
      | false =>
        rw [if_neg (by simp)]
        simp only [Qag.j0, rd_getD]
        generalize cd.getD i 0 = x
        simp only [Bool.false_eq_true, if_false]
        rw [if_pos (by omega), if_pos (by omega), range_f, hw]
        simp only [Option.bind_some]
        refine ⟨_, rfl, ?_⟩
        by_cases h0 : 0 ≤ x ∧ x ≤ (dc.length : Int) - 1
        · rw [if_pos h0]; simp; omega
        · rw [if_neg h0]; simp; omega
    | false =>
      have htl := ht hd
      rw [if_neg (by simp)]
      simp only [h3, ne_eq, not_true, false_implies, true_implies, true_and, Bool.true_eq_false, Bool.false_eq_true, and_true]
      cases hnl : nullAt nl i with
      | true =>
        rw [if_pos rfl, if_pos (by omega), if_pos (by omega)]
        rw [rdOf_getD, show ByteArray.empty = (⟨#[]⟩ : ByteArray) from rfl]
        generalize tx.getD i ⟨#[]⟩ = x
        by_cases h0 : x = ⟨#[]⟩
        · rw [if_pos ((str_nil _).2 h0)]; exact ⟨0, rfl, by simp [h0]⟩
        · rw [if_neg (fun h => h0 ((str_nil _).1 h))]; exact ⟨3, rfl, by simp [h0]⟩
      | false =>
        rw [if_neg (by simp)]
        exact ⟨0, rfl, by simp⟩
  · obtain ⟨_, _, _, hnm⟩ := hF.2.1 h3
    rw [if_neg h3]
    simp only [h3, ne_eq, not_false_iff, false_implies, true_implies, and_true]
    cases hnl : nullAt nl i with
    | true =>
      rw [if_pos rfl, if_pos (by omega), if_pos (by omega)]
      simp only [Qag.j1, rd_getD]
      generalize nm.getD i 0 = x
      by_cases h0 : x = 0
      · exact ⟨0, by simp [h0], by simp [h0]⟩
      · exact ⟨3, by simp [h0], by simp [h0]⟩
    | false =>
      rw [if_neg (by simp)]
      simp only [Qag.j1, rd_getD, Bool.false_eq_true, if_false]
      rw [if_pos (by omega), if_pos (by omega)]
      obtain ⟨r, hr, he⟩ := checkNum_ev a (nm.getD i 0) (by omega) k (by omega)
      rw [hr]
      exact ⟨r, rfl, by simpa using he⟩
structure Valid (a : Int) (nl : List Bool) (nm : List Int) (tx dc : List ByteArray) (cd : List Int) (n : Nat) : Prop where
  le : n ≤ 1000
  kind : 1 ≤ a ∧ a ≤ 3
  form : FormOk a nl nm tx dc cd n
  okd : ∀ s ∈ dc, okText s
  okt : ∀ s ∈ tx, okText s
  ord : ∀ (i : Nat) (h : i + 1 < dc.length), Op.bytesLess dc[i].toList dc[i + 1].toList = true
  row : ∀ i, i < n → RowOk a nl nm tx dc cd i
theorem rowsLoop {a : Int} {nl : List Bool} {nm : List Int} {tx dc : List ByteArray} {cd : List Int} {n : Nat} (hn : n ≤ 1000) (ha : 1 ≤ a ∧ a ≤ 3) (hF : FormOk a nl nm tx dc cd n) (d : Nat) : ∀ (k : Nat) (i : Nat), i + d = n → d + 300 < k →
    ∃ r, Qaf.l1 k (n : Int) (i : Int) a nl nm tx dc cd = some r ∧ (r = 0 ↔ ∀ j, i ≤ j → j < n → RowOk a nl nm tx dc cd j) := by
  induction d with
  | zero =>
    intro k i hi hk
    obtain ⟨k, rfl⟩ : ∃ m, k = m + 1 := ⟨k - 1, by omega⟩
    refine ⟨0, by simp only [Qaf.l1]; rw [if_neg (by omega)], by simp; intro j h1 h2; omega⟩
  | succ d ih =>
    intro k i hi hk
    obtain ⟨k, rfl⟩ : ∃ m, k = m + 1 := ⟨k - 1, by omega⟩
    have hw1 : wrap64 ((i : Int) + 1) = ((i + 1 : Nat) : Int) := by rw [w_in _ (by omega) (by omega)]; simp
    simp only [Qaf.l1]
    rw [if_pos (by omega)]
    obtain ⟨r, hr, he⟩ := row_ev ha hF i (by omega) k (by omega)
    rw [hr]
    simp only [Option.bind_some]
    by_cases h0 : r = 0
    · rw [if_pos h0, hw1]
      obtain ⟨q, hq, hqe⟩ := ih k (i + 1) (by omega) (by omega)
      refine ⟨q, hq, hqe.trans ⟨fun h j h3 h4 => ?_, fun h j h3 h4 => h j (by omega) h4⟩⟩
      rcases Nat.lt_or_ge i j with h5 | h5
      · exact h j h5 h4
      · have : j = i := by omega
        subst this; exact he.1 h0
    · rw [if_neg h0]
      refine ⟨r, rfl, fun h => absurd h h0, fun h => ?_⟩
      exact absurd (he.2 (h i (Nat.le_refl _) (by omega))) h0
theorem dictLoop {a : Int} {nl : List Bool} {nm : List Int} {tx dc : List ByteArray} {cd : List Int} {n : Nat} (hn : n ≤ 1000) (ha : 1 ≤ a ∧ a ≤ 3) (hF : FormOk a nl nm tx dc cd n) (hd : dc.length ≤ 1000) (d : Nat) : ∀ (k : Nat) (i : Nat), i + d = dc.length → d + 1400 < k →
    ∃ r, Qaf.l0 k (n : Int) dc (dc.length : Int) (i : Int) a nl nm tx dc cd = some r ∧ (r = 0 ↔ (∀ (j : Nat) (h : j + 1 < dc.length), i ≤ j + 1 → Op.bytesLess dc[j].toList dc[j + 1].toList = true) ∧ ∀ j, j < n → RowOk a nl nm tx dc cd j) := by
  induction d with
  | zero =>
    intro k i hi hk
    obtain ⟨k, rfl⟩ : ∃ m, k = m + 1 := ⟨k - 1, by omega⟩
    simp only [Qaf.l0]
    rw [if_neg (by omega)]
    obtain ⟨r, hr, he⟩ := rowsLoop hn ha hF n k 0 (by omega) (by omega)
    refine ⟨r, hr, he.trans ⟨fun h => ⟨fun j h1 h2 => by omega, fun j hj => h j (Nat.zero_le _) hj⟩, fun h j _ hj => h.2 j hj⟩⟩
  | succ d ih =>
    intro k i hi hk
    obtain ⟨k, rfl⟩ : ∃ m, k = m + 1 := ⟨k - 1, by omega⟩
    have hw1 : wrap64 ((i : Int) + 1) = ((i + 1 : Nat) : Int) := by rw [w_in _ (by omega) (by omega)]; simp
    simp only [Qaf.l0]
    rw [if_pos (by omega), if_pos (by omega), if_pos (by omega), hw1]
    obtain ⟨q, hq, hqe⟩ := ih k (i + 1) (by omega) (by omega)
    by_cases h0 : (i : Int) > 0
    · obtain ⟨j, rfl⟩ : ∃ m, i = m + 1 := ⟨i - 1, by omega⟩
      have hw2 : wrap64 (((j + 1 : Nat) : Int) - 1) = (j : Int) := by rw [w_in _ (by omega) (by omega)]; omega
      rw [if_pos h0, hw2, if_pos (by omega), if_pos (by omega), rdOf_nat _ _ _ (by omega), rdOf_nat _ _ _ (by omega)]
      by_cases hb : Op.bytesLess dc[j].toList dc[j + 1].toList = true
      · rw [if_pos hb]
        refine ⟨q, hq, hqe.trans ⟨fun h => ⟨fun m h3 h4 => ?_, h.2⟩, fun h => ⟨fun m h3 h4 => h.1 m h3 (by omega), h.2⟩⟩⟩
        rcases Nat.lt_or_ge j m with h5 | h5
        · exact h.1 m h3 (by omega)
        · have : m = j := by omega
          subst this; exact hb
      · rw [if_neg hb]
        exact ⟨8, rfl, by simp, fun h => absurd (h.1 j (by omega) (Nat.le_refl _)) hb⟩
    · rw [if_neg h0]
      refine ⟨q, hq, hqe.trans ⟨fun h => ⟨fun m h3 h4 => h.1 m h3 (by omega), h.2⟩, fun h => ⟨fun m h3 h4 => h.1 m h3 (by omega), h.2⟩⟩⟩
theorem check_ev (a : Int) (nl : List Bool) (nm : List Int) (tx dc : List ByteArray) (cd : List Int) (n : Int) (k : Nat) (hk : 5000 ≤ k) :
    ∃ r, Qaf.f k a nl nm tx dc cd n = some r ∧ (r = 0 ↔ 0 ≤ n ∧ Valid a nl nm tx dc cd n.toNat) := by
  unfold Qaf.f
  rw [in_f]
  simp only [Option.bind_some]
  by_cases h1 : 0 ≤ n ∧ n ≤ 1000
  rotate_left
  · rw [if_neg (by simpa using h1)]
    refine ⟨1, rfl, by simp, fun h => absurd ⟨h.1, ?_⟩ h1⟩
    have := h.2.le; omega
  rw [if_pos (by simpa using h1), in_f]
  simp only [Option.bind_some]
  obtain ⟨n, rfl⟩ : ∃ m : Nat, n = m := ⟨n.toNat, by omega⟩
  have hn : n ≤ 1000 := by omega
  simp only [Int.toNat_natCast]
  by_cases h2 : 1 ≤ a ∧ a ≤ 3
  rotate_left
  · rw [if_neg (by simpa using h2)]
    exact ⟨4, rfl, by simp, fun h => absurd h.2.kind h2⟩
  rw [if_pos (by simpa using h2)]
  obtain ⟨r, hr, he⟩ := form_ev a nl nm tx dc cd n (by omega) k (by omega)
  rw [hr]
  simp only [Option.bind_some]
  by_cases h3 : r = 0
  rotate_left
  · rw [if_neg h3]
    exact ⟨r, rfl, fun h => absurd h h3, fun h => absurd (he.2 h.2.form) h3⟩
  rw [if_pos h3]
  have hF := he.1 h3
  have hd : dc.length ≤ 1000 := by
    by_cases h4 : a = 3
    · exact (hF.2.2 h4).2.1
    · rw [(hF.2.1 h4).2.1]; simp
  have ht : tx.length ≤ 1000 := by
    by_cases h4 : a = 3
    · cases h5 : hasD dc cd with
      | true => rw [((hF.2.2 h4).2.2.1 h5).1]; simp
      | false => have := (hF.2.2 h4).2.2.2 h5; omega
    · rw [(hF.2.1 h4).1]; simp
  obtain ⟨r2, hr2, he2⟩ := checkTexts_ev dc (by omega) k (by omega)
  rw [hr2]
  simp only [Option.bind_some]
  by_cases h4 : r2 = 0
  rotate_left
  · rw [if_neg h4]
    exact ⟨r2, rfl, fun h => absurd h h4, fun h => absurd (he2.2 h.2.okd) h4⟩
  rw [if_pos h4]
  obtain ⟨r3, hr3, he3⟩ := checkTexts_ev tx (by omega) k (by omega)
  rw [hr3]
  simp only [Option.bind_some]
  by_cases h5 : r3 = 0
  rotate_left
  · rw [if_neg h5]
    exact ⟨r3, rfl, fun h => absurd h h5, fun h => absurd (he3.2 h.2.okt) h5⟩
  rw [if_pos h5]
  obtain ⟨q, hq, hqe⟩ := dictLoop hn h2 hF hd dc.length k 0 (by omega) (by omega)
  refine ⟨q, hq, hqe.trans ⟨fun h => ⟨by omega, hn, h2, hF, he2.1 h4, he3.1 h5, fun i hi => h.1 i hi (Nat.zero_le _), h.2⟩, fun h => ⟨fun j hj _ => h.2.ord j hj, h.2.row⟩⟩⟩
abbrev e0 : ByteArray := ⟨#[]⟩
abbrev nullV : S41 := ⟨0, 0, e0⟩
def valAt (a : Int) (nl : List Bool) (nm : List Int) (tx dc : List ByteArray) (cd : List Int) (i : Nat) : S41 :=
  if nullAt nl i = true then nullV else if a = 3 then (if hasD dc cd = true then ⟨3, 0, dc.getD (cd.getD i 0).toNat e0⟩ else ⟨3, 0, tx.getD i e0⟩) else ⟨a, nm.getD i 0, e0⟩
section
variable {a : Int} {nl : List Bool} {nm : List Int} {tx dc : List ByteArray} {cd : List Int} {n : Nat}
theorem Valid.nl_len (h : Valid a nl nm tx dc cd n) (i : Nat) (hi : i < n) : nl = [] ∨ i < nl.length := by
  rcases h.form.1 with h1 | h1
  · exact .inl h1
  · exact .inr (by omega)
theorem at_f (h : Valid a nl nm tx dc cd n) (i : Nat) (hi : i < n) : Qav.f a nl nm tx dc cd (i : Int) = some ((valAt a nl nm tx dc cd i).f0, (valAt a nl nm tx dc cd i).f1, (valAt a nl nm tx dc cd i).f2) := by
  unfold Qav.f
  rw [null_f (h.nl_len i hi)]
  simp only [Option.bind_some]
  unfold valAt
  have hr := h.row i hi
  cases hn : nullAt nl i with
  | true => simp
  | false =>
    simp only [Bool.false_eq_true, if_false]
    by_cases h3 : a = 3
    · obtain ⟨_, _, hc, ht⟩ := h.form.2.2 h3
      rw [if_pos h3, if_pos h3, hasD_f]
      simp only [Option.bind_some]
      cases hd : hasD dc cd with
      | true =>
        have hcl := (hc hd).2
        have hr2 := (hr.2.2 h3 hd).2 hn
        simp only [if_true, rd_getD]
        rw [if_pos (by omega), if_pos (by omega), if_pos hr2.1, if_pos hr2.2]
        rfl
      | false =>
        have htl := ht hd
        simp only [Bool.false_eq_true, if_false]
        rw [if_pos (by omega), if_pos (by omega)]
        rfl
    · obtain ⟨_, _, _, hnm⟩ := h.form.2.1 h3
      rw [if_neg h3, if_neg h3, if_pos (by omega), if_pos (by omega), rd_getD]
def longN (nm : List Int) (tx : List ByteArray) (cd : List Int) : Nat := max (max nm.length tx.length) cd.length
theorem long_f : Qba.f a nl nm tx dc cd = some ((longN nm tx cd : Nat) : Int) := by
  unfold Qba.f longN
  split <;> split <;> congr 1 <;> omega
theorem Valid.long (h : Valid a nl nm tx dc cd n) : longN nm tx cd = n := by
  unfold longN
  by_cases h3 : a = 3
  · obtain ⟨h1, _, hc, ht⟩ := h.form.2.2 h3
    subst h1
    cases hd : hasD dc cd with
    | true => obtain ⟨h2, h4⟩ := hc hd; subst h2; simp; omega
    | false =>
      obtain ⟨_, h4⟩ := hasD_false.1 hd
      have := ht hd
      subst h4; simp; omega
  · obtain ⟨h1, _, h2, h4⟩ := h.form.2.1 h3
    subst h1; subst h2; simp; omega
end
def nullsOf (l : List S41) : List Bool := l.map fun v => v.f0 == 0
def onlyNulls (l : List Bool) : List Bool := if true ∈ l then l else []
def numsOf (a : Int) (l : List S41) : List Int := if a = 3 then [] else l.map (·.f1)
def textsOf (a : Int) (l : List S41) : List ByteArray := if a = 3 then l.map (·.f2) else []
def ColVal (a : Int) (v : S41) : Prop := v = nullV ∨ (v.f0 = a ∧ (a = 3 → v.f1 = 0 ∧ okText v.f2) ∧ (a ≠ 3 → v.f2 = e0 ∧ okNum a v.f1))
theorem nullAt_only (l : List S41) (i : Nat) (hi : i < l.length) : nullAt (onlyNulls (nullsOf l)) i = (l[i].f0 == 0) := by
  unfold onlyNulls nullAt
  have e : (nullsOf l).getD i false = (l[i].f0 == 0) := by simp [nullsOf, List.getD_eq_getElem?_getD, hi]
  by_cases h : true ∈ nullsOf l
  · rw [if_pos h, e]
  · rw [if_neg h]
    have h1 : (l[i].f0 == 0) ≠ true := fun h2 => h (by
      rw [← h2]; simp only [nullsOf]; exact List.mem_map.2 ⟨l[i], List.getElem_mem hi, rfl⟩)
    simpa using h1
theorem onlyNulls_form (l : List S41) : onlyNulls (nullsOf l) = [] ∨ (((onlyNulls (nullsOf l)).length : Int) = (l.length : Nat) ∧ true ∈ onlyNulls (nullsOf l)) := by
  unfold onlyNulls
  by_cases h : true ∈ nullsOf l
  · rw [if_pos h]; exact .inr ⟨by simp [nullsOf], h⟩
  · rw [if_neg h]; exact .inl rfl
theorem ColVal.null_iff {a : Int} {v : S41} (ha : 1 ≤ a) (h : ColVal a v) : v.f0 = 0 ↔ v = nullV := by
  constructor
  · intro h0
    rcases h with h | h
    · exact h
    · omega
  · intro h0; rw [h0]
theorem ColVal.empty {a : Int} {v : S41} (h : ColVal a v) (h3 : a ≠ 3) : v.f2 = e0 := by
  rcases h with h | h
  · rw [h]
  · exact (h.2.2 h3).1
theorem okText_e0 : okText e0 := ⟨by decide, fun i hi => absurd hi (by simp [ByteArray.size])⟩
theorem ColVal.okT {v : S41} (h : ColVal 3 v) : okText v.f2 ∧ v.f1 = 0 := by
  rcases h with h | h
  · rw [h]; exact ⟨okText_e0, rfl⟩
  · exact ⟨(h.2.1 rfl).2, (h.2.1 rfl).1⟩
theorem of_valid {a : Int} (ha : 1 ≤ a ∧ a ≤ 3) {l : List S41} (hl : l.length ≤ 1000) (h : ∀ v ∈ l, ColVal a v) : Valid a (onlyNulls (nullsOf l)) (numsOf a l) (textsOf a l) [] [] l.length where
  le := hl
  kind := ha
  form := ⟨onlyNulls_form l, fun h3 => ⟨by simp [textsOf, h3], rfl, rfl, by simp [numsOf, h3]⟩, fun h3 => ⟨by simp [numsOf, h3], by simp, fun hd => by simp [hasD] at hd, fun _ => by simp [textsOf, h3]⟩⟩
  okd := by simp
  okt := by
    intro s hs
    unfold textsOf at hs
    split at hs
    · rename_i h3
      obtain ⟨v, hv, rfl⟩ := List.mem_map.1 hs
      subst h3
      exact (h v hv).okT.1
    · cases hs
  ord := by intro i hi; simp at hi
  row := by
    intro i hi
    have hc := h l[i] (List.getElem_mem hi)
    have hn := nullAt_only l i hi
    refine ⟨fun h3 => ?_, fun h3 _ hnl => ?_, fun _ hd => by simp [hasD] at hd⟩
    · have e : (numsOf a l).getD i 0 = l[i].f1 := by simp [numsOf, h3, List.getD_eq_getElem?_getD, hi]
      rw [e, hn]
      constructor
      · intro h0
        have := (hc.null_iff ha.1).1 (by simpa using h0)
        rw [this]
      · intro h0
        rcases hc with hc | hc
        · rw [hc] at h0; simp at h0
        · exact (hc.2.2 h3).2
    · rw [hn] at hnl
      have := (hc.null_iff ha.1).1 (by simpa using hnl)
      simp [textsOf, h3, List.getD_eq_getElem?_getD, hi, this]
section
variable {a : Int} {nl : List Bool} {nm : List Int} {tx dc : List ByteArray} {cd : List Int}
end
section
variable {a : Int} {nl : List Bool} {nm : List Int} {tx dc : List ByteArray} {cd : List Int} {n : Nat}
theorem check_valid (h : Valid a nl nm tx dc cd n) (k : Nat) (hk : 5000 ≤ k) : Qaf.f k a nl nm tx dc cd (n : Int) = some 0 := by
  obtain ⟨r, h1, h2⟩ := check_ev a nl nm tx dc cd n k hk
  rw [h1, h2.2 ⟨by omega, by simpa using h⟩]
theorem At_ok (h : Valid a nl nm tx dc cd n) (j : Nat) (hj : j < n) (k : Nat) (hk : 5000 ≤ k) :
    Qbe.f k a nl nm tx dc cd (j : Int) = some ((valAt a nl nm tx dc cd j).f0, (valAt a nl nm tx dc cd j).f1, (valAt a nl nm tx dc cd j).f2, 0) := by
  unfold Qbe.f
  have hl := h.le
  rw [long_f, h.long]
  simp only [Option.bind_some]
  rw [check_valid h k hk]
  simp only [Option.bind_some, if_true]
  rw [w_in _ (by omega) (by omega), in_f]
  simp only [Option.bind_some]
  rw [if_pos (by simp; omega), at_f h j hj]
  rfl
end
theorem awake_f (k : Nat) (hk : 5000 ≤ k) : Qbb.f k = some true := by
  have hv : Valid 2 [] [3, 4] [] [] [] 2 := by
    have := of_valid (a := 2) (by decide) (l := [(⟨2, 3, e0⟩ : S41), ⟨2, 4, e0⟩]) (by decide) (by
      intro v hv
      simp only [List.mem_cons, List.not_mem_nil, or_false] at hv
      rcases hv with rfl | rfl
      · exact .inr ⟨rfl, fun h => absurd h (by decide), fun _ => ⟨rfl, by decide, by decide⟩⟩
      · exact .inr ⟨rfl, fun h => absurd h (by decide), fun _ => ⟨rfl, by decide, by decide⟩⟩)
    exact this
  unfold Qbb.f
  have := At_ok hv 1 (by decide) k hk
  rw [show ((1 : Nat) : Int) = 1 from rfl] at this
  have e : valAt 2 [] [3, 4] [] [] [] 1 = ⟨2, 4, e0⟩ := by simp [valAt, nullAt]
  rw [this, e]
  simp only [Option.bind_some, if_true]
  rw [(str_nil e0).2 rfl]
  rfl
abbrev VV (v : S39) (n : Nat) : Prop := Valid v.f0 v.f1 v.f2 v.f3 v.f4 v.f5 n
theorem rd39 (l : List S39) (i : Nat) (h : i < l.length) : rd_T39 l (i : Int) = l[i] := by
  simp [rd_T39, List.getD_eq_getElem?_getD, h]
structure BatchOk (r : Nat) (cols : List S39) (wh : Bool) (pk : List Int) : Prop where
  le : r ≤ 1000
  few : cols.length ≤ 20
  some_ : cols ≠ []
  each : ∀ v ∈ cols, VV v r
  whole : wh = true → pk = []
  inr : ∀ (i : Nat) (h : i < pk.length), 0 ≤ pk[i] ∧ pk[i] < r
  asc : ∀ (i : Nat) (h : i + 1 < pk.length), pk[i] < pk[i + 1]
theorem pkLoop (r : Nat) (hr : r ≤ 1000) (cols : List S39) (wh : Bool) (pk : List Int) (d : Nat) : ∀ (k i : Nat), i + d = 1001 → d < k → i ≤ pk.length →
    (∀ (j : Nat) (h : j < pk.length), j < i → 0 ≤ pk[j] ∧ pk[j] < r) → (∀ (j : Nat) (h : j + 1 < pk.length), j + 1 < i → pk[j] < pk[j + 1]) → (∀ (j : Nat) (h : j < pk.length), j < i → (j : Int) ≤ pk[j]) →
    ∃ c, Qac.l1 k pk (pk.length : Int) (i : Int) r cols wh pk = some c ∧
      (c = 0 ↔ (∀ (j : Nat) (h : j < pk.length), 0 ≤ pk[j] ∧ pk[j] < r) ∧ ∀ (j : Nat) (h : j + 1 < pk.length), pk[j] < pk[j + 1]) := by
  induction d with
  | zero =>
    intro k i hi hk hl h1 h2 h3
    have := h3 1000 (by omega) (by omega)
    have := h1 1000 (by omega) (by omega)
    omega
  | succ d ih =>
    intro k i hi hk hl h1 h2 h3
    obtain ⟨k, rfl⟩ : ∃ m, k = m + 1 := ⟨k - 1, by omega⟩
    simp only [Qac.l1]
    by_cases hlt : i < pk.length
    · rw [if_pos (by omega), if_pos (by omega), if_pos (by omega), w_in _ (by omega) (by omega), in_f, rd_nat _ _ hlt]
      simp only [Option.bind_some]
      by_cases hin : 0 ≤ pk[i] ∧ pk[i] < r
      · rw [if_pos (by simp; omega)]
        have hw1 : wrap64 ((i : Int) + 1) = ((i + 1 : Nat) : Int) := by rw [w_in _ (by omega) (by omega)]; simp
        by_cases hi0 : i = 0
        · subst hi0
          rw [if_neg (by omega), hw1]
          exact ih k 1 (by omega) (by omega) (by omega) (fun j hj hj1 => by obtain rfl : j = 0 := by omega
                                                                            exact hin) (fun j hj hj1 => by omega) (fun j hj hj1 => by obtain rfl : j = 0 := by omega
                                                                                                                                      exact hin.1)
        · obtain ⟨m, rfl⟩ : ∃ m, i = m + 1 := ⟨i - 1, by omega⟩
          have hw2 : wrap64 (((m + 1 : Nat) : Int) - 1) = (m : Int) := by rw [w_in _ (by omega) (by omega)]; omega
          rw [if_pos (by omega), hw2, if_pos (by omega), if_pos (by omega), rd_nat _ _ (by omega)]
          by_cases hle : pk[m + 1] ≤ pk[m]
          · rw [if_pos hle]
            refine ⟨8, rfl, by simp, fun h => ?_⟩
            have := h.2 m hlt
            omega
          · rw [if_neg hle, hw1]
            refine ih k (m + 2) (by omega) (by omega) (by omega) (fun j hj hj1 => ?_) (fun j hj hj1 => ?_) (fun j hj hj1 => ?_)
            · by_cases hjm : j = m + 1
              · subst hjm; exact hin
              · exact h1 j hj (by omega)
            · by_cases hjm : j = m
              · subst hjm; omega
              · exact h2 j hj (by omega)
            · by_cases hjm : j = m + 1
              · subst hjm
                have := h3 m (by omega) (by omega)
                omega
              · exact h3 j hj (by omega)
      · rw [if_neg (by simp; omega)]
        exact ⟨1, rfl, by simp, fun h => absurd (h.1 i hlt) hin⟩
    · rw [if_neg (by omega)]
      exact ⟨0, rfl, fun _ => ⟨fun j hj => h1 j hj (by omega), fun j hj => h2 j hj (by omega)⟩, fun _ => rfl⟩
theorem colsLoop (r : Nat) (hr : r ≤ 1000) (cols : List S39) (hc : cols.length ≤ 20) (wh : Bool) (pk : List Int) (d : Nat) : ∀ (k i : Nat), i + d = cols.length → d + 7000 < k →
    ∃ c, Qac.l0 k cols (cols.length : Int) (i : Int) r cols wh pk = some c ∧
      (c = 0 ↔ (∀ (j : Nat) (h : j < cols.length), i ≤ j → VV cols[j] r) ∧ (wh = true → pk = []) ∧ (∀ (j : Nat) (h : j < pk.length), 0 ≤ pk[j] ∧ pk[j] < r) ∧ ∀ (j : Nat) (h : j + 1 < pk.length), pk[j] < pk[j + 1]) := by
  induction d with
  | zero =>
    intro k i hi hk
    obtain ⟨k, rfl⟩ : ∃ m, k = m + 2 := ⟨k - 2, by omega⟩
    simp only [Qac.l0]
    rw [if_neg (by omega)]
    have e : (if wh = true then Qac.j1 (k + 1) (decide ((pk.length : Int) > 0)) r cols wh pk else Qac.j1 (k + 1) false r cols wh pk) = Qac.j1 (k + 1) (wh && decide ((pk.length : Int) > 0)) r cols wh pk := by
      cases wh <;> simp
    rw [e]
    simp only [Qac.j1]
    by_cases hb : (wh && decide ((pk.length : Int) > 0)) = true
    · rw [if_pos hb]
      refine ⟨3, rfl, by simp, fun h => ?_⟩
      simp only [Bool.and_eq_true, decide_eq_true_eq] at hb
      have := h.2.1 hb.1
      rw [this] at hb
      simp at hb
    · rw [if_neg hb]
      obtain ⟨c, h1, h2⟩ := pkLoop r hr cols wh pk 1001 k 0 (by omega) (by omega) (by omega) (fun j _ h => by omega) (fun j _ h => by omega) (fun j _ h => by omega)
      refine ⟨c, by exact_mod_cast h1, h2.trans ⟨fun h => ⟨fun j hj hij => by omega, fun hw => ?_, h⟩, fun h => h.2.2⟩⟩
      subst hw
      simp only [Bool.true_and, decide_eq_true_eq] at hb
      exact List.eq_nil_of_length_eq_zero (by omega)
  | succ d ih =>
    intro k i hi hk
    obtain ⟨k, rfl⟩ : ∃ m, k = m + 1 := ⟨k - 1, by omega⟩
    have hlt : i < cols.length := by omega
    have hw1 : wrap64 ((i : Int) + 1) = ((i + 1 : Nat) : Int) := by rw [w_in _ (by omega) (by omega)]; simp
    simp only [Qac.l0]
    rw [if_pos (by omega), if_pos (by omega), if_pos (by omega), rd39 _ _ hlt]
    obtain ⟨c, h1, h2⟩ := check_ev cols[i].f0 cols[i].f1 cols[i].f2 cols[i].f3 cols[i].f4 cols[i].f5 r k (by omega)
    rw [h1]
    simp only [Option.bind_some]
    by_cases h0 : c = 0
    · rw [if_pos h0, hw1]
      obtain ⟨c2, h3, h4⟩ := ih k (i + 1) (by omega) (by omega)
      refine ⟨c2, h3, h4.trans ⟨fun h => ⟨fun j hj hij => ?_, h.2⟩, fun h => ⟨fun j hj hij => h.1 j hj (by omega), h.2⟩⟩⟩
      by_cases hji : j = i
      · subst hji
        simpa using (h2.1 h0).2
      · exact h.1 j hj (by omega)
    · rw [if_neg h0]
      exact ⟨c, rfl, fun h => absurd h h0, fun h => absurd (h2.2 ⟨by omega, by simpa using h.1 i hlt (Nat.le_refl _)⟩) h0⟩
theorem batch_ev (r : Int) (cols : List S39) (wh : Bool) (pk : List Int) (k : Nat) (hk : 8000 ≤ k) :
    ∃ c, Qac.f k r cols wh pk = some c ∧ (c = 0 ↔ 0 ≤ r ∧ BatchOk r.toNat cols wh pk) := by
  unfold Qac.f
  rw [in_f]
  simp only [Option.bind_some]
  by_cases h1 : 0 ≤ r ∧ r ≤ 1000
  rotate_left
  · rw [if_neg (by simpa using h1)]
    refine ⟨1, rfl, by simp, fun h => absurd ⟨h.1, ?_⟩ h1⟩
    have := h.2.le; omega
  rw [if_pos (by simpa using h1)]
  obtain ⟨r, rfl⟩ : ∃ m : Nat, r = m := ⟨r.toNat, by omega⟩
  simp only [Int.toNat_natCast]
  by_cases h2 : cols.length ≤ 20
  rotate_left
  · rw [if_pos (by omega)]
    exact ⟨2, rfl, by simp, fun h => absurd h.2.few h2⟩
  rw [if_neg (by omega)]
  by_cases h3 : cols = []
  · subst h3
    rw [if_pos (by simp)]
    exact ⟨6, rfl, by simp, fun h => absurd rfl h.2.some_⟩
  rw [if_neg (by have := List.length_pos_iff.2 h3; omega)]
  obtain ⟨c, h4, h5⟩ := colsLoop r (by omega) cols h2 wh pk cols.length k 0 (by omega) (by omega)
  refine ⟨c, by exact_mod_cast h4, h5.trans ⟨fun h => ⟨by omega, ⟨by omega, h2, h3, fun v hv => ?_, h.2.1, h.2.2.1, h.2.2.2⟩⟩, fun h => ⟨fun j hj _ => h.2.each _ (List.getElem_mem hj), h.2.whole, h.2.inr, h.2.asc⟩⟩⟩
  obtain ⟨j, hj, rfl⟩ := List.getElem_of_mem hv
  exact h.1 j hj (Nat.zero_le _)
theorem batch_ok {r : Nat} {cols : List S39} {wh : Bool} {pk : List Int} (h : BatchOk r cols wh pk) (k : Nat) (hk : 8000 ≤ k) : Qac.f k (r : Int) cols wh pk = some 0 := by
  obtain ⟨c, h1, h2⟩ := batch_ev r cols wh pk k hk
  rw [h1, h2.2 ⟨by omega, by simpa using h⟩]
def pick (r : Nat) (wh : Bool) (pk : List Int) : List Int := if wh = true then (List.range r).map (fun i : Nat => (i : Int)) else pk
theorem pickLoop (r : Nat) (hr : r ≤ 1000) (d : Nat) : ∀ (k i : Nat), i + d = r → d < k →
    Qaw.l0 k ((List.range i).map (fun i : Nat => (i : Int))) (r : Int) (i : Int) = some ((List.range r).map (fun i : Nat => (i : Int))) := by
  induction d with
  | zero =>
    intro k i hi hk
    obtain ⟨k, rfl⟩ : ∃ m, k = m + 1 := ⟨k - 1, by omega⟩
    simp only [Qaw.l0]
    rw [if_neg (by omega), show i = r by omega]
  | succ d ih =>
    intro k i hi hk
    obtain ⟨k, rfl⟩ : ∃ m, k = m + 1 := ⟨k - 1, by omega⟩
    have hw1 : wrap64 ((i : Int) + 1) = ((i + 1 : Nat) : Int) := by rw [w_in _ (by omega) (by omega)]; simp
    have := ih k (i + 1) (by omega) (by omega)
    rw [List.range_succ, List.map_append] at this
    simp only [Qaw.l0]
    rw [if_pos (by omega), if_pos (by simp; omega), hw1]
    exact this
theorem picked_f {r : Nat} (hr : r ≤ 1000) (cols : List S39) (wh : Bool) (pk : List Int) (k : Nat) (hk : 2000 ≤ k) : Qaw.f k (r : Int) cols wh pk = some (pick r wh pk) := by
  unfold Qaw.f pick
  cases wh with
  | true => simpa using pickLoop r hr r k 0 (by omega) (by omega)
  | false => simp
section
variable {r : Nat} {cols : List S39} {ks : List Int}
end
theorem step_w (i : Nat) (h : i < 1000000) : wrap64 ((i : Int) + 1) = ((i + 1 : Nat) : Int) := by rw [w_in _ (by omega) (by omega)]; simp
section
variable {p q : Nat} {cx cy : List S39} {kx ky : List Int}
end
theorem nameLoop (s : ByteArray) (hs : s.size ≤ 32) (d : Nat) : ∀ (k i : Nat), i + d = s.size → 2 * d < k → ∃ b, Qan.l0 k s (s.size : Int) (i : Int) = some b := by
  induction d with
  | zero =>
    intro k i hi hk
    obtain ⟨k, rfl⟩ : ∃ m, k = m + 1 := ⟨k - 1, by omega⟩
    simp only [Qan.l0]
    rw [if_neg (by omega)]
    exact ⟨_, rfl⟩
  | succ d ih =>
    intro k i hi hk
    obtain ⟨k, rfl⟩ : ∃ m, k = m + 2 := ⟨k - 2, by omega⟩
    have hj : ∀ x, ∃ b, Qan.j2 (k + 1) s (s.size : Int) (i : Int) x = some b := by
      intro x
      simp only [Qan.j2]
      cases x with
      | true => exact ⟨_, by rw [if_pos rfl]⟩
      | false =>
        rw [if_neg (by simp), step_w i (by omega)]
        exact ih k (i + 1) (by omega) (by omega)
    simp only [Qan.l0]
    rw [if_pos (by omega), if_pos (by omega), if_pos (by omega)]
    repeat' split
    all_goals exact hj _
theorem name_ev (s : ByteArray) (k : Nat) (hk : 100 ≤ k) : ∃ b, Qan.f k s = some b := by
  obtain ⟨k, rfl⟩ : ∃ m, k = m + 1 := ⟨k - 1, by omega⟩
  unfold Qan.f
  split
  · simp only [Qan.j0, if_true]; exact ⟨_, rfl⟩
  · by_cases h : (s.size : Int) > 32
    · simp only [Qan.j0, h, decide_true, if_true]; exact ⟨_, rfl⟩
    · simp only [Qan.j0, h, decide_false, Bool.false_eq_true, if_false]
      exact nameLoop s (by omega) s.size k 0 (by omega) (by omega)
theorem colsIn (c : List S86) (hc : c.length ≤ 20) (y : List S86) (hy : y.length ≤ 20) (i : Nat) (s : ByteArray) (t : Int) (kk : Nat) (hnext : ∃ r, Qad.l0 kk c c (c.length : Int) (wrap64 ((i : Int) + 1)) = some r) (d : Nat) : ∀ j, j + d = y.length →
    ∃ r, Qad.l1 (kk + d + 1) c c (c.length : Int) (i : Int) y (y.length : Int) (j : Int) s t = some r := by
  induction d with
  | zero =>
    intro j hj
    simp only [Qad.l1]
    rw [if_neg (by omega), in_f]
    simp only [Option.bind_some]
    split
    · exact hnext
    · exact ⟨_, rfl⟩
  | succ d ih =>
    intro j hj
    rw [show kk + (d + 1) + 1 = (kk + d + 1) + 1 by omega]
    simp only [Qad.l1]
    rw [if_pos (by omega), if_pos (by omega), if_pos (by omega)]
    split
    · exact ⟨_, rfl⟩
    · rw [step_w j (by omega)]
      exact ih (j + 1) (by omega)
theorem colsOut (c : List S86) (hc : c.length ≤ 20) (d : Nat) : ∀ (k i : Nat), i + d = c.length → 100 + 30 * d < k → ∃ r, Qad.l0 k c c (c.length : Int) (i : Int) = some r := by
  induction d with
  | zero =>
    intro k i hi hk
    obtain ⟨k, rfl⟩ : ∃ m, k = m + 1 := ⟨k - 1, by omega⟩
    simp only [Qad.l0]
    rw [if_neg (by omega)]
    exact ⟨_, rfl⟩
  | succ d ih =>
    intro k i hi hk
    obtain ⟨k, rfl⟩ : ∃ m, k = m + 1 := ⟨k - 1, by omega⟩
    simp only [Qad.l0]
    rw [if_pos (by omega), if_pos (by omega), if_pos (by omega)]
    obtain ⟨b, hb⟩ := name_ev (rd_T86 c (i : Int)).f0 k (by omega)
    rw [hb]
    simp only [Option.bind_some]
    split
    · rw [if_pos (by omega)]
      have hyl : (c.take (i : Int).toNat).length = i := by simp; omega
      have hn := ih (k - i - 1) (i + 1) (by omega) (by omega)
      rw [← step_w i (by omega)] at hn
      have := colsIn c hc (c.take (i : Int).toNat) (by omega) i (rd_T86 c (i : Int)).f0 (rd_T86 c (i : Int)).f1 (k - i - 1) hn i 0 (by omega)
      rwa [show k - i - 1 + i + 1 = k by omega] at this
    · exact ⟨_, rfl⟩
theorem columns_ev (c : List S86) (k : Nat) (hk : 1000 ≤ k) : ∃ t, Qad.f k c = some t ∧ (t = 0 → c.length ≤ 20) := by
  unfold Qad.f
  by_cases h : c.length ≤ 20
  · rw [if_neg (by omega)]
    split
    · exact ⟨_, rfl, fun _ => h⟩
    · obtain ⟨r, hr⟩ := colsOut c h c.length k 0 (by omega) (by omega)
      exact ⟨r, hr, fun _ => h⟩
  · rw [if_pos (by omega)]
    exact ⟨2, rfl, fun h => by cases h⟩
section
variable {r : Nat} {cols : List S39} {wh : Bool} {pk : List Int}
def fitK (c : List S86) (kinds : List Int) : Nat → Nat → Int
  | 0, _ => 0
  | d + 1, i => if kinds.getD i 0 = (rd_T86 c (i : Int)).f1 then fitK c kinds d (i + 1) else 10
theorem fitLoop (c : List S86) (hc : c.length = cols.length) (hf : cols.length ≤ 20) (r : Int) (wh : Bool) (pk : List Int) (kk : Nat) (d : Nat) : ∀ i, i + d = c.length →
    Qas.l0 (kk + d + 1) c (c.length : Int) (i : Int) r cols wh pk = some (fitK c (cols.map (·.f0)) d i) := by
  induction d with
  | zero =>
    intro i hi
    simp only [Qas.l0]
    rw [if_neg (by omega)]
    rfl
  | succ d ih =>
    intro i hi
    have hlt : i < cols.length := by omega
    rw [show kk + (d + 1) + 1 = (kk + d + 1) + 1 by omega]
    simp only [Qas.l0]
    rw [if_pos (by omega), if_pos (by omega), if_pos (by omega), if_pos (by omega), rd39 _ _ hlt]
    have e : (cols.map (·.f0)).getD i 0 = cols[i].f0 := by simp [List.getD_eq_getElem?_getD, hlt]
    unfold fitK
    rw [e, step_w i (by omega)]
    split
    · exact ih (i + 1) (by omega)
    · rfl
theorem fits_f (h : BatchOk r cols wh pk) (c : List S86) (t : Int) (k : Nat) (hk : 9000 ≤ k) (ht : Qad.f k c = some t) :
    Qas.f k c (r : Int) cols wh pk = some (if t = 0 then (if c.length = (cols.map (·.f0)).length then fitK c (cols.map (·.f0)) c.length 0 else 3) else t) := by
  have hf := h.few
  unfold Qas.f
  rw [batch_ok h k (by omega)]
  simp only [Option.bind_some, if_true]
  rw [ht]
  simp only [Option.bind_some]
  split
  · by_cases hl : c.length = cols.length
    · rw [if_pos (by omega), if_pos (by simpa using hl)]
      have := fitLoop (cols := cols) c hl hf (r : Int) wh pk (k - c.length - 1) c.length 0 (by omega)
      rwa [show k - c.length - 1 + c.length + 1 = k by omega] at this
    · rw [if_neg (by omega), if_neg (by simpa using hl)]
  · rfl
end
end Go.Proofs.Ytphnmaobpefoiaa.XW
end
section
namespace Go.Proofs.Ytphnmaobpefoiaa.XW
open Go.RowKit Go.Proofs.YtphnmaobpefoiaaXW Go.Proofs.YtphnmaobpefoiaaW.PrintWords Go.Proofs.YtphnmaobpefoiaaW.PrintLast Go.Proofs.YtphnmaobpefoiaaW.PrintMore
attribute [local go_sem] max2_int min2_int max_two min_two max_three min_three max_four min_four sleq
set_option linter.unusedVariables false
set_option linter.unusedSimpArgs false
theorem ownb26 (A : Option Addr) (n c m d : Nat) : (Value.slice A n c).ownBlock = (Value.slice A m d).ownBlock := by cases A <;> rfl
def Qaq.l0 : Nat → List Int → List Int → List (S64) → Int → Int → Option (List Int)
 | 0, _, _, _, _, _ => none
 | k + 1, x3, x4, x10, x11, x12 => if x12 < x11 then (if 0 ≤ x12 then (if x12 < (x10.length : Int) then ((Qao.f k ((rd_T64 x10 x12).f0) ((rd_T64 x10 x12).f1) ((rd_T64 x10 x12).f2.f0) ((rd_T64 x10 x12).f2.f1) ((rd_T64 x10 x12).f2.f2)).bind fun q3 => (if (wrap64 ((x4.length : Int) - q3)) < (x4.length : Int) then (if 0 ≤ (wrap64 ((x4.length : Int) - q3)) then (if (wrap64 ((x4.length : Int) - q3)) ≤ (x4.length : Int) then ((some (x4.take ((wrap64 ((x4.length : Int) - q3)) : Int).toNat : List Int)).bind fun y218 => (if y218.length < 17592186044416 then (if x3.length < 17592186044416 then (Qaq.l0 k (x3 ++ [rd x4 (wrap64 ((x4.length : Int) - q3))]) (y218 ++ [rd x4 (wrap64 ((x4.length : Int) - q3))]) x10 x11 (wrap64 (x12 + 1))) else (none)) else (none))) else (none)) else (none)) else (if 0 ≤ (wrap64 ((x4.length : Int) - q3)) then (if (wrap64 ((x4.length : Int) - q3)) ≤ (x4.length : Int) then ((some (x4.take ((wrap64 ((x4.length : Int) - q3)) : Int).toNat : List Int)).bind fun y227 => (if y227.length < 17592186044416 then (if x3.length < 17592186044416 then (Qaq.l0 k (x3 ++ [x12]) (y227 ++ [x12]) x10 x11 (wrap64 (x12 + 1))) else (none)) else (none))) else (none)) else (none)))) else (none)) else (none)) else (some x3)
def Qaq.f (k : Nat) (q0 : List (S64)) : Option (List Int) := Qaq.l0 k ([] : List Int) ([] : List Int) q0 (q0.length : Int) 0
theorem Qaq.mono_l : ∀ k, (∀ y0 y1 y2 y3 y4, LeO (Qaq.l0 k y0 y1 y2 y3 y4) (Qaq.l0 (k + 1) y0 y1 y2 y3 y4))
 | 0 => fun _ _ _ _ _ r h => by simp [Qaq.l0] at h
 | k + 1 => by
  have ih0 := Qaq.mono_l k
  ·
   intro y0 y1 y2 y3 y4
   unfold Qaq.l0
   repeat' first
   | (with_reducible exact ih0 _ _ _ _ _)
   | (with_reducible exact Qao.mono _ _ _ _ _ _)
   | (with_reducible exact LeO.refl _)
   | (with_reducible exact LeO.none _)
   | (with_reducible refine LeO.ite ?_ ?_)
   | (with_reducible refine LeO.bind ?_ (fun _ => ?_))
   | exact ih0 _ _ _ _ _
   | exact Qao.mono _ _ _ _ _ _
   | exact LeO.none _
   | refine LeO.ite ?_ ?_
   | refine LeO.bind ?_ (fun _ => ?_)
theorem Qaq.mono : ∀ a0 k, LeO (Qaq.f k a0) (Qaq.f (k + 1) a0) := by
 intro a0 k
 have ih0 := Qaq.mono_l k
 unfold Qaq.f
 repeat' first
   | (with_reducible exact ih0 _ _ _ _ _)
   | (with_reducible exact Qao.mono _ _ _ _ _ _)
   | (with_reducible exact LeO.refl _)
   | (with_reducible exact LeO.none _)
   | (with_reducible refine LeO.ite ?_ ?_)
   | (with_reducible refine LeO.bind ?_ (fun _ => ?_))
   | exact ih0 _ _ _ _ _
   | exact Qao.mono _ _ _ _ _ _
   | exact LeO.none _
   | refine LeO.ite ?_ ?_
   | refine LeO.bind ?_ (fun _ => ?_)
set_option maxHeartbeats 8000000 in
set_option maxRecDepth 100000 in
theorem Qaq.calls (k : Nat) (z2 : Option Addr) (z3 : Nat) (q0 : List (S64)) (r : List Int) (w : World) (z6 : Kd.C k64 w z2 q0.length q0) (z7 : q0.length ≤ z3) (h : Qaq.f k q0 = some r) :
  Calls Try.prog 18 #[.agg #[.slice z2 q0.length z3]] w fun e w' => ∃ v0_ : Value, e = .returned (v0_) ∧ Kd.R (Kd.int .i64) 3 w' w.heap.size (fun _ => True) v0_ r ∧ Below w.heap.size w w' := by
 have hu34 := Try.underlying34
 have hu64 := Try.underlying64
 have z8 := Qaa.mk z6
 have Qr := Qaa.mk z7
 clear z6 z7
 have HB := Qaa.mk (Below.refl w.heap.size w)
 have H : (Qaq.l0 k ([] : List Int) ([] : List Int) q0 (q0.length : Int) 0) = some r := h
 clear h
 have H' := Qaa.mk H
 clear H
 go_enter Try.func18, Try.ntmps18
 go_wp2_with (first | ((with_reducible refine gate_dst (N := 1) rfl ?_); refine bx 1 #[.slice z2 q0.length z3] 34 ?_; intro j4 hg w2 hbox hb; have q1 := Qaa.mk (hbox); have Qs := Qaa.mk ((by rw [hg]; exact (below_size (bl HB)) : w.heap.size ≤ j4)); have Qt := Qaa.mk ((by rw [hg]; exact (below_size (bl HB)) : w.heap.size ≤ j4)); replace HB := bs HB hb; clear hb hbox hg; have z9 : w2.cell? ⟨j4, 0, none⟩ = some (.slice z2 q0.length z3) := (blk_cell q1.out 0).trans rfl; have y5 := blk_frozen q1.out 0))
 go_loopg [3, 4, 12] k (fun kq v3 v4 v12 w' => ∃ (x3_1 : List Int) (x4_1 : List Int) (x12_1 : Int), v12 = .int .i64 x12_1 ∧ Qaa (Qaq.l0 kq x3_1 x4_1 q0 (q0.length : Int) x12_1 = some r) ∧ Qaa (kq ≤ k) ∧ Qaa (Kd.R (Kd.int .i64) 3 w' w.heap.size (fun k_ => some k_ ≠ (v4 : Value).ownBlock) v3 x3_1) ∧ Qaa (Kd.R (Kd.int .i64) 3 w' w.heap.size (fun k_ => some k_ ≠ (v3 : Value).ownBlock) v4 x4_1) ∧ Qaa (w'.heap[j4]? = some (.cells #[(.slice z2 q0.length z3)] 34 (0, 0))) ∧ Qaa (Below w.heap.size w w'))
 case atStart => exact ⟨(([] : List Int)), (([] : List Int)), (0), (by first | rfl | (simp; done) | (simp [*]; done)), H', ⟨Nat.le_refl _⟩, ⟨by first | exact Kd.R_nil _ _ _ _ _ | exact Kd.N_nil _ _ _ _ _ | exact Kd.V_nil _ _ _ _ _ | exact Kd.Q_nil _ _ _ _ _ | exact Kd.S_nil _ _ _ _ _⟩, ⟨by first | exact Kd.R_nil _ _ _ _ _ | exact Kd.N_nil _ _ _ _ _ | exact Kd.V_nil _ _ _ _ _ | exact Kd.Q_nil _ _ _ _ _ | exact Kd.S_nil _ _ _ _ _⟩, ⟨by apply blk_u; exact q1.out⟩, ⟨bl HB⟩⟩
 case round =>
  clear H'
  try clear c1
  try clear p2
  try clear z9
  try clear y5
  obtain ⟨x3_1, x4_1, x12_1, rfl, HA, HK1, q4, q6, q1, HB⟩ := hrel
  cases gk with
  | zero => exact absurd HA.out (by simp [Qaq.l0])
  | succ k1 =>
   have H := HA.out
   clear HA
   simp only [Qaq.l0] at H
   by_cases c4 : x12_1 < (q0.length : Int)
   ·
    rw [if_pos c4] at H
    have Q3 : decide (x12_1 < (q0.length : Int)) = true := decide_eq_true c4
    clear c4
    by_cases c5 : 0 ≤ x12_1
    ·
     rw [if_pos c5] at H
     have Z5 : decide (0 ≤ x12_1) = true := decide_eq_true c5
     clear c5
     by_cases c6 : x12_1 < (q0.length : Int)
     ·
      rw [if_pos c6] at H
      have Z6 : decide (x12_1 < (q0.length : Int)) = true := decide_eq_true c6
      clear c6
      replace H := Option.bind_eq_some_iff.mp H
      obtain ⟨q3, A70, H⟩ := H
      replace H : (if (wrap64 ((x4_1.length : Int) - q3)) < (x4_1.length : Int) then (if 0 ≤ (wrap64 ((x4_1.length : Int) - q3)) then (if (wrap64 ((x4_1.length : Int) - q3)) ≤ (x4_1.length : Int) then ((some (x4_1.take ((wrap64 ((x4_1.length : Int) - q3)) : Int).toNat : List Int)).bind fun y218 => (if y218.length < 17592186044416 then (if x3_1.length < 17592186044416 then (Qaq.l0 k1 (x3_1 ++ [rd x4_1 (wrap64 ((x4_1.length : Int) - q3))]) (y218 ++ [rd x4_1 (wrap64 ((x4_1.length : Int) - q3))]) q0 (q0.length : Int) (wrap64 (x12_1 + 1))) else (none)) else (none))) else (none)) else (none)) else (if 0 ≤ (wrap64 ((x4_1.length : Int) - q3)) then (if (wrap64 ((x4_1.length : Int) - q3)) ≤ (x4_1.length : Int) then ((some (x4_1.take ((wrap64 ((x4_1.length : Int) - q3)) : Int).toNat : List Int)).bind fun y227 => (if y227.length < 17592186044416 then (if x3_1.length < 17592186044416 then (Qaq.l0 k1 (x3_1 ++ [x12_1]) (y227 ++ [x12_1]) q0 (q0.length : Int) (wrap64 (x12_1 + 1))) else (none)) else (none))) else (none)) else (none))) = some r := H
      have A7 := Qaa.mk A70
      clear A70
      by_cases c8 : (wrap64 ((x4_1.length : Int) - q3)) < (x4_1.length : Int)
      ·
       rw [if_pos c8] at H
       have z5 : decide ((wrap64 ((x4_1.length : Int) - q3)) < (x4_1.length : Int)) = true := decide_eq_true c8
       clear c8
       obtain ⟨q5, z4⟩ : ∃ j_ : Int, (wrap64 ((x4_1.length : Int) - q3)) = j_ := ⟨_, rfl⟩
       replace H : (if 0 ≤ (q5) then (if (q5) ≤ (x4_1.length : Int) then ((some (x4_1.take ((q5) : Int).toNat : List Int)).bind fun y218 => (if y218.length < 17592186044416 then (if x3_1.length < 17592186044416 then (Qaq.l0 k1 (x3_1 ++ [rd x4_1 (q5)]) (y218 ++ [rd x4_1 (q5)]) q0 (q0.length : Int) (wrap64 (x12_1 + 1))) else (none)) else (none))) else (none)) else (none)) = some r := by first | (rw [z4] at H; exact H) | (simp only [z4] at H ⊢; exact H)
       (try rw [z4] at z5)
       (try rw [z4] at A7)
       have hji9w : (IntKind.i64.wrap ((x4_1.length : Int) - q3)) = q5 := (i64_w _).trans z4
       by_cases c10 : 0 ≤ (q5)
       ·
        rw [if_pos c10] at H
        have Qu : decide (0 ≤ (q5)) = true := decide_eq_true c10
        clear c10
        by_cases c11 : (q5) ≤ (x4_1.length : Int)
        ·
         rw [if_pos c11] at H
         have Qv := eq_true c11
         have Qw : decide ((q5) ≤ (x4_1.length : Int)) = true := decide_eq_true c11
         clear c11
         obtain ⟨y218, hy218⟩ : ∃ y_ : List Int, y_ = (x4_1.take ((q5) : Int).toNat) := ⟨_, rfl⟩
         replace H : (if y218.length < 17592186044416 then (if x3_1.length < 17592186044416 then (Qaq.l0 k1 (x3_1 ++ [rd x4_1 (q5)]) (y218 ++ [rd x4_1 (q5)]) q0 (q0.length : Int) (wrap64 (x12_1 + 1))) else (none)) else (none)) = some r := by first | (rw [hy218]; with_reducible exact H) | (have H2_ := (Option.bind_some _ _).symm.trans H; rw [hy218]; with_reducible exact H2_) | (have H2_ := (Option.bind_some _ _).symm.trans H; with_reducible exact H2_) | with_reducible exact H | (rw [hy218]; exact H) | exact H
         have Ny218 := Qaa.mk hy218
         clear hy218
         by_cases c12 : y218.length < 17592186044416
         ·
          rw [if_pos c12] at H
          have LMc12 := Qaa.mk c12
          clear c12
          obtain ⟨y221, hy221⟩ : ∃ y_ : List Int, y_ = (y218 ++ [rd x4_1 (q5)]) := ⟨_, rfl⟩
          replace H : (if x3_1.length < 17592186044416 then (Qaq.l0 k1 (x3_1 ++ [rd x4_1 (q5)]) y221 q0 (q0.length : Int) (wrap64 (x12_1 + 1))) else (none)) = some r := by first | (rw [hy221]; with_reducible exact H) | (have H2_ := (Option.bind_some _ _).symm.trans H; rw [hy221]; with_reducible exact H2_) | (have H2_ := (Option.bind_some _ _).symm.trans H; with_reducible exact H2_) | with_reducible exact H | (rw [hy221]; exact H) | exact H
          have Ny221 := Qaa.mk hy221
          clear hy221
          by_cases c13 : x3_1.length < 17592186044416
          ·
           rw [if_pos c13] at H
           have LMc13 := Qaa.mk c13
           clear c13
           obtain ⟨y224, hy224⟩ : ∃ y_ : List Int, y_ = (x3_1 ++ [rd x4_1 (q5)]) := ⟨_, rfl⟩
           replace H : (Qaq.l0 k1 y224 y221 q0 (q0.length : Int) (wrap64 (x12_1 + 1))) = some r := by first | (rw [hy224]; with_reducible exact H) | (have H2_ := (Option.bind_some _ _).symm.trans H; rw [hy224]; with_reducible exact H2_) | (have H2_ := (Option.bind_some _ _).symm.trans H; with_reducible exact H2_) | with_reducible exact H | (rw [hy224]; exact H) | exact H
           have Ny224 := Qaa.mk hy224
           clear hy224
           have H' := Qaa.mk H
           clear H
           have p214 : 0 ≤ (x12_1 : Int) := of_decide_eq_true (by first | (with_reducible assumption) | assumption)
           have q214 : x12_1 < (q0.length : Int) := of_decide_eq_true (by first | (with_reducible assumption) | assumption)
           obtain ⟨ad214, e214, q8, q9, j0, j1, j2⟩ := at_T64 z8.out x12_1 p214 q214
           cases e214
           replace q8 := (HB.out.cell (World.block_lt_of_cell? w _ q8)).trans q8
           replace q9 := (HB.out.cell (World.block_lt_of_cell? w _ q9)).trans q9
           replace j0 := (HB.out.cell (World.block_lt_of_cell? w _ j0)).trans j0
           replace j1 := (HB.out.cell (World.block_lt_of_cell? w _ j1)).trans j1
           replace j2 := (HB.out.cell (World.block_lt_of_cell? w _ j2)).trans j2
           replace p214 := eq_true p214
           replace q214 := eq_true q214
           go_wp2_with (first | ((with_reducible refine gate_dst (N := 6) rfl ?_); refine bx 6 #[.int .i64 0, .int .i64 0, .int .i64 0, .int .i64 0, .string (⟨#[]⟩ : ByteArray)] 64 ?_; intro q7 hg w14 hbox hb; have q2 := Qaa.mk (hbox); have y9 := Qaa.mk ((by rw [hg]; exact (below_size (bl HB)) : w.heap.size ≤ q7)); have Q0 := Qaa.mk ((by rw [hg]; exact (below_size (bl HB)) : w.heap.size ≤ q7)); have j5 := Qaa.mk ((by rw [hg]; exact Nat.ne_of_lt (blk_lt (Ub q1)) : j4 ≠ q7)); have j6 := Qaa.mk ((by rw [hg]; exact Nat.ne_of_gt (blk_lt (Ub q1)) : q7 ≠ j4)); replace q4 := Rb q4 hb; replace q6 := Rb q6 hb; replace q1 := Bb q1 hb; replace HB := bs HB hb; clear hb hbox hg; have Qx := j6.out; have Qy := j5.out; obtain ⟨Q6, Q7, Q8, Q9, Qa, Qb, Qc, Qd, Qe, Qf⟩ := cf5 q2; obtain ⟨Z7, y6, eo17⟩ := Kd.R_slice q6.out; subst eo17) | ((with_reducible refine gate_callee (f := 43) rfl ?_); refine gL (some 20) Try.func43 #[.agg #[.int .i64 ((rd_T64 q0 x12_1).f0), .int .i64 ((rd_T64 q0 x12_1).f1), .int .i64 ((rd_T64 q0 x12_1).f2.f0), .int .i64 ((rd_T64 q0 x12_1).f2.f1), .string ((rd_T64 q0 x12_1).f2.f2)]] ?_; (with_reducible refine (Qao.calls k1 ((rd_T64 q0 x12_1).f0) ((rd_T64 q0 x12_1).f1) ((rd_T64 q0 x12_1).f2.f0) ((rd_T64 q0 x12_1).f2.f1) ((rd_T64 q0 x12_1).f2.f2) q3 _ A7.out).mono ?_); rintro e w18 ⟨rfl, hb⟩; refine ⟨_, rfl, ?_⟩; replace q4 := Qaa.mk (Kd.R_below (Rf q4 q2) hb); replace q6 := Qaa.mk (Kd.R_below (Rf q6 q2) hb); replace q1 := Bb q1 hb; replace q2 := Qaa.mk (blk_below (g := q7) (o := .cells #[.int .i64 ((rd_T64 q0 x12_1).f0), .int .i64 ((rd_T64 q0 x12_1).f1), .int .i64 ((rd_T64 q0 x12_1).f2.f0), .int .i64 ((rd_T64 q0 x12_1).f2.f1), .string ((rd_T64 q0 x12_1).f2.f2)] 64 (0, 0)) (by apply blk_u; refine blk_put (cs := #[.int .i64 ((rd_T64 q0 x12_1).f0), .int .i64 ((rd_T64 q0 x12_1).f1), .int .i64 ((rd_T64 q0 x12_1).f2.f0), .int .i64 ((rd_T64 q0 x12_1).f2.f1), .string (⟨#[]⟩ : ByteArray)]) ?_ 4 _ rfl; apply blk_u; refine blk_put (cs := #[.int .i64 ((rd_T64 q0 x12_1).f0), .int .i64 ((rd_T64 q0 x12_1).f1), .int .i64 ((rd_T64 q0 x12_1).f2.f0), .int .i64 0, .string (⟨#[]⟩ : ByteArray)]) ?_ 3 _ rfl; apply blk_u; refine blk_put (cs := #[.int .i64 ((rd_T64 q0 x12_1).f0), .int .i64 ((rd_T64 q0 x12_1).f1), .int .i64 0, .int .i64 0, .string (⟨#[]⟩ : ByteArray)]) ?_ 2 _ rfl; apply blk_u; refine blk_put (cs := #[.int .i64 ((rd_T64 q0 x12_1).f0), .int .i64 0, .int .i64 0, .int .i64 0, .string (⟨#[]⟩ : ByteArray)]) ?_ 1 _ rfl; apply blk_u; refine blk_put (cs := #[.int .i64 0, .int .i64 0, .int .i64 0, .int .i64 0, .string (⟨#[]⟩ : ByteArray)]) ?_ 0 _ rfl; apply blk_u; exact q2.out) hb); replace HB := bs HB hb; (try clear hb); have p217 : 0 ≤ ((q5) : Int) := of_decide_eq_true (by first | (with_reducible assumption) | assumption); have q217 : (q5) < (x4_1.length : Int) := of_decide_eq_true (by first | (with_reducible assumption) | assumption); obtain ⟨ad217, e217, Qg⟩ := Kd.at_int (Kd.R_reads' q6.out).2.2 (q5) p217 q217; cases e217; replace p217 := eq_true p217; replace q217 := eq_true q217; have q19 : ((q5) : Int) ≤ ((x4_1.length : Int) : Int) := of_decide_eq_true (by first | (with_reducible assumption) | assumption); obtain ⟨i019, hi019, _, hsz19, _⟩ := info_parts info3; have hcut19 := cut_to (P := Try.prog) 24 3 .i64 Try.underlying24 hi019 (some ad217) x4_1.length y6 (q5) (of_decide_eq_true (by first | (with_reducible assumption) | assumption)) q19 (Kd.R_reads' q6.out).2.1; have hr19 := Kd.R_take (m := ((q5) : Int).toNat) q6.out (by omega); have hy19 : y218.length = ((q5) : Int).toNat := (by rw [Ny218.out, List.length_take]; omega); rw [← Ny218.out] at hr19; rw [← hy19] at hr19 hcut19; clear hy19 hi019 hsz19 q6; have j8 := Qaa.mk hr19; clear hr19; replace q19 := eq_true q19) | ((with_reducible refine gate_builtin (b := .append) (xs := #[.tmp 33, .tmp 35]) rfl ?_); at_builtin; refine Kd.R_append (Kd.int .i64) (w0 := w) w.heap.size rfl (.tmp 33) (.tmp 35) 24 3 (.int .i64 0) 8 rfl Try.underlying24 info3 rfl (by decide) (by omega) (.slice (some ad217) y218.length y6) y218 (rd x4_1 (q5)) [.int .i64 (rd x4_1 (q5))] (fun k_ => some k_ ≠ (u3 : Value).ownBlock) (fun _ => False) rfl rfl ?aP (fun _ hk => hk.elim) ?aF ?aO ?aB ?aS ?aL ?_; (case aP => exact rfl); (case aB => exact (bl HB)); (case aF => exact (fun k_ hk => Kd.fresh' (Kd.R_lt (R_u q4.out)) k_ hk)); (case aO => exact (R_u j8.out)); (case aS => exact (below_size (bl HB))); (case aL => have := LMc12.out; omega); intro Q4 w20 ho hb hg hat; rw [← Ny221.out] at ho; have j9 := Qaa.mk (ho); replace q4 := Qaa.mk (Kd.R_after (ok := (fun _ => True)) (by apply R_u; exact Kd.R_mono q4.out (fun _ hk => ⟨trivial, by first | exact hk | exact fun e => hk (e.trans (ownb26 _ _ _ _ _))⟩)) hg hat); replace q1 := Qaa.mk (blk_grown (Ub q1) hg (Kd.R_ne j8.out q1.out (by decide))); replace q2 := Qaa.mk (blk_grown (Ub q2) hg (Kd.R_ne j8.out q2.out (by decide))); replace HB := Qaa.mk (hb); clear j8; clear ho hb hg hat) | ((with_reducible refine gate_builtin (b := .append) (xs := #[.tmp 37, .tmp 39]) rfl ?_); at_builtin; refine Kd.R_append (Kd.int .i64) (w0 := w) w.heap.size rfl (.tmp 37) (.tmp 39) 24 3 (.int .i64 0) 8 rfl Try.underlying24 info3 rfl (by decide) (by omega) u3 x3_1 (rd x4_1 (q5)) [.int .i64 (rd x4_1 (q5))] (fun k_ => some k_ ≠ (Q4 : Value).ownBlock) (fun _ => False) rfl rfl ?aP (fun _ hk => hk.elim) ?aF ?aO ?aB ?aS ?aL ?_; (case aP => exact rfl); (case aB => exact (bl HB)); (case aF => exact (fun k_ hk => Kd.fresh' (Kd.R_lt (R_u j9.out)) k_ hk)); (case aO => exact (by apply R_u; exact Kd.R_mono q4.out (fun _ hk => hk.2))); (case aS => exact (below_size (bl HB))); (case aL => have := LMc13.out; omega); intro Z8 w21 ho hb hg hat; rw [← Ny224.out] at ho; have Q1 := Qaa.mk (ho); replace q1 := Qaa.mk (blk_grown (Ub q1) hg (Kd.R_ne q4.out q1.out (by decide))); replace q2 := Qaa.mk (blk_grown (Ub q2) hg (Kd.R_ne q4.out q2.out (by decide))); replace j9 := Qaa.mk (Kd.R_after (ok := (fun _ => True)) (by apply R_u; exact Kd.R_mono j9.out (fun _ hk => ⟨trivial, by first | exact hk | exact fun e => hk (e.trans (ownb26 _ _ _ _ _))⟩)) hg hat); replace HB := Qaa.mk (hb); clear q4; clear ho hb hg hat))
           go_roundg k1
           case measure => have := HK1.out; omega
           case rel => exact ⟨(y224), (y221), (wrap64 (x12_1 + 1)), (by first | rfl | (simp; done) | (simp [*]; done)), H', ⟨by have := HK1.out; omega⟩, ⟨by apply R_u; exact Q1.out⟩, ⟨by apply R_u; exact Kd.R_mono j9.out (fun _ hk => hk.2)⟩, ⟨by apply blk_u; exact q1.out⟩, ⟨bl HB⟩⟩
          ·
           rw [if_neg c13] at H
           exact absurd H (by simp)
         ·
          rw [if_neg c12] at H
          exact absurd H (by simp)
        ·
         rw [if_neg c11] at H
         exact absurd H (by simp)
       ·
        rw [if_neg c10] at H
        exact absurd H (by simp)
      ·
       rw [if_neg c8] at H
       have z5 : decide ((wrap64 ((x4_1.length : Int) - q3)) < (x4_1.length : Int)) = false := decide_eq_false c8
       clear c8
       obtain ⟨j3, j7⟩ : ∃ j_ : Int, (wrap64 ((x4_1.length : Int) - q3)) = j_ := ⟨_, rfl⟩
       replace H : (if 0 ≤ (j3) then (if (j3) ≤ (x4_1.length : Int) then ((some (x4_1.take ((j3) : Int).toNat : List Int)).bind fun y227 => (if y227.length < 17592186044416 then (if x3_1.length < 17592186044416 then (Qaq.l0 k1 (x3_1 ++ [x12_1]) (y227 ++ [x12_1]) q0 (q0.length : Int) (wrap64 (x12_1 + 1))) else (none)) else (none))) else (none)) else (none)) = some r := by first | (rw [j7] at H; exact H) | (simp only [j7] at H ⊢; exact H)
       (try rw [j7] at z5)
       (try rw [j7] at A7)
       have hji22w : (IntKind.i64.wrap ((x4_1.length : Int) - q3)) = j3 := (i64_w _).trans j7
       by_cases c23 : 0 ≤ (j3)
       ·
        rw [if_pos c23] at H
        have Qz := eq_true c23
        have Z0 : decide (0 ≤ (j3)) = true := decide_eq_true c23
        clear c23
        by_cases c24 : (j3) ≤ (x4_1.length : Int)
        ·
         rw [if_pos c24] at H
         have Z1 := eq_true c24
         have Z2 : decide ((j3) ≤ (x4_1.length : Int)) = true := decide_eq_true c24
         clear c24
         obtain ⟨y227, hy227⟩ : ∃ y_ : List Int, y_ = (x4_1.take ((j3) : Int).toNat) := ⟨_, rfl⟩
         replace H : (if y227.length < 17592186044416 then (if x3_1.length < 17592186044416 then (Qaq.l0 k1 (x3_1 ++ [x12_1]) (y227 ++ [x12_1]) q0 (q0.length : Int) (wrap64 (x12_1 + 1))) else (none)) else (none)) = some r := by first | (rw [hy227]; with_reducible exact H) | (have H2_ := (Option.bind_some _ _).symm.trans H; rw [hy227]; with_reducible exact H2_) | (have H2_ := (Option.bind_some _ _).symm.trans H; with_reducible exact H2_) | with_reducible exact H | (rw [hy227]; exact H) | exact H
         have Ny227 := Qaa.mk hy227
         clear hy227
         by_cases c25 : y227.length < 17592186044416
         ·
          rw [if_pos c25] at H
          have LMc25 := Qaa.mk c25
          clear c25
          obtain ⟨y230, hy230⟩ : ∃ y_ : List Int, y_ = (y227 ++ [x12_1]) := ⟨_, rfl⟩
          replace H : (if x3_1.length < 17592186044416 then (Qaq.l0 k1 (x3_1 ++ [x12_1]) y230 q0 (q0.length : Int) (wrap64 (x12_1 + 1))) else (none)) = some r := by first | (rw [hy230]; with_reducible exact H) | (have H2_ := (Option.bind_some _ _).symm.trans H; rw [hy230]; with_reducible exact H2_) | (have H2_ := (Option.bind_some _ _).symm.trans H; with_reducible exact H2_) | with_reducible exact H | (rw [hy230]; exact H) | exact H
          have Ny230 := Qaa.mk hy230
          clear hy230
          by_cases c26 : x3_1.length < 17592186044416
          ·
           rw [if_pos c26] at H
           have LMc26 := Qaa.mk c26
           clear c26
           obtain ⟨y233, hy233⟩ : ∃ y_ : List Int, y_ = (x3_1 ++ [x12_1]) := ⟨_, rfl⟩
           replace H : (Qaq.l0 k1 y233 y230 q0 (q0.length : Int) (wrap64 (x12_1 + 1))) = some r := by first | (rw [hy233]; with_reducible exact H) | (have H2_ := (Option.bind_some _ _).symm.trans H; rw [hy233]; with_reducible exact H2_) | (have H2_ := (Option.bind_some _ _).symm.trans H; with_reducible exact H2_) | with_reducible exact H | (rw [hy233]; exact H) | exact H
           have Ny233 := Qaa.mk hy233
           clear hy233
           have H' := Qaa.mk H
           clear H
           have p214 : 0 ≤ (x12_1 : Int) := of_decide_eq_true (by first | (with_reducible assumption) | assumption)
           have q214 : x12_1 < (q0.length : Int) := of_decide_eq_true (by first | (with_reducible assumption) | assumption)
           obtain ⟨ad214, e214, q8, q9, j0, j1, j2⟩ := at_T64 z8.out x12_1 p214 q214
           cases e214
           replace q8 := (HB.out.cell (World.block_lt_of_cell? w _ q8)).trans q8
           replace q9 := (HB.out.cell (World.block_lt_of_cell? w _ q9)).trans q9
           replace j0 := (HB.out.cell (World.block_lt_of_cell? w _ j0)).trans j0
           replace j1 := (HB.out.cell (World.block_lt_of_cell? w _ j1)).trans j1
           replace j2 := (HB.out.cell (World.block_lt_of_cell? w _ j2)).trans j2
           replace p214 := eq_true p214
           replace q214 := eq_true q214
           go_wp2_with (first | ((with_reducible refine gate_dst (N := 6) rfl ?_); refine bx 6 #[.int .i64 0, .int .i64 0, .int .i64 0, .int .i64 0, .string (⟨#[]⟩ : ByteArray)] 64 ?_; intro q7 hg w27 hbox hb; have q2 := Qaa.mk (hbox); have y9 := Qaa.mk ((by rw [hg]; exact (below_size (bl HB)) : w.heap.size ≤ q7)); have Q0 := Qaa.mk ((by rw [hg]; exact (below_size (bl HB)) : w.heap.size ≤ q7)); have j5 := Qaa.mk ((by rw [hg]; exact Nat.ne_of_lt (blk_lt (Ub q1)) : j4 ≠ q7)); have j6 := Qaa.mk ((by rw [hg]; exact Nat.ne_of_gt (blk_lt (Ub q1)) : q7 ≠ j4)); replace q4 := Rb q4 hb; replace q6 := Rb q6 hb; replace q1 := Bb q1 hb; replace HB := bs HB hb; clear hb hbox hg; have Z3 := j6.out; have Z4 := j5.out; obtain ⟨Qh, Qi, Qj, Qk, Ql, Qm, Qn, Qo, Qp, Qq⟩ := cf5 q2; obtain ⟨y7, y8, eo30⟩ := Kd.R_slice q6.out; subst eo30) | ((with_reducible refine gate_callee (f := 43) rfl ?_); refine gL (some 20) Try.func43 #[.agg #[.int .i64 ((rd_T64 q0 x12_1).f0), .int .i64 ((rd_T64 q0 x12_1).f1), .int .i64 ((rd_T64 q0 x12_1).f2.f0), .int .i64 ((rd_T64 q0 x12_1).f2.f1), .string ((rd_T64 q0 x12_1).f2.f2)]] ?_; (with_reducible refine (Qao.calls k1 ((rd_T64 q0 x12_1).f0) ((rd_T64 q0 x12_1).f1) ((rd_T64 q0 x12_1).f2.f0) ((rd_T64 q0 x12_1).f2.f1) ((rd_T64 q0 x12_1).f2.f2) q3 _ A7.out).mono ?_); rintro e w31 ⟨rfl, hb⟩; refine ⟨_, rfl, ?_⟩; replace q4 := Qaa.mk (Kd.R_below (Rf q4 q2) hb); replace q6 := Qaa.mk (Kd.R_below (Rf q6 q2) hb); replace q1 := Bb q1 hb; replace q2 := Qaa.mk (blk_below (g := q7) (o := .cells #[.int .i64 ((rd_T64 q0 x12_1).f0), .int .i64 ((rd_T64 q0 x12_1).f1), .int .i64 ((rd_T64 q0 x12_1).f2.f0), .int .i64 ((rd_T64 q0 x12_1).f2.f1), .string ((rd_T64 q0 x12_1).f2.f2)] 64 (0, 0)) (by apply blk_u; refine blk_put (cs := #[.int .i64 ((rd_T64 q0 x12_1).f0), .int .i64 ((rd_T64 q0 x12_1).f1), .int .i64 ((rd_T64 q0 x12_1).f2.f0), .int .i64 ((rd_T64 q0 x12_1).f2.f1), .string (⟨#[]⟩ : ByteArray)]) ?_ 4 _ rfl; apply blk_u; refine blk_put (cs := #[.int .i64 ((rd_T64 q0 x12_1).f0), .int .i64 ((rd_T64 q0 x12_1).f1), .int .i64 ((rd_T64 q0 x12_1).f2.f0), .int .i64 0, .string (⟨#[]⟩ : ByteArray)]) ?_ 3 _ rfl; apply blk_u; refine blk_put (cs := #[.int .i64 ((rd_T64 q0 x12_1).f0), .int .i64 ((rd_T64 q0 x12_1).f1), .int .i64 0, .int .i64 0, .string (⟨#[]⟩ : ByteArray)]) ?_ 2 _ rfl; apply blk_u; refine blk_put (cs := #[.int .i64 ((rd_T64 q0 x12_1).f0), .int .i64 0, .int .i64 0, .int .i64 0, .string (⟨#[]⟩ : ByteArray)]) ?_ 1 _ rfl; apply blk_u; refine blk_put (cs := #[.int .i64 0, .int .i64 0, .int .i64 0, .int .i64 0, .string (⟨#[]⟩ : ByteArray)]) ?_ 0 _ rfl; apply blk_u; exact q2.out) hb); replace HB := bs HB hb; (try clear hb); have q32 : ((j3) : Int) ≤ ((x4_1.length : Int) : Int) := of_decide_eq_true (by first | (with_reducible assumption) | assumption); obtain ⟨i032, hi032, _, hsz32, _⟩ := info_parts info3; have hcut32 := cut_to (P := Try.prog) 24 3 .i64 Try.underlying24 hi032 y7 x4_1.length y8 (j3) (of_decide_eq_true (by first | (with_reducible assumption) | assumption)) q32 (Kd.R_reads' q6.out).2.1; have hr32 := Kd.R_take (m := ((j3) : Int).toNat) q6.out (by omega); have hy32 : y227.length = ((j3) : Int).toNat := (by rw [Ny227.out, List.length_take]; omega); rw [← Ny227.out] at hr32; rw [← hy32] at hr32 hcut32; clear hy32 hi032 hsz32 q6; have z0 := Qaa.mk hr32; clear hr32; replace q32 := eq_true q32) | ((with_reducible refine gate_builtin (b := .append) (xs := #[.tmp 33, .tmp 35]) rfl ?_); at_builtin; refine Kd.R_append (Kd.int .i64) (w0 := w) w.heap.size rfl (.tmp 33) (.tmp 35) 24 3 (.int .i64 0) 8 rfl Try.underlying24 info3 rfl (by decide) (by omega) (.slice y7 y227.length y8) y227 x12_1 [.int .i64 x12_1] (fun k_ => some k_ ≠ (u3 : Value).ownBlock) (fun _ => False) rfl rfl ?aP (fun _ hk => hk.elim) ?aF ?aO ?aB ?aS ?aL ?_; (case aP => exact rfl); (case aB => exact (bl HB)); (case aF => exact (fun k_ hk => Kd.fresh' (Kd.R_lt (R_u q4.out)) k_ hk)); (case aO => exact (R_u z0.out)); (case aS => exact (below_size (bl HB))); (case aL => have := LMc25.out; omega); intro Q5 w33 ho hb hg hat; rw [← Ny230.out] at ho; have z1 := Qaa.mk (ho); replace q4 := Qaa.mk (Kd.R_after (ok := (fun _ => True)) (by apply R_u; exact Kd.R_mono q4.out (fun _ hk => ⟨trivial, by first | exact hk | exact fun e => hk (e.trans (ownb26 _ _ _ _ _))⟩)) hg hat); replace q1 := Qaa.mk (blk_grown (Ub q1) hg (Kd.R_ne z0.out q1.out (by decide))); replace q2 := Qaa.mk (blk_grown (Ub q2) hg (Kd.R_ne z0.out q2.out (by decide))); replace HB := Qaa.mk (hb); clear z0; clear ho hb hg hat) | ((with_reducible refine gate_builtin (b := .append) (xs := #[.tmp 37, .tmp 39]) rfl ?_); at_builtin; refine Kd.R_append (Kd.int .i64) (w0 := w) w.heap.size rfl (.tmp 37) (.tmp 39) 24 3 (.int .i64 0) 8 rfl Try.underlying24 info3 rfl (by decide) (by omega) u3 x3_1 x12_1 [.int .i64 x12_1] (fun k_ => some k_ ≠ (Q5 : Value).ownBlock) (fun _ => False) rfl rfl ?aP (fun _ hk => hk.elim) ?aF ?aO ?aB ?aS ?aL ?_; (case aP => exact rfl); (case aB => exact (bl HB)); (case aF => exact (fun k_ hk => Kd.fresh' (Kd.R_lt (R_u z1.out)) k_ hk)); (case aO => exact (by apply R_u; exact Kd.R_mono q4.out (fun _ hk => hk.2))); (case aS => exact (below_size (bl HB))); (case aL => have := LMc26.out; omega); intro Z9 w34 ho hb hg hat; rw [← Ny233.out] at ho; have Q2 := Qaa.mk (ho); replace q1 := Qaa.mk (blk_grown (Ub q1) hg (Kd.R_ne q4.out q1.out (by decide))); replace q2 := Qaa.mk (blk_grown (Ub q2) hg (Kd.R_ne q4.out q2.out (by decide))); replace z1 := Qaa.mk (Kd.R_after (ok := (fun _ => True)) (by apply R_u; exact Kd.R_mono z1.out (fun _ hk => ⟨trivial, by first | exact hk | exact fun e => hk (e.trans (ownb26 _ _ _ _ _))⟩)) hg hat); replace HB := Qaa.mk (hb); clear q4; clear ho hb hg hat))
           go_roundg k1
           case measure => have := HK1.out; omega
           case rel => exact ⟨(y233), (y230), (wrap64 (x12_1 + 1)), (by first | rfl | (simp; done) | (simp [*]; done)), H', ⟨by have := HK1.out; omega⟩, ⟨by apply R_u; exact Q2.out⟩, ⟨by apply R_u; exact Kd.R_mono z1.out (fun _ hk => hk.2)⟩, ⟨by apply blk_u; exact q1.out⟩, ⟨bl HB⟩⟩
          ·
           rw [if_neg c26] at H
           exact absurd H (by simp)
         ·
          rw [if_neg c25] at H
          exact absurd H (by simp)
        ·
         rw [if_neg c24] at H
         exact absurd H (by simp)
       ·
        rw [if_neg c23] at H
        exact absurd H (by simp)
     ·
      rw [if_neg c6] at H
      exact absurd H (by simp)
    ·
     rw [if_neg c5] at H
     exact absurd H (by simp)
   ·
    rw [if_neg c4] at H
    have Q3 : decide (x12_1 < (q0.length : Int)) = false := decide_eq_false c4
    clear c4
    obtain rfl := Option.some.inj H
    go_wp2
    go_ret
    exact ⟨_, by first | rfl | (simp [errW_none, errW_some] <;> rfl) | (simp [*, errW_none, errW_some] <;> rfl), by apply R_u; exact Kd.R_mono q4.out (fun _ hk => trivial), bl HB⟩
end Go.Proofs.Ytphnmaobpefoiaa.XW
end
section
namespace Go.Proofs.Ytphnmaobpefoiaa.XW
open Go.RowKit Go.Proofs.YtphnmaobpefoiaaXW Go.Proofs.YtphnmaobpefoiaaW.PrintWords Go.Proofs.YtphnmaobpefoiaaW.PrintLast Go.Proofs.YtphnmaobpefoiaaW.PrintMore
set_option linter.unusedVariables false
theorem value_ev (a n : Int) (s : ByteArray) (k : Nat) (hk : 300 ≤ k) : ∃ r, Qae.f k a n s = some r := by
  obtain ⟨k, rfl⟩ : ∃ m, k = m + 1 := ⟨k - 1, by omega⟩
  have hj : ∀ b : Bool, ∃ r, Qae.j0 (k + 1) a b a n s = some r := by
    intro b
    simp only [Qae.j0]
    simp only [range_f, Option.bind_some]
    cases b with
    | true =>
      rw [if_pos rfl]
      split
      · split
        · exact ⟨_, rfl⟩
        · exact ⟨_, rfl⟩
      · exact ⟨_, rfl⟩
    | false =>
      rw [if_neg (by decide)]
      split
      · split
        · split
          · exact ⟨_, rfl⟩
          · rename_i h
            obtain ⟨r, hr, _⟩ := textLoop s (by omega) a n s s.size k 0 (by omega) (by omega)
            exact ⟨r, hr⟩
        · exact ⟨_, rfl⟩
      · exact ⟨_, rfl⟩
  unfold Qae.f
  split
  · split
    · split <;> exact ⟨_, rfl⟩
    · exact ⟨_, rfl⟩
  · split
    · exact hj _
    · exact hj _
def tk (n : S64) : Int := if n.f0 = 1 ∨ n.f0 = 2 then 0 else if n.f0 = 3 ∨ n.f0 = 13 ∨ n.f0 = 14 then 1 else if n.f0 = 16 then 3 else if n.f0 = 18 then wrap64 (n.f1 + 1) else 2
theorem takes_f (n : S64) (k : Nat) (hk : 3 ≤ k) : Qao.f k n.f0 n.f1 n.f2.f0 n.f2.f1 n.f2.f2 = some (tk n) := by
  obtain ⟨k, rfl⟩ : ∃ m, k = m + 2 := ⟨k - 2, by omega⟩
  unfold Qao.f tk
  simp only [Qao.j0, Qao.j1]
  by_cases h1 : n.f0 = 1
  · simp [h1]
  · by_cases h2 : n.f0 = 2
    · simp [h2]
    · by_cases h3 : n.f0 = 3
      · simp [h3]
      · by_cases h13 : n.f0 = 13
        · simp [h13]
        · by_cases h14 : n.f0 = 14
          · simp [h14]
          · simp [h1, h2, h3, h13, h14]
            by_cases h16 : n.f0 = 16
            · simp [h16]
            · by_cases h18 : n.f0 = 18
              · simp [h18]
              · simp [h16, h18]
def NodeOk (c : List S86) (n : S64) : Prop := (n.f0 = 1 → 0 ≤ n.f1 ∧ n.f1 < (c.length : Int)) ∧ (n.f0 = 18 → 1 ≤ n.f1 ∧ n.f1 ≤ 50)
theorem NodeOk.tk_in {c : List S86} {n : S64} (h : NodeOk c n) : 0 ≤ tk n ∧ tk n ≤ 51 := by
  unfold tk
  split
  · omega
  · split
    · omega
    · split
      · omega
      · split
        · rename_i h18
          obtain ⟨h1, h2⟩ := h.2 h18
          rw [w_in _ (by omega) (by omega)]
          omega
        · omega
theorem node_ev (c : List S86) (hc : c.length ≤ 20) (n : S64) (k : Nat) (hk : 310 ≤ k) : ∃ r, Qai.f k c n.f0 n.f1 n.f2.f0 n.f2.f1 n.f2.f2 = some r ∧ (r = 0 → NodeOk c n) := by
  obtain ⟨k, rfl⟩ : ∃ m, k = m + 2 := ⟨k - 2, by omega⟩
  have hj1 : ∀ b : Bool, ∃ r, Qai.j1 (k + 1) c b n.f0 n.f1 n.f2.f0 n.f2.f1 n.f2.f2 = some r ∧ (r = 0 → NodeOk c n) := by
    intro b
    simp only [Qai.j1]
    simp only [range_f, in_f, Option.bind_some]
    cases b with
    | true =>
      rw [if_pos rfl]
      exact ⟨_, rfl, fun h => by cases h⟩
    | false =>
      rw [if_neg (by decide)]
      by_cases h1 : n.f0 = 1
      · rw [if_pos h1]
        refine ⟨_, rfl, fun h => ⟨fun _ => ?_, fun h18 => by omega⟩⟩
        by_cases hr : 0 ≤ n.f1 ∧ n.f1 ≤ wrap64 ((c.length : Int) - 1)
        · rw [w_in _ (by omega) (by omega)] at hr
          omega
        · rw [if_neg hr] at h
          cases h
      · rw [if_neg h1]
        by_cases h2 : n.f0 = 2
        · rw [if_pos h2]
          obtain ⟨r, hr⟩ := value_ev n.f2.f0 n.f2.f1 n.f2.f2 k (by omega)
          rw [hr]
          exact ⟨r, rfl, fun _ => ⟨fun h => by omega, fun h => by omega⟩⟩
        · rw [if_neg h2]
          by_cases h14 : n.f0 = 14
          · rw [if_pos h14]
            split
            · exact ⟨_, rfl, fun _ => ⟨fun h => by omega, fun h => by omega⟩⟩
            · exact ⟨_, rfl, fun h => by cases h⟩
          · rw [if_neg h14]
            by_cases h18 : n.f0 = 18
            · rw [if_pos h18]
              refine ⟨_, rfl, fun h => ⟨fun _ => by omega, fun _ => ?_⟩⟩
              by_cases hr : 1 ≤ n.f1 ∧ n.f1 ≤ 50
              · exact hr
              · rw [if_neg hr] at h
                cases h
            · rw [if_neg h18]
              exact ⟨_, rfl, fun _ => ⟨fun h => by omega, fun h => by omega⟩⟩
  have hj0 : ∀ b : Bool, ∃ r, Qai.j0 (k + 2) c b n.f0 n.f1 n.f2.f0 n.f2.f1 n.f2.f2 = some r ∧ (r = 0 → NodeOk c n) := by
    intro b
    simp only [Qai.j0]
    cases b with
    | true =>
      rw [if_pos rfl]
      split
      · exact hj1 _
      · exact hj1 _
    | false =>
      rw [if_neg (by decide)]
      split
      · split
        · exact hj1 _
        · exact hj1 _
      · exact hj1 _
  unfold Qai.f
  simp only [in_f, Option.bind_some]
  split
  · split
    · exact hj0 _
    · split
      · exact hj0 _
      · exact hj0 _
  · exact ⟨_, rfl, fun h => by cases h⟩
theorem all_ev (a : Int) (l : List Int) (hl : l.length ≤ 1000) (d : Nat) : ∀ (k i : Nat), i + d = l.length → d < k → ∃ b, Qat.l0 k a l (l.length : Int) (i : Int) = some b := by
  induction d with
  | zero =>
    intro k i hi hk
    obtain ⟨k, rfl⟩ : ∃ m, k = m + 1 := ⟨k - 1, by omega⟩
    unfold Qat.l0
    rw [if_neg (by omega)]
    exact ⟨_, rfl⟩
  | succ d ih =>
    intro k i hi hk
    obtain ⟨k, rfl⟩ : ∃ m, k = m + 1 := ⟨k - 1, by omega⟩
    unfold Qat.l0
    have hw : wrap64 ((i : Int) + 1) = ((i + 1 : Nat) : Int) := step_w i (by omega)
    rw [if_pos (by omega), if_pos (by omega), if_pos (by omega), hw]
    split
    · exact ih k (i + 1) (by omega) (by omega)
    · split
      · exact ih k (i + 1) (by omega) (by omega)
      · exact ⟨_, rfl⟩
theorem all_f' (a : Int) (l : List Int) (hl : l.length ≤ 1000) (k : Nat) (hk : 1001 < k) : ∃ b, Qat.f k a l = some b := all_ev a l hl l.length k 0 (by omega) (by omega)
theorem one_ev (l : List Int) (hl : l.length ≤ 1000) (d : Nat) : ∀ (k i : Nat) (x : Int), i + d = l.length → 2 * d < k → ∃ r, Qar.l0 k x l (l.length : Int) (i : Int) = some r := by
  induction d with
  | zero =>
    intro k i x hi hk
    obtain ⟨k, rfl⟩ : ∃ m, k = m + 1 := ⟨k - 1, by omega⟩
    unfold Qar.l0
    rw [if_neg (by omega)]
    exact ⟨_, rfl⟩
  | succ d ih =>
    intro k i x hi hk
    obtain ⟨k, rfl⟩ : ∃ m, k = m + 2 := ⟨k - 2, by omega⟩
    have hw : wrap64 ((i : Int) + 1) = ((i + 1 : Nat) : Int) := step_w i (by omega)
    have hj : ∀ (b : Bool) (y : Int), ∃ r, Qar.j1 (k + 1) x y l (l.length : Int) (i : Int) b = some r := by
      intro b y
      simp only [Qar.j1]
      cases b with
      | true => exact ⟨_, rfl⟩
      | false =>
        rw [if_neg (by decide), hw]
        exact ih k (i + 1) _ (by omega) (by omega)
    unfold Qar.l0
    rw [if_pos (by omega), if_pos (by omega), if_pos (by omega)]
    split
    · exact hj _ _
    · split
      · exact hj _ _
      · exact hj _ _
theorem one_f' (l : List Int) (hl : l.length ≤ 1000) (k : Nat) (hk : 2001 < k) : ∃ r, Qar.f k l = some r := one_ev l hl l.length k 0 0 (by omega) (by omega)
theorem leaves_ev (c : List S86) (n : S64) (hn : NodeOk c n) (l : List Int) (hl : l.length ≤ 1000) (h3 : n.f0 = 16 → 1 ≤ l.length) (k : Nat) (hk : 3000 ≤ k) : ∃ r, Qal.f k c n.f0 n.f1 n.f2.f0 n.f2.f1 n.f2.f2 l = some r := by
  obtain ⟨k, rfl⟩ : ∃ m, k = m + 2 := ⟨k - 2, by omega⟩
  have hj1 : ∀ b : Bool, ∃ r, Qal.j1 (k + 1) l n.f0 b n.f0 n.f1 n.f2.f0 n.f2.f1 n.f2.f2 = some r := by
    intro b
    simp only [Qal.j1]
    split
    · obtain ⟨r, hr⟩ := one_f' l hl k (by omega)
      rw [hr]; exact ⟨_, rfl⟩
    · split
      · exact ⟨_, rfl⟩
      · split
        · exact ⟨_, rfl⟩
        · split
          · obtain ⟨r, hr⟩ := all_f' 3 l hl k (by omega)
            rw [hr]; exact ⟨_, rfl⟩
          · split
            · rename_i h16
              have := h3 h16
              rw [if_pos (by omega)]
              obtain ⟨r, hr⟩ := one_f' (l.drop 1) (by rw [List.length_drop]; omega) k (by omega)
              rw [hr, Option.bind_some]
              split
              · obtain ⟨r2, hr2⟩ := all_f' 1 (l.take 1) (by rw [List.length_take]; omega) k (by omega)
                rw [hr2]; exact ⟨_, rfl⟩
              · exact ⟨_, rfl⟩
            · split
              · obtain ⟨r, hr⟩ := one_f' l hl k (by omega)
                rw [hr]; exact ⟨_, rfl⟩
              · obtain ⟨r, hr⟩ := all_f' 2 l hl k (by omega)
                rw [hr]; exact ⟨_, rfl⟩
  have hj0 : ∀ b : Bool, ∃ r, Qal.j0 (k + 2) l n.f0 b n.f0 n.f1 n.f2.f0 n.f2.f1 n.f2.f2 = some r := by
    intro b
    simp only [Qal.j0]
    split
    · obtain ⟨r, hr⟩ := all_f' 1 l hl (k + 1) (by omega)
      rw [hr]; exact ⟨_, rfl⟩
    · split
      · exact hj1 _
      · split
        · exact hj1 _
        · exact hj1 _
  unfold Qal.f
  split
  · rename_i h1
    obtain ⟨h2, h4⟩ := hn.1 h1
    rw [if_pos h2, if_pos h4]
    exact ⟨_, rfl⟩
  · split
    · exact ⟨_, rfl⟩
    · split
      · exact hj0 _
      · split
        · exact hj0 _
        · exact hj0 _
def OkD : List S64 → Nat → Prop
  | [], _ => True
  | n :: ns, d => 0 ≤ tk n ∧ tk n ≤ (d : Int) ∧ OkD ns (d - (tk n).toNat + 1)
theorem rd64' (a : List S64) (i : Nat) (h : i < a.length) : rd_T64 a (i : Int) = a[i] := by
  simp [rd_T64, List.getD_eq_getElem?_getD, List.getElem?_eq_getElem h]
theorem exprLoop (c : List S86) (hc : c.length ≤ 20) (nodes : List S64) (hn : nodes.length ≤ 200) (d : Nat) : ∀ (k i : Nat) (x : List Int), i + d = nodes.length → x.length ≤ i → d + 4000 < k →
    ∃ r, Qaj.l0 k c x nodes (nodes.length : Int) (i : Int) = some r ∧ (r.2 = 0 → OkD (nodes.drop i) x.length) := by
  induction d with
  | zero =>
    intro k i x hi hx hk
    obtain ⟨k, rfl⟩ : ∃ m, k = m + 1 := ⟨k - 1, by omega⟩
    unfold Qaj.l0
    rw [if_neg (by omega)]
    have hO : OkD (nodes.drop i) x.length := by
      rw [List.drop_eq_nil_of_le (by omega)]
      trivial
    by_cases h1 : (x.length : Int) = 1
    · rw [if_pos h1, if_pos (by omega)]
      exact ⟨_, rfl, fun _ => hO⟩
    · rw [if_neg h1]
      exact ⟨_, rfl, fun _ => hO⟩
  | succ d ih =>
    intro k i x hi hx hk
    obtain ⟨k, rfl⟩ : ∃ m, k = m + 1 := ⟨k - 1, by omega⟩
    unfold Qaj.l0
    have hw : wrap64 ((i : Int) + 1) = ((i + 1 : Nat) : Int) := step_w i (by omega)
    have hil : i < nodes.length := by omega
    rw [if_pos (by omega), if_pos (by omega), if_pos (by omega), hw, rd64' nodes i hil]
    obtain ⟨n, hnn⟩ : ∃ n, n = nodes[i] := ⟨_, rfl⟩
    rw [← hnn]
    obtain ⟨r, hr, hr0⟩ := node_ev c hc n k (by omega)
    rw [hr, Option.bind_some]
    by_cases h0 : r = 0
    · rw [if_pos h0, takes_f n k (by omega), Option.bind_some]
      have hok := hr0 h0
      obtain ⟨t0, t1⟩ := hok.tk_in
      have hat : wrap64 ((x.length : Int) - tk n) = (x.length : Int) - tk n := w_in _ (by omega) (by omega)
      rw [hat]
      by_cases hneg : (x.length : Int) - tk n < 0
      · rw [if_pos hneg]
        exact ⟨_, rfl, fun h => by cases h⟩
      · rw [if_neg hneg, if_pos (by omega), if_pos (by omega)]
        have h16 : n.f0 = 16 → tk n = 3 := by
          intro h
          unfold tk
          rw [if_neg (by omega), if_neg (by omega), if_pos h]
        obtain ⟨y, hy⟩ := leaves_ev c n hok (x.drop ((x.length : Int) - tk n).toNat) (by rw [List.length_drop]; omega) (fun h => by have := h16 h; rw [List.length_drop]; omega) k (by omega)
        rw [hy, Option.bind_some]
        by_cases hb : y.2 = true
        · rw [if_pos hb]
          rw [Option.bind_some]
          have hlen : (x.take ((x.length : Int) - tk n).toNat).length = x.length - (tk n).toNat := by rw [List.length_take]; omega
          rw [if_pos (by rw [hlen]; omega)]
          obtain ⟨z, hz, hz0⟩ := ih k (i + 1) (x.take ((x.length : Int) - tk n).toNat ++ [y.1]) (by omega) (by rw [List.length_append, hlen, List.length_singleton]; omega) (by omega)
          refine ⟨z, hz, fun h => ?_⟩
          have := hz0 h
          rw [List.length_append, hlen, List.length_singleton] at this
          rw [List.drop_eq_getElem_cons hil, ← hnn]
          exact ⟨t0, by omega, this⟩
        · rw [if_neg hb]
          exact ⟨_, rfl, fun h => by cases h⟩
    · rw [if_neg h0]
      exact ⟨_, rfl, fun h => absurd h h0⟩
theorem expr_ev (c : List S86) (nodes : List S64) (k : Nat) (hk : 5000 ≤ k) : ∃ r, Qaj.f k c nodes = some r ∧ (r.2 = 0 → nodes.length ≤ 200 ∧ OkD nodes 0) := by
  unfold Qaj.f
  obtain ⟨t, ht, hc⟩ := columns_ev c k (by omega)
  rw [ht, Option.bind_some]
  by_cases h0 : t = 0
  · rw [if_pos h0]
    by_cases hl : (nodes.length : Int) > 200
    · rw [if_pos hl]
      exact ⟨_, rfl, fun h => by cases h⟩
    · rw [if_neg hl]
      obtain ⟨r, hr, hr0⟩ := exprLoop c (hc h0) nodes (by omega) nodes.length k 0 [] (by omega) (by simp) (by omega)
      exact ⟨r, hr, fun h => ⟨by omega, hr0 h⟩⟩
  · rw [if_neg h0]
    exact ⟨_, rfl, fun h => absurd h h0⟩
theorem rd_left (l : List Int) (v : Int) (j : Nat) (h : j < l.length) : rd (l ++ [v]) (j : Int) = rd l (j : Int) := by
  unfold rd
  rw [Int.toNat_natCast, List.getD_eq_getElem?_getD, List.getD_eq_getElem?_getD, List.getElem?_append_left h]
theorem rd_last (l : List Int) (v : Int) : rd (l ++ [v]) (l.length : Int) = v := by
  unfold rd
  rw [Int.toNat_natCast, List.getD_eq_getElem?_getD, List.getElem?_append_right (Nat.le_refl _), Nat.sub_self]
  rfl
set_option maxHeartbeats 1000000 in
theorem startsLoop (nodes : List S64) (hn : nodes.length ≤ 200) (d : Nat) : ∀ (k i : Nat) (out x : List Int), i + d = nodes.length → out.length = i → x.length ≤ i → (∀ v ∈ x, 0 ≤ v ∧ v < i) → (∀ j, j < i → 0 ≤ rd out (j : Int) ∧ rd out (j : Int) ≤ j) → OkD (nodes.drop i) x.length → d + 10 < k →
    ∃ s, Qaq.l0 k out x nodes (nodes.length : Int) (i : Int) = some s ∧ s.length = nodes.length ∧ ∀ j, j < s.length → 0 ≤ rd s (j : Int) ∧ rd s (j : Int) ≤ j := by
  induction d with
  | zero =>
    intro k i out x hi ho hx hv hs hO hk
    obtain ⟨k, rfl⟩ : ∃ m, k = m + 1 := ⟨k - 1, by omega⟩
    unfold Qaq.l0
    rw [if_neg (by omega)]
    exact ⟨out, rfl, by omega, fun j hj => hs j (by omega)⟩
  | succ d ih =>
    intro k i out x hi ho hx hv hs hO hk
    obtain ⟨k, rfl⟩ : ∃ m, k = m + 1 := ⟨k - 1, by omega⟩
    unfold Qaq.l0
    have hw : wrap64 ((i : Int) + 1) = ((i + 1 : Nat) : Int) := step_w i (by omega)
    have hil : i < nodes.length := by omega
    rw [List.drop_eq_getElem_cons hil] at hO
    rw [if_pos (by omega), if_pos (by omega), if_pos (by omega), hw, rd64' nodes i hil]
    obtain ⟨n, hnn⟩ : ∃ n, n = nodes[i] := ⟨_, rfl⟩
    rw [← hnn] at hO ⊢
    obtain ⟨t0, t1, hO2⟩ := hO
    rw [takes_f n k (by omega), Option.bind_some]
    have hat : wrap64 ((x.length : Int) - tk n) = (x.length : Int) - tk n := w_in _ (by omega) (by omega)
    rw [hat]
    have hlen : (x.take ((x.length : Int) - tk n).toNat).length = x.length - (tk n).toNat := by rw [List.length_take]; omega
    have step : ∀ v : Int, 0 ≤ v → v ≤ i → ∃ s, Qaq.l0 k (out ++ [v]) (x.take ((x.length : Int) - tk n).toNat ++ [v]) nodes (nodes.length : Int) ((i + 1 : Nat) : Int) = some s ∧ s.length = nodes.length ∧ ∀ j, j < s.length → 0 ≤ rd s (j : Int) ∧ rd s (j : Int) ≤ j := by
      intro v v0 v1
      refine ih k (i + 1) (out ++ [v]) (x.take ((x.length : Int) - tk n).toNat ++ [v]) (by omega) (by simp [ho]) (by rw [List.length_append, hlen, List.length_singleton]; omega) ?_ ?_ (by rw [List.length_append, hlen, List.length_singleton]; exact hO2) (by omega)
      · intro u hu
        rcases List.mem_append.1 hu with hu | hu
        · have := hv u (List.mem_of_mem_take hu)
          omega
        · rw [List.mem_singleton.1 hu]
          omega
      · intro j hj
        by_cases hji : j < i
        · rw [rd_left out v j (by omega)]
          exact hs j hji
        · have hj2 : j = out.length := by omega
          rw [hj2, rd_last out v, ho]
          exact ⟨v0, v1⟩
    by_cases hlt : (x.length : Int) - tk n < (x.length : Int)
    · rw [if_pos hlt, if_pos (by omega), if_pos (by omega)]
      rw [Option.bind_some, if_pos (by rw [hlen]; omega), if_pos (by omega)]
      have hmem : rd x ((x.length : Int) - tk n) ∈ x := by
        obtain ⟨m, hm⟩ : ∃ m : Nat, (x.length : Int) - tk n = (m : Int) := ⟨((x.length : Int) - tk n).toNat, by omega⟩
        rw [hm, rd_nat x m (by omega)]
        exact List.getElem_mem _
      obtain ⟨v0, v1⟩ := hv _ hmem
      exact step _ v0 (by omega)
    · rw [if_neg hlt, if_pos (by omega), if_pos (by omega)]
      rw [Option.bind_some, if_pos (by rw [hlen]; omega), if_pos (by omega)]
      exact step _ (by omega) (by omega)
theorem starts_ev (nodes : List S64) (hn : nodes.length ≤ 200) (hO : OkD nodes 0) (k : Nat) (hk : 1000 ≤ k) :
    ∃ s, Qaq.f k nodes = some s ∧ s.length = nodes.length ∧ ∀ j, j < s.length → 0 ≤ rd s (j : Int) ∧ rd s (j : Int) ≤ j :=
  startsLoop nodes hn nodes.length k 0 [] [] (by omega) rfl (by simp) (fun v hv => by simp at hv) (fun j hj => absurd hj (Nat.not_lt_zero _)) hO (by omega)
end Go.Proofs.Ytphnmaobpefoiaa.XW
end
section
namespace Go.Proofs.Ytphnmaobpefoiaa.XW
open Go.RowKit Go.Proofs.YtphnmaobpefoiaaXW Go.Proofs.YtphnmaobpefoiaaW.PrintWords Go.Proofs.YtphnmaobpefoiaaW.PrintLast Go.Proofs.YtphnmaobpefoiaaW.PrintMore
attribute [local go_sem] max2_int min2_int max_two min_two max_three min_three max_four min_four sleq
set_option linter.unusedVariables false
set_option linter.unusedSimpArgs false
theorem eqA64 (d : Nat) (w : World) (x0 y0 : Int) (x1 y1 : Int) (x2 y2 : Int) (x3 y3 : Int) (x4 y4 : ByteArray) :
  (Op.equalIn (d + 3) 64 (.agg #[.int .i64 x0, .int .i64 x1, .int .i64 x2, .int .i64 x3, .string x4]) (.agg #[.int .i64 y0, .int .i64 y1, .int .i64 y2, .int .i64 y3, .string y4])).run Try.prog w = .ok (x0 == y0 && (x1 == y1 && ((x2 == y2 && (x3 == y3 && (x4.toList == y4.toList)))))) w := by
 refine eqA_of Try.underlying64 (by kernel_rfl) ?_
 refine eqf_cons (by rfl) (by go_simp; rfl) (by go_simp; rfl) (by go_simp) ?_
 refine eqf_cons (by rfl) (by go_simp; rfl) (by go_simp; rfl) (by go_simp) ?_
 exact eqf_last (by rfl) (by go_simp) (by go_simp) (eqA41 (d + 0) w _ _ _ _ _ _)
end Go.Proofs.Ytphnmaobpefoiaa.XW
end
section
namespace Go.Proofs.Ytphnmaobpefoiaa.XW
open Go.RowKit Go.Proofs.YtphnmaobpefoiaaXW Go.Proofs.YtphnmaobpefoiaaW.PrintWords Go.Proofs.YtphnmaobpefoiaaW.PrintLast Go.Proofs.YtphnmaobpefoiaaW.PrintMore
attribute [local go_sem] max2_int min2_int max_two min_two max_three min_three max_four min_four sleq
set_option linter.unusedVariables false
set_option linter.unusedSimpArgs false
attribute [local go_sem high] eqA64
def Qbd.l0 : Nat → List (S64) → List (S64) → Int → Int → Option (Bool)
 | 0, _, _, _, _ => none
 | k + 1, x0, x1, x12, x13 => if x13 < x12 then (if 0 ≤ x13 then (if x13 < (x0.length : Int) then (if x13 < (x1.length : Int) then (if (!(((rd_T64 x0 x13).f0) == ((rd_T64 x1 x13).f0)) || (!(((rd_T64 x0 x13).f1) == ((rd_T64 x1 x13).f1)) || ((!(((rd_T64 x0 x13).f2.f0) == ((rd_T64 x1 x13).f2.f0)) || (!(((rd_T64 x0 x13).f2.f1) == ((rd_T64 x1 x13).f2.f1)) || (!((((rd_T64 x0 x13).f2.f2).toList) == (((rd_T64 x1 x13).f2.f2).toList)))))))) = true then (some false) else (Qbd.l0 k x0 x1 x12 (wrap64 (x13 + 1)))) else (none)) else (none)) else (none)) else (some true)
def Qbd.f (k : Nat) (l0 : List (S64)) (l1 : List (S64)) : Option (Bool) := if (l0.length : Int) = (l1.length : Int) then (Qbd.l0 k l0 l1 (l0.length : Int) 0) else (some false)
set_option maxHeartbeats 8000000 in
set_option maxRecDepth 100000 in
theorem Qbd.calls (k : Nat) (A0 : Option Addr) (c0 : Nat) (l0 : List (S64)) (A1 : Option Addr) (c1 : Nat) (l1 : List (S64)) (r : Bool) (w : World) (hr0 : Kd.C k64 w A0 l0.length l0) (hc0 : l0.length ≤ c0) (hr1 : Kd.C k64 w A1 l1.length l1) (hc1 : l1.length ≤ c1) (h : Qbd.f k l0 l1 = some r) :
  Calls Try.prog 21 #[.slice A0 l0.length c0, .slice A1 l1.length c1] w fun e w' => e = .returned (.bool r) ∧ Drawn0 w w' := by
 have hu64 := Try.underlying64
 have j3 := Qaa.mk hr0
 have z0 := Qaa.mk hc0
 clear hr0 hc0
 have j4 := Qaa.mk hr1
 have z1 := Qaa.mk hc1
 clear hr1 hc1
 have H : (if (l0.length : Int) = (l1.length : Int) then (Qbd.l0 k l0 l1 (l0.length : Int) 0) else (some false)) = some r := h
 clear h
 by_cases c3 : (l0.length : Int) = (l1.length : Int)
 ·
  rw [if_pos c3] at H
  have j0 : ((l0.length : Int) == (l1.length : Int)) = true := beq_iff_eq.mpr c3
  have j1 : ((l0.length : Int) != (l1.length : Int)) = false := bne_eq_false_iff_eq.mpr c3
  have j2 : (l0.length == l1.length) = true := by first | simpa using c3 | (simp at c3 ⊢; omega)
  clear c3
  have H' := Qaa.mk H
  clear H
  go_enter Try.func21, Try.ntmps21
  go_wp2
  repeat (go_quiet (fail); try go_wp2)
  go_loopg [13] k (fun kq v13 w' => ∃ (x13_1 : Int), v13 = .int .i64 x13_1 ∧ Qaa (Qbd.l0 kq l0 l1 (l0.length : Int) x13_1 = some r) ∧ Qaa (kq ≤ k) ∧ Drawn0 w w')
  case atStart => exact ⟨(0), (by first | rfl | (simp; done) | (simp [*]; done)), H', ⟨Nat.le_refl _⟩, by repeat (first | exact Drawn0.refl _ | apply Drawn0.step)⟩
  case round =>
   clear H'
   try clear c1
   try clear c2
   try clear p2
   try clear c3
   try clear j0
   try clear j1
   try clear j2
   obtain ⟨x13_1, rfl, HA, HK1, ⟨m1, rfl⟩⟩ := hrel
   cases gk with
   | zero => exact absurd HA.out (by simp [Qbd.l0])
   | succ k1 =>
    have H := HA.out
    clear HA
    simp only [Qbd.l0] at H
    by_cases c4 : x13_1 < (l0.length : Int)
    ·
     rw [if_pos c4] at H
     have j5 : decide (x13_1 < (l0.length : Int)) = true := decide_eq_true c4
     clear c4
     by_cases c5 : 0 ≤ x13_1
     ·
      rw [if_pos c5] at H
      have j7 : decide (0 ≤ x13_1) = true := decide_eq_true c5
      clear c5
      by_cases c6 : x13_1 < (l0.length : Int)
      ·
       rw [if_pos c6] at H
       have j8 : decide (x13_1 < (l0.length : Int)) = true := decide_eq_true c6
       clear c6
       by_cases c7 : x13_1 < (l1.length : Int)
       ·
        rw [if_pos c7] at H
        have j9 : decide (x13_1 < (l1.length : Int)) = true := decide_eq_true c7
        clear c7
        by_cases c8 : (!(((rd_T64 l0 x13_1).f0) == ((rd_T64 l1 x13_1).f0)) || (!(((rd_T64 l0 x13_1).f1) == ((rd_T64 l1 x13_1).f1)) || ((!(((rd_T64 l0 x13_1).f2.f0) == ((rd_T64 l1 x13_1).f2.f0)) || (!(((rd_T64 l0 x13_1).f2.f1) == ((rd_T64 l1 x13_1).f2.f1)) || (!((((rd_T64 l0 x13_1).f2.f2).toList) == (((rd_T64 l1 x13_1).f2.f2).toList)))))))) = true
        ·
         rw [if_pos c8] at H
         have j6 : (!(((rd_T64 l0 x13_1).f0) == ((rd_T64 l1 x13_1).f0)) || (!(((rd_T64 l0 x13_1).f1) == ((rd_T64 l1 x13_1).f1)) || ((!(((rd_T64 l0 x13_1).f2.f0) == ((rd_T64 l1 x13_1).f2.f0)) || (!(((rd_T64 l0 x13_1).f2.f1) == ((rd_T64 l1 x13_1).f2.f1)) || (!((((rd_T64 l0 x13_1).f2.f2).toList) == (((rd_T64 l1 x13_1).f2.f2).toList)))))))) = true := c8
         clear c8
         obtain rfl := Option.some.inj H
         have p287 : 0 ≤ (x13_1 : Int) := of_decide_eq_true (by first | (with_reducible assumption) | assumption)
         have q287 : x13_1 < (l0.length : Int) := of_decide_eq_true (by first | (with_reducible assumption) | assumption)
         obtain ⟨ad287, e287, q0, q1, q2, q3, q4⟩ := at_T64 j3.out x13_1 p287 q287
         cases e287
         replace p287 := eq_true p287
         replace q287 := eq_true q287
         have p288 : 0 ≤ (x13_1 : Int) := of_decide_eq_true (by first | (with_reducible assumption) | assumption)
         have q288 : x13_1 < (l1.length : Int) := of_decide_eq_true (by first | (with_reducible assumption) | assumption)
         obtain ⟨ad288, e288, q5, q6, q7, q8, q9⟩ := at_T64 j4.out x13_1 p288 q288
         cases e288
         replace p288 := eq_true p288
         replace q288 := eq_true q288
         go_wp2
         repeat (go_quiet (fail); try go_wp2)
         go_ret
         exact ⟨by first | rfl | (simp; done) | (simp [*]; done), by repeat (first | exact Drawn0.refl _ | apply Drawn0.step)⟩
        ·
         rw [if_neg c8] at H
         have j6 : (!(((rd_T64 l0 x13_1).f0) == ((rd_T64 l1 x13_1).f0)) || (!(((rd_T64 l0 x13_1).f1) == ((rd_T64 l1 x13_1).f1)) || ((!(((rd_T64 l0 x13_1).f2.f0) == ((rd_T64 l1 x13_1).f2.f0)) || (!(((rd_T64 l0 x13_1).f2.f1) == ((rd_T64 l1 x13_1).f2.f1)) || (!((((rd_T64 l0 x13_1).f2.f2).toList) == (((rd_T64 l1 x13_1).f2.f2).toList)))))))) = false := by simpa using c8
         clear c8
         have H' := Qaa.mk H
         clear H
         have p287 : 0 ≤ (x13_1 : Int) := of_decide_eq_true (by first | (with_reducible assumption) | assumption)
         have q287 : x13_1 < (l0.length : Int) := of_decide_eq_true (by first | (with_reducible assumption) | assumption)
         obtain ⟨ad287, e287, q0, q1, q2, q3, q4⟩ := at_T64 j3.out x13_1 p287 q287
         cases e287
         replace p287 := eq_true p287
         replace q287 := eq_true q287
         have p288 : 0 ≤ (x13_1 : Int) := of_decide_eq_true (by first | (with_reducible assumption) | assumption)
         have q288 : x13_1 < (l1.length : Int) := of_decide_eq_true (by first | (with_reducible assumption) | assumption)
         obtain ⟨ad288, e288, q5, q6, q7, q8, q9⟩ := at_T64 j4.out x13_1 p288 q288
         cases e288
         replace p288 := eq_true p288
         replace q288 := eq_true q288
         go_wp2
         repeat (go_quiet (fail); try go_wp2)
         go_roundg k1
         case measure => have := HK1.out; omega
         case rel => exact ⟨(wrap64 (x13_1 + 1)), (by first | rfl | (simp; done) | (simp [*]; done)), H', ⟨by have := HK1.out; omega⟩, by repeat (first | exact Drawn0.refl _ | apply Drawn0.step)⟩
       ·
        rw [if_neg c7] at H
        exact absurd H (by simp)
      ·
       rw [if_neg c6] at H
       exact absurd H (by simp)
     ·
      rw [if_neg c5] at H
      exact absurd H (by simp)
    ·
     rw [if_neg c4] at H
     have j5 : decide (x13_1 < (l0.length : Int)) = false := decide_eq_false c4
     clear c4
     obtain rfl := Option.some.inj H
     go_wp2
     repeat (go_quiet (fail); try go_wp2)
     go_ret
     exact ⟨by first | rfl | (simp; done) | (simp [*]; done), by repeat (first | exact Drawn0.refl _ | apply Drawn0.step)⟩
 ·
  rw [if_neg c3] at H
  have j0 : ((l0.length : Int) == (l1.length : Int)) = false := beq_eq_false_iff_ne.mpr c3
  have j1 : ((l0.length : Int) != (l1.length : Int)) = true := bne_iff_ne.mpr c3
  have j2 : (l0.length == l1.length) = false := by first | simpa using c3 | (simp at c3 ⊢; omega)
  obtain rfl := Option.some.inj H
  go_enter Try.func21, Try.ntmps21
  go_wp2
  repeat (go_quiet (fail); try go_wp2)
  go_ret
  exact ⟨by first | rfl | (simp; done) | (simp [*]; done), by repeat (first | exact Drawn0.refl _ | apply Drawn0.step)⟩
end Go.Proofs.Ytphnmaobpefoiaa.XW
end
section
namespace Go.Proofs.Ytphnmaobpefoiaa.XW
open Go.RowKit Go.Proofs.YtphnmaobpefoiaaXW Go.Proofs.YtphnmaobpefoiaaW.PrintWords Go.Proofs.YtphnmaobpefoiaaW.PrintLast Go.Proofs.YtphnmaobpefoiaaW.PrintMore
set_option linter.unusedVariables false
set_option linter.unusedSimpArgs false
theorem toList_baW (s : ByteArray) : s.toList = s.data.toList := Lib.toList_data s
theorem str_eqW (s t : ByteArray) : s.toList = t.toList ↔ s = t := by
  rw [toList_baW, toList_baW]
  constructor
  · intro h
    cases s; cases t
    simp only [Array.toList_inj] at h
    rw [h]
  · rintro rfl; rfl
theorem S64.ext' {a b : S64} (h0 : a.f0 = b.f0) (h1 : a.f1 = b.f1) (h2 : a.f2.f0 = b.f2.f0) (h3 : a.f2.f1 = b.f2.f1) (h4 : a.f2.f2.toList = b.f2.f2.toList) : a = b := by
  obtain ⟨a0, a1, a2, a3, a4⟩ := a
  obtain ⟨b0, b1, b2, b3, b4⟩ := b
  simp only at h0 h1 h2 h3 h4
  subst h0 h1 h2 h3
  rw [(str_eqW _ _).1 h4]
noncomputable def eqb (a b : List S64) : Bool := @decide (a = b) (Classical.propDecidable _)
theorem eqb_iff {a b : List S64} : eqb a b = true ↔ a = b := by unfold eqb; exact @decide_eq_true_iff _ (Classical.propDecidable _)
theorem rd64 (a : List S64) (i : Nat) (h : i < a.length) : rd_T64 a (i : Int) = a[i] := by
  simp [rd_T64, List.getD_eq_getElem?_getD, List.getElem?_eq_getElem h]
theorem eq_l0 (a b : List S64) (hl : a.length = b.length) (hm : a.length ≤ 9223372036854775807) : ∀ (k i : Nat), i ≤ a.length → a.length < i + k → (∀ j (h : j < i) (ha : j < a.length) (hb : j < b.length), a[j] = b[j]) →
    Qbd.l0 k a b (a.length : Int) (i : Int) = some (eqb a b)
  | 0, i, h1, h2, _ => by omega
  | k + 1, i, h1, h2, he => by
    unfold Qbd.l0
    by_cases hi : i < a.length
    · have hw : wrap64 ((i : Int) + 1) = ((i + 1 : Nat) : Int) := by
        unfold wrap64; omega
      rw [if_pos (by omega), if_pos (by omega), if_pos (by omega), if_pos (by omega), rd64 a i hi, rd64 b i (by omega), hw]
      by_cases hc : a[i] = b[i]'(by omega)
      · rw [if_neg (by rw [hc]; simp)]
        refine eq_l0 a b hl hm k (i + 1) (by omega) (by omega) ?_
        intro j hj ha hb
        by_cases e : j = i
        · subst e; exact hc
        · exact he j (by omega) ha hb
      · rw [if_pos]
        · have : eqb a b = false := by
            rw [← Bool.not_eq_true, eqb_iff]
            rintro rfl
            exact hc rfl
          rw [this]
        · refine Bool.of_not_eq_false ?_
          intro hf
          apply hc
          simp only [Bool.or_eq_false_iff, Bool.not_eq_false', beq_iff_eq] at hf
          obtain ⟨h0, h1, h2, h3, h4⟩ := hf
          exact S64.ext' h0 h1 h2 h3 h4
    · rw [if_neg (by omega)]
      have : eqb a b = true := by
        rw [eqb_iff]
        exact List.ext_getElem hl (fun j h1 h2 => he j (by omega) h1 h2)
      rw [this]
theorem eq_f (a b : List S64) (hm : a.length ≤ 9223372036854775807) : Qbd.f (a.length + 1) a b = some (eqb a b) := by
  unfold Qbd.f
  by_cases h : a.length = b.length
  · rw [if_pos (by omega)]
    exact eq_l0 a b h hm (a.length + 1) 0 (by omega) (by omega) (fun j hj => by omega)
  · rw [if_neg (by omega)]
    have : eqb a b = false := by
      rw [← Bool.not_eq_true, eqb_iff]
      rintro rfl
      exact h rfl
    rw [this]
set_option maxHeartbeats 2000000 in
theorem clo.calls (A : Option Addr) (c : Nat) (la : List S64) (g : Nat) (Ap : Option Addr) (cp : Nat) (lp : List S64) (w : World)
    (hr : Kd.C k64 w A la.length la) (hc : la.length ≤ c) (hrp : Kd.C k64 w Ap lp.length lp) (hcp : lp.length ≤ cp) (hb : w.heap[g]? = some (.cells #[.slice Ap lp.length cp] 32 (0, 0))) :
    Calls Try.prog 20 #[.slice A la.length c, .pointer (some ⟨g, 0, none⟩)] w fun e w' => e = .returned (.bool (eqb la lp)) ∧ Below w.heap.size w w' := by
  have hcell : w.cell? ⟨g, 0, none⟩ = some (.slice Ap lp.length cp) := (blk_cell hb 0).trans rfl
  have hfz := blk_frozen hb 0
  have hm : la.length ≤ 9223372036854775807 := hr.2.1
  have E := eq_f la lp hm
  go_enter Try.func20, Try.ntmps20
  go_wp2_with (go_at_call 21; refine (Qbd.calls (la.length + 1) A c la Ap cp lp (eqb la lp) _ hr hc hrp hcp E).mono ?_; rintro e w' ⟨rfl, m1, rfl⟩)
  go_ret
  exact ⟨rfl, by repeat (first | exact Below.refl _ _ | apply below_alloc | apply pw_below_drewN | apply below_drew1)⟩
theorem rdL10 (a : List (List S64)) (i : Nat) (h : i < a.length) : rd_L10 a (i : Int) = a[i] := by
  simp [rd_L10, List.getD_eq_getElem?_getD, List.getElem?_eq_getElem h]
theorem none_of {L : List (List S64)} {lp : List S64} (h : ∀ j (h : j < L.length), j < L.length → L[j] ≠ lp) : ¬ ∃ x ∈ L, x = lp := by
  rintro ⟨x, hm, hxe⟩
  obtain ⟨j, hj, he⟩ := List.getElem_of_mem hm
  exact h j hj hj (he.trans hxe)
set_option maxHeartbeats 2000000 in
theorem idx.calls (A : Option Addr) (c : Nat) (L : List (List S64)) (g : Nat) (Ap : Option Addr) (cp : Nat) (lp : List S64) (w : World)
    (hr : Kd.C (Kd.slice 64 k64) w A L.length L) (hc : L.length ≤ c) (hrp : Kd.C k64 w Ap lp.length lp) (hcp : lp.length ≤ cp) (hb : w.heap[g]? = some (.cells #[.slice Ap lp.length cp] 32 (0, 0))) :
    Calls Try.prog 44 #[.slice A L.length c, .func (.func 20) #[] #[.pointer (some ⟨g, 0, none⟩)]] w fun e w' => ∃ r : Int, e = .returned (.int .i64 r) ∧ (0 ≤ r ↔ lp ∈ L) ∧ Below w.heap.size w w' := by
  have HR := Qaa.mk hr
  have HRP := Qaa.mk hrp
  have HBK := Qaa.mk hb
  have hbig : L.length ≤ 9223372036854775807 := hr.2.1
  clear hr hrp hb
  go_enter Try.func44, Try.ntmps44
  go_wp2
  go_loopg [5, 8] L.length (fun gg _ s8 wr => ∃ kk : Nat, kk ≤ L.length ∧ L.length - kk ≤ gg ∧ s8 = .int .i64 kk ∧ Qaa (Below w.heap.size w wr) ∧ Qaa (∀ j (h : j < L.length), j < kk → L[j] ≠ lp))
  case atStart => exact ⟨0, Nat.zero_le _, by omega, rfl, ⟨Below.refl _ w⟩, ⟨fun j h hj => absurd hj (Nat.not_lt_zero _)⟩⟩
  case round =>
    obtain ⟨kk, hkk, hg, rfl, BW, HA⟩ := hrel
    by_cases hlt : kk < L.length
    · have hltz : (kk : Int) < (L.length : Int) := by omega
      obtain ⟨ad, A0, c0, eA, hx, hl, hi⟩ := at_L10 HR.out (kk : Int) (by omega) hltz
      subst eA
      replace hx := (BW.out.cell (World.block_lt_of_cell? w _ hx)).trans hx
      rw [Int.toNat_natCast] at hx
      have hrd := rdL10 L kk hlt
      rw [hrd] at hx hl hi
      clear hrd
      obtain ⟨y, hy⟩ : ∃ y, y = L[kk] := ⟨_, rfl⟩
      rw [← hy] at hx hl hi
      have HY := Qaa.mk hy
      clear hy
      have hcall := clo.calls A0 c0 y g Ap cp lp wr (Kd.C_below hi BW.out) hl (Kd.C_below HRP.out BW.out) hcp (blk_below HBK.out BW.out)
      cases hq : eqb y lp with
      | true =>
        rw [hq] at hcall
        go_wp2_with (go_at_call 20; refine hcall.mono ?_; rintro e w' ⟨rfl, hb'⟩)
        go_ret
        refine ⟨_, rfl, ⟨fun _ => by rw [← eqb_iff.1 hq, HY.out]; exact List.getElem_mem hlt, fun _ => by omega⟩, ?_⟩
        exact below_step BW.out hb'
      | false =>
        rw [hq] at hcall
        go_wp2_with (go_at_call 20; refine hcall.mono ?_; rintro e w' ⟨rfl, hb'⟩)
        go_roundg (L.length - (kk + 1))
        case measure => omega
        case rel =>
          refine ⟨kk + 1, by omega, by omega, by go_num, ⟨below_step BW.out hb'⟩, ⟨fun j h hj => ?_⟩⟩
          by_cases e : j = kk
          · subst e
            intro he
            rw [← HY.out] at he
            rw [eqb_iff.2 he] at hq
            cases hq
          · exact HA.out j h (by omega)
    · have hltz : ¬ (kk : Int) < (L.length : Int) := by omega
      obtain rfl : kk = L.length := by omega
      go_wp2
      go_ret
      refine ⟨_, rfl, ?_, BW.out⟩
      have hA := HA.out
      constructor
      · intro h
        omega
      · intro h
        exact absurd h (fun hm => none_of hA ⟨_, hm, rfl⟩)
noncomputable def has (L : List (List S64)) (lp : List S64) : Bool := @decide (lp ∈ L) (Classical.propDecidable _)
theorem has_iff {L : List (List S64)} {lp : List S64} : has L lp = true ↔ lp ∈ L := by unfold has; exact @decide_eq_true_iff _ (Classical.propDecidable _)
set_option maxHeartbeats 2000000 in
theorem con.calls (A : Option Addr) (c : Nat) (L : List (List S64)) (g : Nat) (Ap : Option Addr) (cp : Nat) (lp : List S64) (w : World)
    (hr : Kd.C (Kd.slice 64 k64) w A L.length L) (hc : L.length ≤ c) (hrp : Kd.C k64 w Ap lp.length lp) (hcp : lp.length ≤ cp) (hb : w.heap[g]? = some (.cells #[.slice Ap lp.length cp] 32 (0, 0))) :
    Calls Try.prog 19 #[.slice A L.length c, .func (.func 20) #[] #[.pointer (some ⟨g, 0, none⟩)]] w fun e w' => e = .returned (.bool (has L lp)) ∧ Below w.heap.size w w' := by
  go_enter Try.func19, Try.ntmps19
  go_wp2_with (go_at_call 44; refine (idx.calls A c L g Ap cp lp _ hr hc hrp hcp hb).mono ?_; rintro e w' ⟨r, rfl, hr2, hb'⟩)
  go_ret
  refine ⟨?_, hb'⟩
  clear hr hrp hb
  have : decide (0 ≤ r) = has L lp := by
    rw [Bool.eq_iff_iff, decide_eq_true_iff, has_iff, hr2]
  rw [← this]
  rfl
end Go.Proofs.Ytphnmaobpefoiaa.XW
end
section
namespace Go.Proofs.Ytphnmaobpefoiaa.XW
open Go.RowKit Go.Proofs.YtphnmaobpefoiaaXW Go.Proofs.YtphnmaobpefoiaaW.PrintWords Go.Proofs.YtphnmaobpefoiaaW.PrintLast Go.Proofs.YtphnmaobpefoiaaW.PrintMore
set_option linter.unusedVariables false
set_option linter.unusedSimpArgs false
def partAt (x : S34) (s : List Int) (j : Nat) : List S64 := (x.f0.take (j + 1)).drop (rd s (j : Int)).toNat
def wants (x : S34) (j : Nat) : Prop := (rd_T64 x.f0 (j : Int)).f0 ≠ 1 ∧ (rd_T64 x.f0 (j : Int)).f0 ≠ 2
noncomputable def stepP (x : S34) (s : List Int) (L : List (List S64)) (j : Nat) : List (List S64) :=
  @ite _ (wants x j ∧ has L (partAt x s j) = false) (Classical.propDecidable _) (L ++ [partAt x s j]) L
noncomputable def rowP (x : S34) (s : List Int) (L : List (List S64)) : Nat → List (List S64)
  | 0 => L
  | j + 1 => stepP x s (rowP x s L j) j
noncomputable def allP (l : List S34) (st : Nat → List Int) : Nat → List (List S64)
  | 0 => []
  | i + 1 => rowP (rd_T34 l (i : Int)) (st i) (allP l st i) (rd_T34 l (i : Int)).f0.length
def PN (w W : World) (v : Value) (L : List (List S64)) : Prop := ∃ rows : List (List Value), rows.length = L.length ∧ (Kd.raw 1).R 32 W w.heap.size (fun k => some k = v.ownBlock) v rows ∧
  ∀ (j : Nat) (x : List S64) (c : List Value), L[j]? = some x → rows[j]? = some c → Kd.FK (Kd.slice 64 k64) W (fun k => k < w.heap.size) x c
theorem PN_nil (w W : World) : PN w W (.slice none 0 0) [] := ⟨[], rfl, Kd.R_nil _ _ _ _ _, fun j x c h => by simp at h⟩
theorem PN_base {w W : World} {v : Value} {L : List (List S64)} (h : PN w W v L) : ∀ k, v.ownBlock = some k → w.heap.size ≤ k := by
  obtain ⟨rows, hl, hR, hf⟩ := h
  exact Kd.R_base hR
theorem PN_lt {w W : World} {v : Value} {L : List (List S64)} (h : PN w W v L) : ∀ k, v.ownBlock = some k → k < W.heap.size := by
  obtain ⟨rows, hl, hR, hf⟩ := h
  exact Kd.R_lt hR
theorem PN_typed {w W : World} {v : Value} {L : List (List S64)} (h : PN w W v L) : ∀ k, v.ownBlock = some k → ∃ cells, W.heap[k]? = some (.cells cells 32 (0, 0)) := by
  obtain ⟨rows, hl, hR, hf⟩ := h
  exact Kd.R_typed hR
theorem PN_N {w W : World} {v : Value} {L : List (List S64)} (h : PN w W v L) : Kd.N (Kd.slice 64 k64) 32 W w.heap.size (fun k => k < w.heap.size ∨ some k = v.ownBlock) v L := by
  have hb := PN_base h
  obtain ⟨rows, hl, hR, hf⟩ := h
  exact ⟨fun k hk => .inr hk.symm, rows, hl, hR, fun j x c hx hc => Kd.FK_mono (hf j x c hx hc) (fun k hk => ⟨.inl hk, fun e => by have := hb k e.symm; omega⟩)⟩
theorem PN_step {w W W1 : World} {v : Value} {L : List (List S64)} (h : PN w W v L) (hm : ∀ k, (k < w.heap.size ∨ some k = v.ownBlock) → k < W.heap.size → W1.heap[k]? = W.heap[k]?) : PN w W1 v L := by
  obtain ⟨rows, hl, hR, hf⟩ := h
  exact ⟨rows, hl, Kd.R_step hR (fun k hk hlt => hm k (.inr hk) hlt), fun j x c hx hc => Kd.FK_step (hf j x c hx hc) (fun k hk hlt => hm k (.inl hk) hlt)⟩
theorem PN_below {w W W1 : World} {v : Value} {L : List (List S64)} (h : PN w W v L) (hb : Below W.heap.size W W1) : PN w W1 v L := PN_step h (fun k _ hk => hb.block k hk)
theorem PN_set {w W : World} {v : Value} {L : List (List S64)} (h : PN w W v L) {g t : Nat} {cells : Array Value} (hb : W.heap[g]? = some (.cells cells t (0, 0))) (hg : w.heap.size ≤ g) (hne : some g ≠ v.ownBlock) (j : Nat) (u : Value) : PN w (W.setCell ⟨g, j, none⟩ u) v L :=
  PN_step h (fun k hk _ => Below.heap_setCell W ⟨g, j, none⟩ u k (by
    rintro rfl
    rcases hk with hk | hk
    · exact absurd hg (by simpa using hk)
    · exact hne hk))
theorem PN_ne {w W : World} {v : Value} {L : List (List S64)} (h : PN w W v L) {g t : Nat} {cells : Array Value} (hb : W.heap[g]? = some (.cells cells t (0, 0))) (ht : 32 ≠ t) : some g ≠ v.ownBlock := by
  obtain ⟨rows, hl, hR, hf⟩ := h
  exact Kd.R_ne hR hb ht
theorem PN_reads {w W : World} {v : Value} {L : List (List S64)} (h : PN w W v L) : ∃ A c, v = .slice A L.length c ∧ L.length ≤ c ∧ Kd.C (Kd.slice 64 k64) W A L.length L := Kd.N_reads (PN_N h)
theorem PN_C {w W : World} {A : Option Addr} {n c : Nat} {L : List (List S64)} (h : PN w W (.slice A n c) L) : Kd.C (Kd.slice 64 k64) W A L.length L := (Kd.N_reads' (PN_N h)).2.2
theorem k64_heap : Kd.Heap k64 := Kd.heap_iso _ (Kd.heap_pair (Kd.heap_int _) (Kd.heap_pair (Kd.heap_int _) (Kd.heap_iso _ (Kd.heap_pair (Kd.heap_int _) (Kd.heap_pair (Kd.heap_int _) Kd.heap_string)))))
theorem FK_part {w W : World} {A : Option Addr} {c : Nat} {p : List S64} (h : Kd.C k64 w A p.length p) (hc : p.length ≤ c) (hb : Below w.heap.size w W) : Kd.FK (Kd.slice 64 k64) W (fun k => k < w.heap.size) p [.slice A p.length c] := by
  intro W' hW
  have : ∀ k, k < w.heap.size → W'.heap[k]? = w.heap[k]? := fun k hk => (hW k hk (Nat.lt_of_lt_of_le hk hb.size)).trans (hb.block k hk)
  exact ⟨A, c, rfl, hc, Kd.C_F k64_heap h W' (fun k hk _ => this k hk)⟩
theorem sz64 : (Try.prog.info? 64).map (fun i => i.size) = some 5 := by kernel_rfl
theorem info32 : (Try.prog.info? 32).map (fun i => (i.zero, i.size, i.bytes)) = some (some (.slice none 0 0), 1, 24) := by kernel_rfl
section
variable {ops : Array Oper} {rest : List Oper} {o : Oper} {a : Act} {Q : Exit → Act → World → Prop}
theorem PN_append {w W : World} (hgd : o.guard = none) (s x : Operand)
    (ho : o.op = .call { callee := .builtin .append, args := #[s, x], argTypes := #[61, 61] })
    (v : Value) (L : List (List S64)) (p : List S64) (cs : List Value) (hs : a.eval s = v) (hx : a.eval x = .slice (some ⟨W.heap.size, 0, none⟩) 1 1) (hp : Kd.FK (Kd.slice 64 k64) W (fun k => k < w.heap.size) p cs)
    (HO : PN w W v L) (HB : Below w.heap.size w W) (hl : (L.length + 1) * 24 ≤ 140737488355328)
    (h : ∀ v1 w1, PN w w1 v1 (L ++ [p]) → Below w.heap.size w w1 → W.grownBy w1 v.ownBlock → wpList Try.prog ops Q rest (a.put o.dst v1) w1) :
    wpList Try.prog ops Q (o :: rest) a (W.alloc (.cells cs.toArray 32)) := by
  have hbase := PN_base HO
  obtain ⟨rows, hlr, hR, hf⟩ := HO
  refine Kd.R_append (Kd.raw 1) w.heap.size hgd s x 61 32 (.slice none 0 0) 24 ho Try.underlying61 info32 rfl (by decide) (by decide) v rows cs cs (fun _ => True) (fun _ => False) hs hx (Kd.FK_raw hp) (fun _ hk => hk.elim) (fun _ _ => trivial) (Kd.raw_any hR) HB HB.size (by rw [hlr]; exact hl) ?_
  intro v1 w1 hr hb hg hat
  have hmove : ∀ (y : List S64) (c : List Value), Kd.FK (Kd.slice 64 k64) W (fun k => k < w.heap.size) y c → Kd.FK (Kd.slice 64 k64) w1 (fun k => k < w.heap.size) y c := fun y c hy =>
    Kd.FK_grown hy hg (fun k hk e => by have := hbase k e.symm; omega)
  refine h v1 w1 ⟨rows ++ [cs], by simp [hlr], Kd.raw_tight hr, fun j y c hy hc => ?_⟩ hb hg
  by_cases hj : j < L.length
  · rw [List.getElem?_append_left hj] at hy
    rw [List.getElem?_append_left (by omega)] at hc
    exact hmove y c (hf j y c hy hc)
  · rw [List.getElem?_append_right (by omega)] at hy hc
    rw [← hlr] at hy
    cases hj2 : j - rows.length with
    | zero =>
      rw [hj2] at hy hc
      simp only [List.getElem?_cons_zero, Option.some.injEq] at hy hc
      subst hy hc
      exact hmove _ _ hp
    | succ n =>
      rw [hj2] at hy
      simp at hy
end
theorem RI_grown {w W W1 : World} {u v : Value} {L : List (List S64)} {base : Nat} {xs : List Int} (h : Kd.R (Kd.int .i64) 3 W base (fun _ => True) v xs) (hp : PN w W u L) (hg : W.grownBy W1 u.ownBlock) : Kd.R (Kd.int .i64) 3 W1 base (fun _ => True) v xs :=
  Kd.R_mono (Kd.R_grown (Kd.R_bound h) hg (fun k hk e => by
    obtain ⟨_, _, _, q, hq, cells, hc⟩ := hk
    obtain ⟨cells', hc'⟩ := PN_typed hp k e.symm
    rw [hc] at hc'
    injection hc' with hc'
    injection hc' with _ hc'
    subst hc'
    simp [Kd.int, Kd.scalar] at hq)) (fun _ _ => trivial)
end Go.Proofs.Ytphnmaobpefoiaa.XW
end
section
namespace Go.Proofs.Ytphnmaobpefoiaa.XW
open Go.RowKit Go.Proofs.YtphnmaobpefoiaaXW Go.Proofs.YtphnmaobpefoiaaW.PrintWords Go.Proofs.YtphnmaobpefoiaaW.PrintLast Go.Proofs.YtphnmaobpefoiaaW.PrintMore
set_option linter.unusedVariables false
set_option linter.unusedSimpArgs false
set_option maxHeartbeats 8000000 in
set_option maxRecDepth 100000 in
theorem work_bad (k : Nat) (A0 : Option Addr) (c0 : Nat) (l0 : List (S86)) (a1_0 : Int) (A1_1 : Option Addr) (c1_1 : Nat) (l1_1 : List (S39)) (a1_2 : Bool) (A1_3 : Option Addr) (c1_3 : Nat) (l1_3 : List Int) (A2 : Option Addr) (c2 : Nat) (l2 : List (S34)) (w : World) (hr0 : Kd.C k86 w A0 l0.length l0) (hc0 : l0.length ≤ c0) (hr1_1 : Kd.C k39 w A1_1 l1_1.length l1_1) (hc1_1 : l1_1.length ≤ c1_1) (hr1_3 : Kd.C (Kd.int .i64) w A1_3 l1_3.length l1_3) (hc1_3 : l1_3.length ≤ c1_3) (hr2 : Kd.C k34 w A2 l2.length l2) (hc2 : l2.length ≤ c2)
    (kinds : List Int) (f : Int) (hP : Qap.f k l0 a1_0 l1_1 a1_2 l1_3 l2 = some (kinds, f)) (hf : f ≠ 0) :
    Calls Try.prog 6 #[.slice A0 l0.length c0, .agg #[.int .i64 a1_0, .slice A1_1 l1_1.length c1_1, .bool a1_2, .slice A1_3 l1_3.length c1_3], .slice A2 l2.length c2] w fun e w' => e = .returned (.tuple #[.int .i64 0, .int .i64 f]) ∧ Below w.heap.size w w' := by
  have hu26 := Try.underlying26
  have hu34 := Try.underlying34
  have HR0 := Qaa.mk hr0
  have HR1_1 := Qaa.mk hr1_1
  have HR1_3 := Qaa.mk hr1_3
  have HR2 := Qaa.mk hr2
  clear hr0 hr1_1 hr1_3 hr2
  have HB := Qaa.mk (Below.refl w.heap.size w)
  have c5b0 : (f == 0) = false := beq_eq_false_iff_ne.mpr hf
  have c5b1 : (f != 0) = true := bne_iff_ne.mpr hf
  go_enter Try.func6, Try.ntmps6
  go_wp2_with (first
    | ((with_reducible refine gate_dst (N := 4) rfl ?_); refine box_event ?hg (N := 4) ?hd (cs := #[.int .i64 a1_0, .slice A1_1 l1_1.length c1_1, .bool a1_2, .slice A1_3 l1_3.length c1_3]) (t := 26) ?hr ?_; (case hd => rfl); (case hg => rfl); (case hr => first | (go_simp; done) | (go_simp; rfl)); intro gb hg w1 hbox hb; have BK := Qaa.mk hbox; have HB1 := Qaa.mk hb; clear HB hbox hb hg; have hcz0 : w1.cell? ⟨gb, 0, none⟩ = some (.int .i64 a1_0) := (blk_cell BK.out 0).trans rfl; have hcz1 : w1.cell? ⟨gb, 1, none⟩ = some (.slice A1_1 l1_1.length c1_1) := (blk_cell BK.out 1).trans rfl; have hcz2 : w1.cell? ⟨gb, 2, none⟩ = some (.bool a1_2) := (blk_cell BK.out 2).trans rfl; have hcz3 : w1.cell? ⟨gb, 3, none⟩ = some (.slice A1_3 l1_3.length c1_3) := (blk_cell BK.out 3).trans rfl)
    | (go_at_call 17; (with_reducible refine (Qap.calls k _ _ l0 _ _ _ l1_1 _ _ _ l1_3 _ _ l2 kinds f _ ?s1 ?s2 ?s3 ?s4 ?s5 ?s6 ?s7 ?s8 hP).mono ?_); (case s1 => exact Kd.C_below HR0.out HB1.out); (case s2 => exact hc0); (case s3 => exact Kd.C_below HR1_1.out HB1.out); (case s4 => exact hc1_1); (case s5 => exact Kd.C_below HR1_3.out HB1.out); (case s6 => exact hc1_3); (case s7 => exact Kd.C_below HR2.out HB1.out); (case s8 => exact hc2); rintro e w2 ⟨v0, rfl, _, hb2⟩; have HB := Qaa.mk (below_step HB1.out hb2); clear hb2))
  go_ret2
  exact ⟨rfl, HB.out⟩
set_option maxHeartbeats 8000000 in
set_option maxRecDepth 100000 in
theorem work_ok (k : Nat) (A0 : Option Addr) (c0 : Nat) (l0 : List (S86)) (a1_0 : Int) (A1_1 : Option Addr) (c1_1 : Nat) (l1_1 : List (S39)) (a1_2 : Bool) (A1_3 : Option Addr) (c1_3 : Nat) (l1_3 : List Int) (A2 : Option Addr) (c2 : Nat) (l2 : List (S34)) (w : World) (hr0 : Kd.C k86 w A0 l0.length l0) (hc0 : l0.length ≤ c0) (hr1_1 : Kd.C k39 w A1_1 l1_1.length l1_1) (hc1_1 : l1_1.length ≤ c1_1) (hr1_3 : Kd.C (Kd.int .i64) w A1_3 l1_3.length l1_3) (hc1_3 : l1_3.length ≤ c1_3) (hr2 : Kd.C k34 w A2 l2.length l2) (hc2 : l2.length ≤ c2)
    (kinds pk : List Int) (st : Nat → List Int) (hP : Qap.f k l0 a1_0 l1_1 a1_2 l1_3 l2 = some (kinds, 0))
    (hS : Qaa (∀ i, i < l2.length → Qaq.f k (rd_T34 l2 (i : Int)).f0 = some (st i) ∧ (st i).length = (rd_T34 l2 (i : Int)).f0.length ∧ ∀ j, j < (st i).length → 0 ≤ rd (st i) (j : Int) ∧ rd (st i) (j : Int) ≤ j))
    (hlen : Qaa (∀ i j, i < l2.length → j ≤ (rd_T34 l2 (i : Int)).f0.length → (rowP (rd_T34 l2 (i : Int)) (st i) (allP l2 st i) j).length < 5000000000000))
    (hK : Qaw.f k a1_0 l1_1 a1_2 l1_3 = some pk) :
    Calls Try.prog 6 #[.slice A0 l0.length c0, .agg #[.int .i64 a1_0, .slice A1_1 l1_1.length c1_1, .bool a1_2, .slice A1_3 l1_3.length c1_3], .slice A2 l2.length c2] w fun e w' => e = .returned (.tuple #[.int .i64 (wrap64 ((allP l2 st l2.length).length * (pk.length : Int))), .int .i64 0]) ∧ Below w.heap.size w w' := by
  have hu26 := Try.underlying26
  have hu34 := Try.underlying34
  have hu64 := Try.underlying64
  have HR0 := Qaa.mk hr0
  have HR1_1 := Qaa.mk hr1_1
  have HR1_3 := Qaa.mk hr1_3
  have HR2 := Qaa.mk hr2
  have hl2 : l2.length ≤ 9223372036854775807 := hr2.2.1
  clear hr0 hr1_1 hr1_3 hr2
  have HB := Qaa.mk (Below.refl w.heap.size w)
  go_enter Try.func6, Try.ntmps6
  go_wp2_with (first
    | ((with_reducible refine gate_dst (N := 4) rfl ?_); refine box_event ?hg (N := 4) ?hd (cs := #[.int .i64 a1_0, .slice A1_1 l1_1.length c1_1, .bool a1_2, .slice A1_3 l1_3.length c1_3]) (t := 26) ?hr ?_; (case hd => rfl); (case hg => rfl); (case hr => first | (go_simp; done) | (go_simp; rfl)); intro gb hg w1 hbox hb; have BK := Qaa.mk hbox; have HB1 := Qaa.mk hb; have GE := Qaa.mk (show w.heap.size ≤ gb by rw [hg]; exact Nat.le_refl _); clear HB hbox hb hg; have hcz0 : w1.cell? ⟨gb, 0, none⟩ = some (.int .i64 a1_0) := (blk_cell BK.out 0).trans rfl; have hcz1 : w1.cell? ⟨gb, 1, none⟩ = some (.slice A1_1 l1_1.length c1_1) := (blk_cell BK.out 1).trans rfl; have hcz2 : w1.cell? ⟨gb, 2, none⟩ = some (.bool a1_2) := (blk_cell BK.out 2).trans rfl; have hcz3 : w1.cell? ⟨gb, 3, none⟩ = some (.slice A1_3 l1_3.length c1_3) := (blk_cell BK.out 3).trans rfl)
    | (go_at_call 17; (with_reducible refine (Qap.calls k _ _ l0 _ _ _ l1_1 _ _ _ l1_3 _ _ l2 kinds 0 _ ?s1 ?s2 ?s3 ?s4 ?s5 ?s6 ?s7 ?s8 hP).mono ?_); (case s1 => exact Kd.C_below HR0.out HB1.out); (case s2 => exact hc0); (case s3 => exact Kd.C_below HR1_1.out HB1.out); (case s4 => exact hc1_1); (case s5 => exact Kd.C_below HR1_3.out HB1.out); (case s6 => exact hc1_3); (case s7 => exact Kd.C_below HR2.out HB1.out); (case s8 => exact hc2); rintro e w2 ⟨v0, rfl, _, hb2⟩; have HB := Qaa.mk (below_step HB1.out hb2); have BK2 := Qaa.mk (blk_below BK.out hb2); clear hb2 BK HB1 hcz0 hcz1 hcz2 hcz3))
  go_loopg [10, 29] l2.length (fun gg v10 v29 w' => ∃ i : Nat, i ≤ l2.length ∧ l2.length - i ≤ gg ∧ v29 = .int .i64 (i : Int) ∧ Qaa (PN w w' v10 (allP l2 st i)) ∧ Qaa (w'.heap[gb]? = some (.cells #[.int .i64 a1_0, .slice A1_1 l1_1.length c1_1, .bool a1_2, .slice A1_3 l1_3.length c1_3] 26 (0, 0))) ∧ Qaa (Below w.heap.size w w'))
  case atStart => exact ⟨0, Nat.zero_le _, by omega, rfl, ⟨PN_nil _ _⟩, BK2, HB⟩
  case round =>
    clear HB BK2
    obtain ⟨i, hi, hgg, rfl, HP, BK, HB⟩ := hrel
    by_cases hlt : i < l2.length
    · have hlt' : (i : Int) < (l2.length : Int) := by omega
      obtain ⟨hS1, hS2, hS3⟩ := hS.out i hlt
      have hn := hlen.out i
      obtain ⟨x, hx⟩ : ∃ x, x = rd_T34 l2 (i : Int) := ⟨_, rfl⟩
      obtain ⟨s, hs⟩ : ∃ s, s = st i := ⟨_, rfl⟩
      obtain ⟨L0, hL0⟩ : ∃ L0, L0 = allP l2 st i := ⟨_, rfl⟩
      obtain ⟨adx, Ax, cx, ex, hx0, hlx, hix⟩ := at_T34 HR2.out (i : Int) (by omega) hlt'
      subst ex
      rw [← hx] at hS1 hS2 hx0 hlx hix
      simp only [← hx] at hn
      rw [← hs] at hS1 hS2 hS3 hn
      rw [← hL0] at HP hn
      replace hx0 := (HB.out.cell (World.block_lt_of_cell? w _ hx0)).trans hx0
      rw [Int.toNat_natCast] at hx0
      have HX := Qaa.mk hx
      have HS0 := Qaa.mk hs
      have HL := Qaa.mk hL0
      have HIX := Qaa.mk hix
      have HS1 := Qaa.mk hS1
      have HS2 := Qaa.mk hS2
      have HS3 := Qaa.mk hS3
      have HN := Qaa.mk hn
      clear hx hs hL0 hix hS1 hS2 hS3 hn
      go_wp2_with (first
        | ((with_reducible refine gate_dst (N := 12) rfl ?_); refine box_event ?hg (N := 12) ?hd (cs := #[.slice none 0 0]) (t := 34) ?hr ?_; (case hd => rfl); (case hg => rfl); (case hr => first | (go_simp; done) | (go_simp; rfl)); intro gx hg w3 hbox hb; have GX := Qaa.mk (show w.heap.size ≤ gx by rw [hg]; exact HB.out.size); have NE := Qaa.mk (show gb ≠ gx by rw [hg]; exact Nat.ne_of_lt (blk_lt BK.out)); have BX := Qaa.mk hbox; have HP3 := Qaa.mk (PN_below HP.out hb); have BK3 := Qaa.mk (blk_below BK.out hb); have HB3 := Qaa.mk (below_step HB.out hb); clear HP BK HB hbox hb hg; have hcx : w3.cell? ⟨gx, 0, none⟩ = some (.slice none 0 0) := (blk_cell BX.out 0).trans rfl; have hfx := blk_frozen BX.out 0)
        | (go_at_call 18; (with_reducible refine (Qaq.calls k _ _ x.f0 s _ ?s1 ?s2 HS1.out).mono ?_); (case s1 => exact Kd.C_below HIX.out (below_set HB3.out GX.out)); (case s2 => exact hlx); rintro e w4 ⟨v34, rfl, hv34, hb4⟩; obtain ⟨A34, c34, rfl⟩ := Kd.R_slice hv34; have HV := Qaa.mk (Kd.R_lower hv34 (below_set HB3.out GX.out).size); have HP := Qaa.mk (PN_below (PN_set HP3.out BX.out GX.out (PN_ne HP3.out BX.out (by decide)) 0 (.slice Ax x.f0.length cx)) hb4); have BK := Qaa.mk (blk_below (blk_far BK3.out NE.out _) hb4); have BX4 := Qaa.mk (blk_below (blk_put (cs := #[.slice none 0 0]) BX.out 0 (.slice Ax x.f0.length cx) rfl) hb4); have HB := Qaa.mk (below_step (below_set HB3.out GX.out) hb4); clear hv34 hb4 HP3 BK3 BX HB3 hcx hfx))
      go_loopg [10, 36] s.length (fun gg v10 v36 w' => ∃ j : Nat, j ≤ s.length ∧ s.length - j ≤ gg ∧ v36 = .int .i64 (j : Int) ∧ Qaa (PN w w' v10 (rowP x s L0 j)) ∧ Qaa (w'.heap[gb]? = some (.cells #[.int .i64 a1_0, .slice A1_1 l1_1.length c1_1, .bool a1_2, .slice A1_3 l1_3.length c1_3] 26 (0, 0))) ∧ Qaa (w'.heap[gx]? = some (.cells #[.slice Ax x.f0.length cx] 34 (0, 0))) ∧ Qaa (Kd.R (Kd.int .i64) 3 w' w.heap.size (fun _ => True) (.slice A34 s.length c34) s) ∧ Qaa (Below w.heap.size w w'))
      case atStart => exact ⟨0, Nat.zero_le _, by omega, rfl, HP, BK, BX4, HV, HB⟩
      case round =>
        clear HP BK BX4 HV HB
        obtain ⟨j, hj, hgg2, rfl, HP, BK, BX, HV, HB⟩ := hrel
        by_cases hjlt : j < s.length
        · have hjlt' : (j : Int) < (s.length : Int) := by omega
          obtain ⟨hf0, hf1⟩ := HS3.out j hjlt
          obtain ⟨p, hp⟩ : ∃ p, p = partAt x s j := ⟨_, rfl⟩
          have HPD := Qaa.mk hp
          unfold partAt at hp
          obtain ⟨fr, hfr⟩ : ∃ fr, fr = rd s (j : Int) := ⟨_, rfl⟩
          rw [← hfr] at hf0 hf1 hp
          obtain ⟨Lj, hLj⟩ : ∃ Lj, Lj = rowP x s L0 j := ⟨_, rfl⟩
          have hLn : Lj.length < 5000000000000 := by rw [hLj]; exact HN.out j hlt (by have := HS2.out; omega)
          rw [← hLj] at HP
          have HLJ := Qaa.mk hLj
          clear hLj
          obtain ⟨A10, c10, rfl, hc10, hC10⟩ := PN_reads HP.out
          have HC10 := Qaa.mk hC10
          clear hC10
          obtain ⟨ad34, e34, hx34⟩ := Kd.at_int (Kd.R_reads' HV.out).2.2 (j : Int) (by omega) hjlt'
          subst e34
          rw [← hfr, Int.toNat_natCast] at hx34
          have hS2 := HS2.out
          have hjx : (j : Int) < (x.f0.length : Int) := by omega
          obtain ⟨adn, en, hn0, hn1, hn2, hn3, hn4⟩ := at_T64 HIX.out (j : Int) (by omega) hjx
          subst en
          rw [Int.toNat_natCast] at hn0
          clear hn1 hn2 hn3 hn4
          replace hn0 := (HB.out.cell (World.block_lt_of_cell? w _ hn0)).trans hn0
          obtain ⟨kd, hkd⟩ : ∃ kd, kd = (rd_T64 x.f0 (j : Int)).f0 := ⟨_, rfl⟩
          rw [← hkd] at hn0
          have hjw : IntKind.i64.wrap ((j : Int) + 1) = (j : Int) + 1 := by
            rw [i64_w]; unfold wrap64; have := HIX.out.2.1; omega
          obtain ⟨i0, hi0, hsz⟩ := Option.map_eq_some_iff.1 sz64
          have hcut := cut_mid (P := Try.prog) 32 64 .i64 .i64 Try.underlying32 hi0 5 hsz (some adn) x.f0.length cx fr ((j : Int) + 1) hf0 (by omega) (by omega) hlx
          have hcm := Kd.C_mid (lo := fr.toNat) (hi := j + 1) (c := cx) HIX.out (by omega) (by omega) hlx
          rw [← hp] at hcm
          have hpl : p.length = j + 1 - fr.toNat := by rw [hp, List.length_drop, List.length_take]; omega
          rw [show ((j : Int) + 1).toNat = j + 1 from by omega, ← hpl] at hcut
          obtain ⟨Ap, hAp⟩ : ∃ A1, A1 = (if cx = fr.toNat then some adn else (some adn : Option Addr).map (·.add (fr.toNat * 5))) := ⟨_, rfl⟩
          obtain ⟨cp, hcp⟩ : ∃ c1, c1 = cx - fr.toNat := ⟨_, rfl⟩
          replace hcm : Kd.C k64 w Ap p.length p := by rw [hAp]; exact hcm
          have hpc : p.length ≤ cp := by rw [hpl, hcp]; omega
          rw [← hAp, ← hcp] at hcut
          have HCM := Qaa.mk hcm
          have HPL := Qaa.mk hpl
          have HKD := Qaa.mk hkd
          have HFR := Qaa.mk hfr
          have hcellx : wr.cell? ⟨gx, 0, none⟩ = some (.slice (some adn) x.f0.length cx) := (blk_cell BX.out 0).trans rfl
          clear hS2 hcm hpl hkd hfr hp hAp hcp hi0 hsz hf1
          by_cases k1 : kd = 1
          · have kb1 : (kd != 1) = false := by rw [k1]; rfl
            clear k1
            go_wp2_with (first
              | ((with_reducible refine gate_dst (N := 16) rfl ?_); refine box_event ?hg (N := 16) ?hd (cs := #[.slice none 0 0]) (t := 32) ?hr ?_; (case hd => rfl); (case hg => rfl); (case hr => first | (go_simp; done) | (go_simp; rfl)); intro gp hg w5 hbox hb; have GP := Qaa.mk (show w.heap.size ≤ gp by rw [hg]; exact HB.out.size); have NB := Qaa.mk (show gb ≠ gp by rw [hg]; exact Nat.ne_of_lt (blk_lt BK.out)); have NX := Qaa.mk (show gx ≠ gp by rw [hg]; exact Nat.ne_of_lt (blk_lt BX.out)); have NP := Qaa.mk (show some gp ≠ (Value.slice A10 Lj.length c10).ownBlock by rw [hg]; intro e; exact Nat.lt_irrefl _ (PN_lt HP.out _ e.symm)); have BP := Qaa.mk hbox; have HP5 := Qaa.mk (PN_set (PN_below HP.out hb) hbox GP.out NP.out 0 (.slice Ap p.length cp)); have BK5 := Qaa.mk (blk_far (p := ⟨gp, 0, none⟩) (blk_below BK.out hb) NB.out (.slice Ap p.length cp)); have BX5 := Qaa.mk (blk_far (p := ⟨gp, 0, none⟩) (blk_below BX.out hb) NX.out (.slice Ap p.length cp)); have HV5 := Qaa.mk (Kd.R_mono (Kd.R_set (Kd.R_below HV.out hb) hbox (by decide) 0 (.slice Ap p.length cp)) (fun _ _ => trivial)); have HB5 := Qaa.mk (show Below w.heap.size w (w5.setCell ⟨gp, 0, none⟩ (.slice Ap p.length cp)) from below_set (below_step HB.out hb) GP.out); clear HP BK BX HV HB hbox hb hg hcellx hx34 hn0 HC10; have hcp5 : w5.cell? ⟨gp, 0, none⟩ = some (.slice none 0 0) := (blk_cell BP.out 0).trans rfl; have hfp5 := blk_frozen BP.out 0))
            go_roundg (s.length - (j + 1))
            case measure => omega
            case rel => exact ⟨j + 1, by omega, by omega, by go_num, ⟨by rw [show rowP x s L0 (j + 1) = Lj from by rw [HLJ.out]; exact if_neg (by rintro ⟨⟨h1, h2⟩, h3⟩; exact h1 (by rw [← HKD.out]; simpa using kb1))]; exact HP5.out⟩, BK5, BX5, HV5, HB5⟩
          · have kb1 : (kd != 1) = true := bne_iff_ne.mpr k1
            by_cases k2 : kd = 2
            · have kb2 : (kd != 2) = false := by rw [k2]; rfl
              have K2 := Qaa.mk k2
              clear k1 k2
              go_wp2_with (first
                | ((with_reducible refine gate_dst (N := 16) rfl ?_); refine box_event ?hg (N := 16) ?hd (cs := #[.slice none 0 0]) (t := 32) ?hr ?_; (case hd => rfl); (case hg => rfl); (case hr => first | (go_simp; done) | (go_simp; rfl)); intro gp hg w5 hbox hb; have GP := Qaa.mk (show w.heap.size ≤ gp by rw [hg]; exact HB.out.size); have NB := Qaa.mk (show gb ≠ gp by rw [hg]; exact Nat.ne_of_lt (blk_lt BK.out)); have NX := Qaa.mk (show gx ≠ gp by rw [hg]; exact Nat.ne_of_lt (blk_lt BX.out)); have NP := Qaa.mk (show some gp ≠ (Value.slice A10 Lj.length c10).ownBlock by rw [hg]; intro e; exact Nat.lt_irrefl _ (PN_lt HP.out _ e.symm)); have BP := Qaa.mk hbox; have HP5 := Qaa.mk (PN_set (PN_below HP.out hb) hbox GP.out NP.out 0 (.slice Ap p.length cp)); have BK5 := Qaa.mk (blk_far (p := ⟨gp, 0, none⟩) (blk_below BK.out hb) NB.out (.slice Ap p.length cp)); have BX5 := Qaa.mk (blk_far (p := ⟨gp, 0, none⟩) (blk_below BX.out hb) NX.out (.slice Ap p.length cp)); have HV5 := Qaa.mk (Kd.R_mono (Kd.R_set (Kd.R_below HV.out hb) hbox (by decide) 0 (.slice Ap p.length cp)) (fun _ _ => trivial)); have HB5 := Qaa.mk (show Below w.heap.size w (w5.setCell ⟨gp, 0, none⟩ (.slice Ap p.length cp)) from below_set (below_step HB.out hb) GP.out); clear HP BK BX HV HB hbox hb hg hcellx hx34 hn0 HC10; have hcp5 : w5.cell? ⟨gp, 0, none⟩ = some (.slice none 0 0) := (blk_cell BP.out 0).trans rfl; have hfp5 := blk_frozen BP.out 0))
              go_roundg (s.length - (j + 1))
              case measure => omega
              case rel => exact ⟨j + 1, by omega, by omega, by go_num, ⟨by rw [show rowP x s L0 (j + 1) = Lj from by rw [HLJ.out]; exact if_neg (by rintro ⟨⟨h1, h2⟩, h3⟩; exact h2 (by rw [← HKD.out]; exact K2.out))]; exact HP5.out⟩, BK5, BX5, HV5, HB5⟩
            · have kb2 : (kd != 2) = true := bne_iff_ne.mpr k2
              have K12 := Qaa.mk (And.intro k1 k2)
              clear k1 k2
              cases hq0 : has Lj p with
              | true =>
                have HQ := Qaa.mk hq0
                have hq := hq0
                go_wp2_with (first
                  | ((with_reducible refine gate_dst (N := 16) rfl ?_); refine box_event ?hg (N := 16) ?hd (cs := #[.slice none 0 0]) (t := 32) ?hr ?_; (case hd => rfl); (case hg => rfl); (case hr => first | (go_simp; done) | (go_simp; rfl)); intro gp hg w5 hbox hb; have GP := Qaa.mk (show w.heap.size ≤ gp by rw [hg]; exact HB.out.size); have NB := Qaa.mk (show gb ≠ gp by rw [hg]; exact Nat.ne_of_lt (blk_lt BK.out)); have NX := Qaa.mk (show gx ≠ gp by rw [hg]; exact Nat.ne_of_lt (blk_lt BX.out)); have NP := Qaa.mk (show some gp ≠ (Value.slice A10 Lj.length c10).ownBlock by rw [hg]; intro e; exact Nat.lt_irrefl _ (PN_lt HP.out _ e.symm)); have BP := Qaa.mk hbox; have HP5 := Qaa.mk (PN_set (PN_below HP.out hb) hbox GP.out NP.out 0 (.slice Ap p.length cp)); have BK5 := Qaa.mk (blk_far (p := ⟨gp, 0, none⟩) (blk_below BK.out hb) NB.out (.slice Ap p.length cp)); have BX5 := Qaa.mk (blk_far (p := ⟨gp, 0, none⟩) (blk_below BX.out hb) NX.out (.slice Ap p.length cp)); have HV5 := Qaa.mk (Kd.R_mono (Kd.R_set (Kd.R_below HV.out hb) hbox (by decide) 0 (.slice Ap p.length cp)) (fun _ _ => trivial)); have HB5 := Qaa.mk (show Below w.heap.size w (w5.setCell ⟨gp, 0, none⟩ (.slice Ap p.length cp)) from below_set (below_step HB.out hb) GP.out); clear HP BK BX HV HB hbox hb hg hcellx hx34 hn0 HC10; have hcp5 : w5.cell? ⟨gp, 0, none⟩ = some (.slice none 0 0) := (blk_cell BP.out 0).trans rfl; have hfp5 := blk_frozen BP.out 0)
                  | (go_at_call 19; refine (con.calls A10 c10 Lj gp Ap cp p _ ?r1 hc10 ?r2 hpc ?r3).mono ?_; (case r1 => exact PN_C HP5.out); (case r2 => exact Kd.C_below HCM.out HB5.out); (case r3 => exact blk_put (cs := #[.slice none 0 0]) BP.out 0 (.slice Ap p.length cp) rfl); rintro e w6 ⟨he, hb6⟩; rw [hq] at he; subst he; have HP6 := Qaa.mk (PN_below HP5.out hb6); have BK6 := Qaa.mk (blk_below BK5.out hb6); have BX6 := Qaa.mk (blk_below BX5.out hb6); have BP6 := Qaa.mk (blk_below (blk_put (cs := #[.slice none 0 0]) BP.out 0 (.slice Ap p.length cp) rfl) hb6); have HV6 := Qaa.mk (Kd.R_below HV5.out hb6); have HB6 := Qaa.mk (below_step HB5.out hb6); clear HP5 BK5 BX5 BP HV5 HB5 hb6 hcp5 hfp5; have hcp6 : w6.cell? ⟨gp, 0, none⟩ = some (.slice Ap p.length cp) := (blk_cell BP6.out 0).trans rfl))
                go_roundg (s.length - (j + 1))
                case measure => omega
                case rel => exact ⟨j + 1, by omega, by omega, by go_num, ⟨by rw [show rowP x s L0 (j + 1) = Lj from by rw [HLJ.out]; exact if_neg (by rintro ⟨⟨h1, h2⟩, h3⟩; rw [← HLJ.out, ← HPD.out, HQ.out] at h3; cases h3)]; exact HP6.out⟩, BK6, BX6, HV6, HB6⟩
              | false =>
                have HQ := Qaa.mk hq0
                have hq := hq0
                go_wp2_with (first
                  | ((with_reducible refine gate_dst (N := 16) rfl ?_); refine box_event ?hg (N := 16) ?hd (cs := #[.slice none 0 0]) (t := 32) ?hr ?_; (case hd => rfl); (case hg => rfl); (case hr => first | (go_simp; done) | (go_simp; rfl)); intro gp hg w5 hbox hb; have GP := Qaa.mk (show w.heap.size ≤ gp by rw [hg]; exact HB.out.size); have NB := Qaa.mk (show gb ≠ gp by rw [hg]; exact Nat.ne_of_lt (blk_lt BK.out)); have NX := Qaa.mk (show gx ≠ gp by rw [hg]; exact Nat.ne_of_lt (blk_lt BX.out)); have NP := Qaa.mk (show some gp ≠ (Value.slice A10 Lj.length c10).ownBlock by rw [hg]; intro e; exact Nat.lt_irrefl _ (PN_lt HP.out _ e.symm)); have BP := Qaa.mk hbox; have HP5 := Qaa.mk (PN_set (PN_below HP.out hb) hbox GP.out NP.out 0 (.slice Ap p.length cp)); have BK5 := Qaa.mk (blk_far (p := ⟨gp, 0, none⟩) (blk_below BK.out hb) NB.out (.slice Ap p.length cp)); have BX5 := Qaa.mk (blk_far (p := ⟨gp, 0, none⟩) (blk_below BX.out hb) NX.out (.slice Ap p.length cp)); have HV5 := Qaa.mk (Kd.R_mono (Kd.R_set (Kd.R_below HV.out hb) hbox (by decide) 0 (.slice Ap p.length cp)) (fun _ _ => trivial)); have HB5 := Qaa.mk (show Below w.heap.size w (w5.setCell ⟨gp, 0, none⟩ (.slice Ap p.length cp)) from below_set (below_step HB.out hb) GP.out); clear HP BK BX HV HB hbox hb hg hcellx hx34 hn0 HC10; have hcp5 : w5.cell? ⟨gp, 0, none⟩ = some (.slice none 0 0) := (blk_cell BP.out 0).trans rfl; have hfp5 := blk_frozen BP.out 0)
                  | (go_at_call 19; refine (con.calls A10 c10 Lj gp Ap cp p _ ?r1 hc10 ?r2 hpc ?r3).mono ?_; (case r1 => exact PN_C HP5.out); (case r2 => exact Kd.C_below HCM.out HB5.out); (case r3 => exact blk_put (cs := #[.slice none 0 0]) BP.out 0 (.slice Ap p.length cp) rfl); rintro e w6 ⟨he, hb6⟩; rw [hq] at he; subst he; have HP6 := Qaa.mk (PN_below HP5.out hb6); have BK6 := Qaa.mk (blk_below BK5.out hb6); have BX6 := Qaa.mk (blk_below BX5.out hb6); have BP6 := Qaa.mk (blk_below (blk_put (cs := #[.slice none 0 0]) BP.out 0 (.slice Ap p.length cp) rfl) hb6); have HV6 := Qaa.mk (Kd.R_below HV5.out hb6); have HB6 := Qaa.mk (below_step HB5.out hb6); clear HP5 BK5 BX5 BP HV5 HB5 hb6 hcp5 hfp5; have hcp6 : w6.cell? ⟨gp, 0, none⟩ = some (.slice Ap p.length cp) := (blk_cell BP6.out 0).trans rfl)
                  | ((with_reducible refine gate_builtin (b := .append) (xs := #[.tmp 65, .tmp 67]) rfl ?_); at_builtin; refine PN_append (w := w) rfl (.tmp 65) (.tmp 67) rfl (.slice A10 Lj.length c10) Lj p [.slice Ap p.length cp] rfl rfl ?a1 ?a2 ?a3 ?a4 ?_; (case a1 => exact FK_part HCM.out hpc HB6.out); (case a2 => exact HP6.out); (case a3 => exact HB6.out); (case a4 => omega); intro v1 w7 hp7 hb7 hg7; have HP7 := Qaa.mk hp7; have BK7 := Qaa.mk (blk_grown BK6.out hg7 (PN_ne HP6.out BK6.out (by decide))); have BX7 := Qaa.mk (blk_grown BX6.out hg7 (PN_ne HP6.out BX6.out (by decide))); have HV7 := Qaa.mk (RI_grown HV6.out HP6.out hg7); have HB7 := Qaa.mk hb7; clear HP6 BK6 BX6 HV6 HB6 hp7 hb7 hg7))
                go_roundg (s.length - (j + 1))
                case measure => omega
                case rel => exact ⟨j + 1, by omega, by omega, by go_num, ⟨by rw [show rowP x s L0 (j + 1) = Lj ++ [p] from by rw [HLJ.out, HPD.out]; exact if_pos ⟨⟨by rw [← HKD.out]; exact K12.out.1, by rw [← HKD.out]; exact K12.out.2⟩, by rw [← HLJ.out, ← HPD.out]; exact HQ.out⟩]; exact HP7.out⟩, BK7, BX7, HV7, HB7⟩
        · have hje : j = s.length := by omega
          subst hje
          go_wp2
          go_roundg (l2.length - (i + 1))
          case measure => omega
          case rel => exact ⟨i + 1, by omega, by omega, by go_num, ⟨by rw [show allP l2 st (i + 1) = rowP x s L0 s.length from by rw [HS2.out, HX.out, HS0.out, HL.out]; rfl]; exact HP.out⟩, BK, HB⟩
    · have hie : i = l2.length := by omega
      subst hie
      obtain ⟨A10, c10, rfl, hc10, hC10⟩ := PN_reads HP.out
      clear hC10
      have hcz0 : wr.cell? ⟨gb, 0, none⟩ = some (.int .i64 a1_0) := (blk_cell BK.out 0).trans rfl
      have hcz1 : wr.cell? ⟨gb, 1, none⟩ = some (.slice A1_1 l1_1.length c1_1) := (blk_cell BK.out 1).trans rfl
      have hcz2 : wr.cell? ⟨gb, 2, none⟩ = some (.bool a1_2) := (blk_cell BK.out 2).trans rfl
      have hcz3 : wr.cell? ⟨gb, 3, none⟩ = some (.slice A1_3 l1_3.length c1_3) := (blk_cell BK.out 3).trans rfl
      go_wp2_with (first
        | (go_at_call 22; refine (Qaw.calls k a1_0 _ _ l1_1 a1_2 (fun k_ => k_ < w.heap.size) A1_3 c1_3 l1_3 pk _ ?s1 hc1_1 ?s2 hK).mono ?_; (case s1 => exact Kd.C_below HR1_1.out HB.out); (case s2 => exact Kd.V_mk hc1_3 (Kd.F_below (Kd.C_F (Kd.heap_int _) HR1_3.out) HB.out)); rintro e w8 ⟨v8, rfl, hv8, hb8⟩; obtain ⟨A8, c8, rfl, _, _⟩ := hv8; have HB8 := Qaa.mk (below_step HB.out hb8); clear hb8))
      go_ret2
      exact ⟨rfl, HB8.out⟩
end Go.Proofs.Ytphnmaobpefoiaa.XW
end
section
namespace Go.Proofs.Ytphnmaobpefoiaa.XW
open Go.RowKit Go.Proofs.YtphnmaobpefoiaaXW Go.Proofs.YtphnmaobpefoiaaW.PrintWords Go.Proofs.YtphnmaobpefoiaaW.PrintLast Go.Proofs.YtphnmaobpefoiaaW.PrintMore
set_option linter.unusedVariables false
set_option linter.unusedSimpArgs false
def WorkRet (l0 : List S86) (a1_0 : Int) (l1_1 : List S39) (a1_2 : Bool) (l1_3 : List Int) (l2 : List S34) (n f : Int) : Prop :=
  ∀ (A0 : Option Addr) (c0 : Nat) (A1_1 : Option Addr) (c1_1 : Nat) (A1_3 : Option Addr) (c1_3 : Nat) (A2 : Option Addr) (c2 : Nat) (w : World), Kd.C k86 w A0 l0.length l0 → l0.length ≤ c0 → Kd.C k39 w A1_1 l1_1.length l1_1 → l1_1.length ≤ c1_1 → Kd.C (Kd.int .i64) w A1_3 l1_3.length l1_3 → l1_3.length ≤ c1_3 → Kd.C k34 w A2 l2.length l2 → l2.length ≤ c2 →
    Calls Try.prog 6 #[.slice A0 l0.length c0, .agg #[.int .i64 a1_0, .slice A1_1 l1_1.length c1_1, .bool a1_2, .slice A1_3 l1_3.length c1_3], .slice A2 l2.length c2] w fun e w' => e = .returned (.tuple #[.int .i64 n, .int .i64 f]) ∧ Below w.heap.size w w'
set_option maxHeartbeats 8000000 in
set_option maxRecDepth 100000 in
theorem law_bad (k : Nat) (A0 : Option Addr) (c0 : Nat) (l0 : List (S86)) (a1_0 : Int) (A1_1 : Option Addr) (c1_1 : Nat) (l1_1 : List (S39)) (a1_2 : Bool) (A1_3 : Option Addr) (c1_3 : Nat) (l1_3 : List Int) (A2 : Option Addr) (c2 : Nat) (l2 : List (S34)) (a3 : Int) (w : World) (hr0 : Kd.C k86 w A0 l0.length l0) (hc0 : l0.length ≤ c0) (hr1_1 : Kd.C k39 w A1_1 l1_1.length l1_1) (hc1_1 : l1_1.length ≤ c1_1) (hr1_3 : Kd.C (Kd.int .i64) w A1_3 l1_3.length l1_3) (hc1_3 : l1_3.length ≤ c1_3) (hr2 : Kd.C k34 w A2 l2.length l2) (hc2 : l2.length ≤ c2)
    (n f : Int) (hW : WorkRet l0 a1_0 l1_1 a1_2 l1_3 l2 n f) (hbad : f ≠ 0 ∨ a3 < 0 ∨ (l2.length : Int) ≤ a3 ∨ (l2.length : Int) = 20) (hn : f = 0 ∨ n = 0) (hA : Qbb.f k = some true) :
    Calls Try.prog 3 #[.slice A0 l0.length c0, .agg #[.int .i64 a1_0, .slice A1_1 l1_1.length c1_1, .bool a1_2, .slice A1_3 l1_3.length c1_3], .slice A2 l2.length c2, .int .i64 a3] w fun e w' => e = .returned (.bool true) ∧ Below w.heap.size w w' := by
  have hu26 := Try.underlying26
  have HR0 := Qaa.mk hr0
  have HR1_1 := Qaa.mk hr1_1
  have HR1_3 := Qaa.mk hr1_3
  have HR2 := Qaa.mk hr2
  clear hr0 hr1_1 hr1_3 hr2
  have HB := Qaa.mk (Below.refl w.heap.size w)
  have HW := Qaa.mk hW
  clear hW
  obtain ⟨b1, hb1⟩ : ∃ b, b = (f != 0) := ⟨_, rfl⟩
  have b2 : (f == 0) = !b1 := by rw [hb1, bne, Bool.not_not]
  obtain ⟨d1, hd1⟩ : ∃ b, b = decide (a3 < 0) := ⟨_, rfl⟩
  obtain ⟨d2, hd2⟩ : ∃ b, b = decide ((l2.length : Int) ≤ a3) := ⟨_, rfl⟩
  obtain ⟨d3, hd3⟩ : ∃ b, b = ((l2.length : Int) == 20) := ⟨_, rfl⟩
  obtain ⟨d4, hd4⟩ : ∃ b, b = (n == 0) := ⟨_, rfl⟩
  have hor : b1 = true ∨ d1 = true ∨ d2 = true ∨ d3 = true := by
    rw [hb1, hd1, hd2, hd3]; simpa using hbad
  have hor2 : b1 = false ∨ d4 = true := by
    rw [hb1, hd4]; simpa using hn
  have e1 := hb1.symm
  have e2 := hd1.symm
  have e3 := hd2.symm
  have e4 := hd3.symm
  have e5 := hd4.symm
  clear hb1 hd1 hd2 hd3 hd4 hbad hn
  cases b1 <;> cases d1 <;> cases d2 <;> cases d3 <;> cases d4 <;> simp only [reduceCtorEq, or_self, or_true, true_or, or_false, false_or] at hor hor2 <;> clear hor hor2
  all_goals simp only [Bool.not_true, Bool.not_false] at b2
  all_goals go_enter Try.func3, Try.ntmps3
  all_goals go_wp2_with (first
    | ((with_reducible refine gate_dst (N := 5) rfl ?_); refine box_event ?hg (N := 5) ?hd (cs := #[.int .i64 a1_0, .slice A1_1 l1_1.length c1_1, .bool a1_2, .slice A1_3 l1_3.length c1_3]) (t := 26) ?hr ?_; (case hd => rfl); (case hg => rfl); (case hr => first | (go_simp; done) | (go_simp; rfl)); intro gb hg w1 hbox hb; have BK := Qaa.mk hbox; have HB1 := Qaa.mk hb; clear HB hbox hb hg; have hcz0 : w1.cell? ⟨gb, 0, none⟩ = some (.int .i64 a1_0) := (blk_cell BK.out 0).trans rfl; have hcz1 : w1.cell? ⟨gb, 1, none⟩ = some (.slice A1_1 l1_1.length c1_1) := (blk_cell BK.out 1).trans rfl; have hcz2 : w1.cell? ⟨gb, 2, none⟩ = some (.bool a1_2) := (blk_cell BK.out 2).trans rfl; have hcz3 : w1.cell? ⟨gb, 3, none⟩ = some (.slice A1_3 l1_3.length c1_3) := (blk_cell BK.out 3).trans rfl)
    | (go_at_call 6; refine (HW.out A0 c0 A1_1 c1_1 A1_3 c1_3 A2 c2 _ ?s1 hc0 ?s2 hc1_1 ?s3 hc1_3 ?s4 hc2).mono ?_; (case s1 => exact Kd.C_below HR0.out HB1.out); (case s2 => exact Kd.C_below HR1_1.out HB1.out); (case s3 => exact Kd.C_below HR1_3.out HB1.out); (case s4 => exact Kd.C_below HR2.out HB1.out); rintro e w2 ⟨rfl, hb2⟩; have HB2 := Qaa.mk (below_step HB1.out hb2); clear hb2)
    | (go_at_call 7; refine (Qbb.calls k true _ hA).mono ?_; rintro e w3 ⟨rfl, hb3⟩; have HB3 := Qaa.mk (below_step HB2.out hb3); clear hb3))
  all_goals go_ret
  all_goals exact ⟨rfl, HB3.out⟩
theorem below_up1 {b : Nat} {w W : World} (h : Below b w W) : Below b w W.drew := below_drew h
theorem k34_heap : Kd.Heap k34 := Kd.heap_iso _ (Kd.heap_slice _ k64_heap)
section
variable {ops : Array Oper} {o : Oper} {a : Act} {Q : Exit → Act → World → Prop} {Kc : Act → World → Prop}
theorem app34 {w W : World} {l : List S34} {p : S34} {A : Option Addr} {c : Nat} {cs : List Value} (hw : Region.wanted o (yielded ops a.tmps) = true)
    (ho : o.op = .call { callee := .builtin .append, args := #[.tmp 52, .tmp 57], argTypes := #[27, 27] }) (hs : a.eval (.tmp 52) = .slice A l.length c) (hx : a.eval (.tmp 57) = .slice (some ⟨W.heap.size, 0, none⟩) 1 1)
    (hp : Kd.FK k34 W (fun k => k < w.heap.size) p cs) (HO : Kd.N k34 34 W w.heap.size (fun _ => True) (.slice A l.length c) l) (HB : Below w.heap.size w W) (hl : l.length < 20)
    (h : ∀ A5 c5 w5, Kd.N k34 34 w5 w.heap.size (fun _ => True) (.slice A5 (l ++ [p]).length c5) (l ++ [p]) → Below w.heap.size w w5 → W.grownBy w5 (Value.slice A l.length c).ownBlock → Kc (a.put o.dst (.slice A5 (l ++ [p]).length c5)) w5) :
    if Region.wanted o (yielded ops a.tmps) = true then Oper.wp Try.prog o a (W.alloc (.cells cs.toArray 34)) Kc Q else Kc (a.put o.dst undef) (W.alloc (.cells cs.toArray 34)) := by
  refine Kd.N_append_step k34 (w0 := w) (W := W) w.heap.size hw (.tmp 52) (.tmp 57) 27 34 (.agg #[.slice none 0 0]) 24 ho Try.underlying27 info34 rfl (by decide) (by decide) (.slice A l.length c) l p cs (fun _ => True) (fun k_ => k_ < w.heap.size) hs hx hp (fun k hk => ⟨trivial, fun e => by have := Kd.N_base HO k e.symm; omega⟩) (fun _ _ => trivial) HO HB HB.size (by omega) ?_
  intro v1 w1 hn hb hg _
  obtain ⟨A5, c5, rfl⟩ := Kd.N_slice hn
  exact h A5 c5 w1 hn hb hg
end
set_option maxHeartbeats 8000000 in
set_option maxRecDepth 100000 in
theorem law_ok (k : Nat) (A0 : Option Addr) (c0 : Nat) (l0 : List (S86)) (a1_0 : Int) (A1_1 : Option Addr) (c1_1 : Nat) (l1_1 : List (S39)) (a1_2 : Bool) (A1_3 : Option Addr) (c1_3 : Nat) (l1_3 : List Int) (A2 : Option Addr) (c2 : Nat) (l2 : List (S34)) (a3 : Int) (w : World) (hr0 : Kd.C k86 w A0 l0.length l0) (hc0 : l0.length ≤ c0) (hr1_1 : Kd.C k39 w A1_1 l1_1.length l1_1) (hc1_1 : l1_1.length ≤ c1_1) (hr1_3 : Kd.C (Kd.int .i64) w A1_3 l1_3.length l1_3) (hc1_3 : l1_3.length ≤ c1_3) (hr2 : Kd.C k34 w A2 l2.length l2) (hc2 : l2.length ≤ c2)
    (n : Int) (hW : WorkRet l0 a1_0 l1_1 a1_2 l1_3 l2 n 0) (h0 : 0 ≤ a3) (h1 : a3 < (l2.length : Int)) (h2 : l2.length < 20) (hW2 : WorkRet l0 a1_0 l1_1 a1_2 l1_3 (l2 ++ [rd_T34 l2 a3]) n 0) (hA : Qbb.f k = some true) :
    Calls Try.prog 3 #[.slice A0 l0.length c0, .agg #[.int .i64 a1_0, .slice A1_1 l1_1.length c1_1, .bool a1_2, .slice A1_3 l1_3.length c1_3], .slice A2 l2.length c2, .int .i64 a3] w fun e w' => e = .returned (.bool true) ∧ Below w.heap.size w w' := by
  have hu26 := Try.underlying26
  have hu34 := Try.underlying34
  have HR0 := Qaa.mk hr0
  have HR1_1 := Qaa.mk hr1_1
  have HR1_3 := Qaa.mk hr1_3
  have HR2 := Qaa.mk hr2
  obtain ⟨adx, Ax, cx, ex, hx0, hlx, hix⟩ := at_T34 hr2 a3 h0 h1
  subst ex
  have HX0 := Qaa.mk hx0
  have HIX := Qaa.mk hix
  clear hr0 hr1_1 hr1_3 hr2 hx0 hix
  have HB := Qaa.mk (Below.refl w.heap.size w)
  have HW := Qaa.mk hW
  obtain ⟨Y, hY⟩ : ∃ Y, Y = l2 ++ [rd_T34 l2 a3] := ⟨_, rfl⟩
  rw [← hY] at hW2
  have HY := Qaa.mk hY
  have HW2 := Qaa.mk hW2
  clear hW hW2 hY
  have e2 : decide (a3 < 0) = false := decide_eq_false (by omega)
  have e3 : decide ((l2.length : Int) ≤ a3) = false := decide_eq_false (by omega)
  have e4 : ((l2.length : Int) == 20) = false := beq_eq_false_iff_ne.mpr (by omega)
  go_enter Try.func3, Try.ntmps3
  go_wp2_with (first
    | ((with_reducible refine gate_dst (N := 5) rfl ?_); refine box_event ?hg (N := 5) ?hd (cs := #[.int .i64 a1_0, .slice A1_1 l1_1.length c1_1, .bool a1_2, .slice A1_3 l1_3.length c1_3]) (t := 26) ?hr ?_; (case hd => rfl); (case hg => rfl); (case hr => first | (go_simp; done) | (go_simp; rfl)); intro gb hg w1 hbox hb; have BK := Qaa.mk hbox; have HB1 := Qaa.mk hb; clear HB hbox hb hg; have hcz0 : w1.cell? ⟨gb, 0, none⟩ = some (.int .i64 a1_0) := (blk_cell BK.out 0).trans rfl; have hcz1 : w1.cell? ⟨gb, 1, none⟩ = some (.slice A1_1 l1_1.length c1_1) := (blk_cell BK.out 1).trans rfl; have hcz2 : w1.cell? ⟨gb, 2, none⟩ = some (.bool a1_2) := (blk_cell BK.out 2).trans rfl; have hcz3 : w1.cell? ⟨gb, 3, none⟩ = some (.slice A1_3 l1_3.length c1_3) := (blk_cell BK.out 3).trans rfl)
    | (go_at_call 6; refine (HW.out A0 c0 A1_1 c1_1 A1_3 c1_3 (some adx) c2 _ ?s1 hc0 ?s2 hc1_1 ?s3 hc1_3 ?s4 hc2).mono ?_; (case s1 => exact Kd.C_below HR0.out HB1.out); (case s2 => exact Kd.C_below HR1_1.out HB1.out); (case s3 => exact Kd.C_below HR1_3.out HB1.out); (case s4 => exact Kd.C_below HR2.out HB1.out); rintro e w2 ⟨rfl, hb2⟩; have HB2 := Qaa.mk (below_step HB1.out hb2); have BK2 := Qaa.mk (blk_below BK.out hb2); clear hb2 BK HB1 hcz0 hcz1 hcz2 hcz3)
    | ((with_reducible refine gate_builtin (b := .append) (xs := #[.tmp 46, .tmp 47]) rfl ?_); at_builtin; refine Kd.N_append_rows k34 (w0 := w) w.heap.size rfl (.tmp 46) (.tmp 47) 27 34 (.agg #[.slice none 0 0]) 24 rfl Try.underlying27 info34 rfl (by decide) (by omega) (.slice none 0 0) [] l2 _ _ c2 (fun _ => True) (fun k_ => k_ < w.heap.size) rfl rfl ?aO ?aR ?aK (fun _ _ => trivial) ?aB ?aS ?aL ?_; (case aO => exact Kd.N_nil _ _ _ _ _); (case aR => exact Kd.F_below (Kd.C_F k34_heap HR2.out) HB2.out); (case aK => exact fun k_ _ => ⟨trivial, by simp [Value.ownBlock]⟩); (case aB => exact HB2.out); (case aS => exact HB2.out.size); (case aL => simp only [List.length_nil]; omega); intro v1 w4 hp4 hb4 hg4 hat4; rw [List.nil_append] at hp4; obtain ⟨A4, c4, rfl⟩ := Kd.N_slice hp4; have HP4 := Qaa.mk hp4; have BK4 := Qaa.mk (blk_grown BK2.out hg4 (by simp [Value.ownBlock])); have HB4 := Qaa.mk hb4; clear hp4 hb4 hg4 hat4 HB2 BK2; have hx4 := (HB4.out.cell (World.block_lt_of_cell? w _ HX0.out)).trans HX0.out; have hcy0 : w4.cell? ⟨gb, 0, none⟩ = some (.int .i64 a1_0) := (blk_cell BK4.out 0).trans rfl; have hcy1 : w4.cell? ⟨gb, 1, none⟩ = some (.slice A1_1 l1_1.length c1_1) := (blk_cell BK4.out 1).trans rfl; have hcy2 : w4.cell? ⟨gb, 2, none⟩ = some (.bool a1_2) := (blk_cell BK4.out 2).trans rfl; have hcy3 : w4.cell? ⟨gb, 3, none⟩ = some (.slice A1_3 l1_3.length c1_3) := (blk_cell BK4.out 3).trans rfl; have hcw0 : (w4.alloc (.cells #[.slice Ax (rd_T34 l2 a3).f0.length cx] 34)).cell? ⟨gb, 0, none⟩ = some (.int .i64 a1_0) := (blk_cell (blk_alloc BK4.out _) 0).trans rfl; have hcw1 : (w4.alloc (.cells #[.slice Ax (rd_T34 l2 a3).f0.length cx] 34)).cell? ⟨gb, 1, none⟩ = some (.slice A1_1 l1_1.length c1_1) := (blk_cell (blk_alloc BK4.out _) 1).trans rfl; have hcw2 : (w4.alloc (.cells #[.slice Ax (rd_T34 l2 a3).f0.length cx] 34)).cell? ⟨gb, 2, none⟩ = some (.bool a1_2) := (blk_cell (blk_alloc BK4.out _) 2).trans rfl; have hcw3 : (w4.alloc (.cells #[.slice Ax (rd_T34 l2 a3).f0.length cx] 34)).cell? ⟨gb, 3, none⟩ = some (.slice A1_3 l1_3.length c1_3) := (blk_cell (blk_alloc BK4.out _) 3).trans rfl))
  all_goals go_region_law (first
    | (refine app34 (w := w) (W := w4.drew) (l := l2) (p := rd_T34 l2 a3) (A := A4) (c := c4) (cs := [.slice Ax (rd_T34 l2 a3).f0.length cx]) ?g1 ?g2 ?g3 ?g4 ?g5 ?g6 ?g7 ?g8 ?_; (case g1 => rfl); (case g2 => rfl); (case g3 => rfl); (case g4 => rfl); (case g5 => exact k34_mkF _ _ _ hlx (Kd.F_below (Kd.C_F k64_heap HIX.out) (below_up1 HB4.out))); (case g6 => exact Kd.N_below HP4.out (below_up1 (Below.refl _ _))); (case g7 => exact below_up1 HB4.out); (case g8 => exact h2); rw [← HY.out]; intro A5 c5 w5 hp5 hb5 hg5; have HP5 := Qaa.mk hp5; have BK5 := Qaa.mk (blk_grown (w := w4.drew) BK4.out hg5 (Kd.N_ne HP4.out BK4.out (by decide))); have HB5 := Qaa.mk hb5; clear hp5 hb5 hg5; have hcq0 : w5.cell? ⟨gb, 0, none⟩ = some (.int .i64 a1_0) := (blk_cell BK5.out 0).trans rfl; have hcq1 : w5.cell? ⟨gb, 1, none⟩ = some (.slice A1_1 l1_1.length c1_1) := (blk_cell BK5.out 1).trans rfl; have hcq2 : w5.cell? ⟨gb, 2, none⟩ = some (.bool a1_2) := (blk_cell BK5.out 2).trans rfl; have hcq3 : w5.cell? ⟨gb, 3, none⟩ = some (.slice A1_3 l1_3.length c1_3) := (blk_cell BK5.out 3).trans rfl)
    | (go_simp; go_at_call 6; refine (HW2.out A0 c0 A1_1 c1_1 A1_3 c1_3 A5 c5 _ ?s1 hc0 ?s2 hc1_1 ?s3 hc1_3 ?s4 ?s5).mono ?_; (case s1 => exact Kd.C_below HR0.out (by first | exact HB5.out | exact below_up1 HB5.out)); (case s2 => exact Kd.C_below HR1_1.out (by first | exact HB5.out | exact below_up1 HB5.out)); (case s3 => exact Kd.C_below HR1_3.out (by first | exact HB5.out | exact below_up1 HB5.out)); (case s4 => first | exact (Kd.N_reads' HP5.out).2.2 | exact (Kd.N_reads' (Kd.N_drew HP5.out)).2.2); (case s5 => exact (Kd.N_reads' HP5.out).2.1); rintro e w6 ⟨rfl, hb6⟩; have HB6 := Qaa.mk (show Below w.heap.size w w6 from below_step (by first | exact HB5.out | exact below_up1 HB5.out) hb6); clear hb6))
  all_goals have en : (n == n) = true := beq_self_eq_true n
  all_goals go_wp2_with (first
    | (go_at_call 7; refine (Qbb.calls k true _ hA).mono ?_; rintro e w7 ⟨rfl, hb7⟩; have HB7 := Qaa.mk (below_step HB6.out hb7); clear hb7))
  all_goals go_ret
  all_goals exact ⟨rfl, HB7.out⟩
end Go.Proofs.Ytphnmaobpefoiaa.XW
end
section
namespace Go.Proofs.Ytphnmaobpefoiaa.XW
open Go.RowKit Go.Proofs.YtphnmaobpefoiaaXW Go.Proofs.YtphnmaobpefoiaaW.PrintWords Go.Proofs.YtphnmaobpefoiaaW.PrintLast Go.Proofs.YtphnmaobpefoiaaW.PrintMore
set_option linter.unusedVariables false
def ce (c : List S86) (x : List S64) : Int × Int := (Qaj.f 5000 c x).getD (0, 0)
theorem ce_f (c : List S86) (x : List S64) (k : Nat) (hk : 5000 ≤ k) : Qaj.f k c x = some (ce c x) := by
  obtain ⟨r, hr, _⟩ := expr_ev c x 5000 (Nat.le_refl _)
  have h : ce c x = r := by unfold ce; rw [hr]; rfl
  rw [h]
  exact at_rounds (g := fun k => Qaj.f k c x) (fun k => Qaj.mono _ _ k) hk hr
theorem ce_ok {c : List S86} {x : List S64} (h : (ce c x).2 = 0) : x.length ≤ 200 ∧ OkD x 0 := by
  obtain ⟨r, hr, h0⟩ := expr_ev c x 5000 (Nat.le_refl _)
  have he : ce c x = r := by unfold ce; rw [hr]; rfl
  rw [he] at h
  exact h0 h
def starts (x : List S64) : List Int := (Qaq.f 5000 x).getD []
theorem starts_f {c : List S86} {x : List S64} (h : (ce c x).2 = 0) (k : Nat) (hk : 5000 ≤ k) : Qaq.f k x = some (starts x) ∧ (starts x).length = x.length ∧ ∀ j, j < (starts x).length → 0 ≤ rd (starts x) (j : Int) ∧ rd (starts x) (j : Int) ≤ j := by
  obtain ⟨h1, h2⟩ := ce_ok h
  obtain ⟨s, hs, hl, hv⟩ := starts_ev x h1 h2 5000 (by omega)
  have he : starts x = s := by unfold starts; rw [hs]; rfl
  rw [he]
  exact ⟨at_rounds (g := fun k => Qaq.f k x) (fun k => Qaq.mono _ k) hk hs, hl, hv⟩
def proj (c : List S86) : List S34 → List Int → List Int × Int
  | [], acc => (acc, 0)
  | x :: xs, acc => if (ce c x.f0).2 = 0 then proj c xs (acc ++ [(ce c x.f0).1]) else ([], (ce c x.f0).2)
theorem proj_ok (c : List S86) : ∀ (l : List S34) (acc : List Int), (∀ x ∈ l, (ce c x.f0).2 = 0) → (proj c l acc).2 = 0
  | [], _, _ => rfl
  | x :: xs, acc, h => by
    unfold proj
    rw [if_pos (h x List.mem_cons_self)]
    exact proj_ok c xs _ (fun y hy => h y (List.mem_cons_of_mem _ hy))
theorem proj_all (c : List S86) : ∀ (l : List S34) (acc : List Int), (proj c l acc).2 = 0 → ∀ x ∈ l, (ce c x.f0).2 = 0
  | [], _, _, x, hx => by simp at hx
  | y :: ys, acc, h, x, hx => by
    unfold proj at h
    by_cases hy : (ce c y.f0).2 = 0
    · rw [if_pos hy] at h
      rcases List.mem_cons.1 hx with rfl | hx
      · exact hy
      · exact proj_all c ys _ h x hx
    · rw [if_neg hy] at h
      exact absurd h hy
theorem rd34' (a : List S34) (i : Nat) (h : i < a.length) : rd_T34 a (i : Int) = a[i] := by
  simp [rd_T34, List.getD_eq_getElem?_getD, List.getElem?_eq_getElem h]
theorem projLoop (c : List S86) (l : List S34) (hl : l.length ≤ 20) (d : Nat) : ∀ (k i : Nat) (acc : List Int), i + d = l.length → acc.length = i → d + 5000 < k →
    Qap.l0 k c acc l (l.length : Int) (i : Int) = some (proj c (l.drop i) acc) := by
  induction d with
  | zero =>
    intro k i acc hi ha hk
    obtain ⟨k, rfl⟩ : ∃ m, k = m + 1 := ⟨k - 1, by omega⟩
    unfold Qap.l0
    rw [if_neg (by omega), List.drop_eq_nil_of_le (by omega)]
    rfl
  | succ d ih =>
    intro k i acc hi ha hk
    obtain ⟨k, rfl⟩ : ∃ m, k = m + 1 := ⟨k - 1, by omega⟩
    unfold Qap.l0
    have hw : wrap64 ((i : Int) + 1) = ((i + 1 : Nat) : Int) := step_w i (by omega)
    have hil : i < l.length := by omega
    rw [if_pos (by omega), if_pos (by omega), if_pos (by omega), hw, rd34' l i hil, List.drop_eq_getElem_cons hil, ce_f c _ k (by omega), Option.bind_some]
    unfold proj
    by_cases h : (ce c l[i].f0).2 = 0
    · rw [if_pos h, if_pos h, if_pos (by omega)]
      exact ih k (i + 1) _ (by omega) (by simp [ha]) (by omega)
    · rw [if_neg h, if_neg h]
structure Fine (c : List S86) (r : Int) (cols : List S39) (wh : Bool) (pk : List Int) : Prop where
  r0 : 0 ≤ r
  ok : BatchOk r.toNat cols wh pk
theorem fits_ev (c : List S86) (r : Int) (cols : List S39) (wh : Bool) (pk : List Int) : ∃ f, (∀ k, 10000 ≤ k → Qas.f k c r cols wh pk = some f) ∧ (f = 0 → Fine c r cols wh pk) := by
  obtain ⟨b, hb, hb0⟩ := batch_ev r cols wh pk 10000 (by omega)
  obtain ⟨t, ht, _⟩ := columns_ev c 10000 (by omega)
  have H : ∃ f, Qas.f 10000 c r cols wh pk = some f ∧ (f = 0 → Fine c r cols wh pk) := by
    by_cases h0 : b = 0
    · obtain ⟨r0, hok⟩ := hb0.1 h0
      have h := fits_f hok c t 10000 (by omega) ht
      rw [Int.toNat_of_nonneg r0] at h
      exact ⟨_, h, fun _ => ⟨r0, hok⟩⟩
    · refine ⟨b, ?_, fun h => absurd h h0⟩
      unfold Qas.f
      rw [hb, Option.bind_some, if_neg h0]
  obtain ⟨f, hf, hf0⟩ := H
  exact ⟨f, fun k hk => at_rounds (g := fun k => Qas.f k c r cols wh pk) (fun k => Qas.mono _ _ _ _ _ k) hk hf, hf0⟩
theorem project_ev (c : List S86) (r : Int) (cols : List S39) (wh : Bool) (pk : List Int) (f : Int) (hf : ∀ k, 10000 ≤ k → Qas.f k c r cols wh pk = some f) (l : List S34) (k : Nat) (hk : 20000 ≤ k) :
    Qap.f k c r cols wh pk l = some (if f = 0 then (if l.length = 0 then ([], 6) else if 20 < l.length then ([], 2) else proj c l []) else ([], f)) := by
  unfold Qap.f
  rw [hf k (by omega), Option.bind_some]
  by_cases h0 : f = 0
  · rw [if_pos h0, if_pos h0]
    by_cases h1 : l.length = 0
    · rw [if_pos (by omega), if_pos h1]
    · rw [if_neg (by omega), if_neg h1]
      by_cases h2 : 20 < l.length
      · rw [if_pos (by omega), if_pos h2]
      · rw [if_neg (by omega), if_neg h2]
        exact projLoop c l (by omega) l.length k 0 [] (by omega) rfl (by omega)
  · rw [if_neg h0, if_neg h0]
theorem stepP_len (x : S34) (s : List Int) (L : List (List S64)) (j : Nat) : (stepP x s L j).length ≤ L.length + 1 := by
  unfold stepP
  split
  · simp
  · omega
theorem rowP_len (x : S34) (s : List Int) (L : List (List S64)) : ∀ j, (rowP x s L j).length ≤ L.length + j
  | 0 => Nat.le_refl _
  | j + 1 => by
    have h1 := rowP_len x s L j
    have h2 := stepP_len x s (rowP x s L j) j
    show (stepP x s (rowP x s L j) j).length ≤ _
    omega
theorem stepP_sub (x : S34) (s : List Int) (L : List (List S64)) (j : Nat) : ∀ p ∈ L, p ∈ stepP x s L j := by
  intro p hp
  unfold stepP
  split
  · exact List.mem_append_left _ hp
  · exact hp
theorem rowP_sub (x : S34) (s : List Int) (L : List (List S64)) : ∀ j, ∀ p ∈ L, p ∈ rowP x s L j
  | 0, p, hp => hp
  | j + 1, p, hp => stepP_sub x s _ j p (rowP_sub x s L j p hp)
theorem rowP_has (x : S34) (s : List Int) (L : List (List S64)) : ∀ n j, j < n → wants x j → partAt x s j ∈ rowP x s L n
  | 0, j, h, _ => absurd h (Nat.not_lt_zero _)
  | n + 1, j, h, hw => by
    by_cases e : j = n
    · subst e
      show partAt x s j ∈ stepP x s (rowP x s L j) j
      unfold stepP
      by_cases hh : has (rowP x s L j) (partAt x s j) = true
      · exact (by
          split
          · exact List.mem_append_left _ (has_iff.1 hh)
          · exact has_iff.1 hh)
      · rw [if_pos ⟨hw, by simpa using hh⟩]
        exact List.mem_append_right _ (List.mem_singleton.2 rfl)
    · exact stepP_sub x s _ n _ (rowP_has x s L n j (by omega) hw)
theorem rowP_same (x : S34) (s : List Int) (L : List (List S64)) : ∀ n, (∀ j, j < n → wants x j → partAt x s j ∈ L) → rowP x s L n = L
  | 0, _ => rfl
  | n + 1, h => by
    show stepP x s (rowP x s L n) n = L
    rw [rowP_same x s L n (fun j hj => h j (by omega))]
    unfold stepP
    rw [if_neg]
    rintro ⟨hw, hh⟩
    rw [has_iff.2 (h n (by omega) hw)] at hh
    cases hh
def stOf (l : List S34) (i : Nat) : List Int := starts (rd_T34 l (i : Int)).f0
theorem allP_has (l : List S34) (st : Nat → List Int) : ∀ (n i : Nat), i < n → ∀ j, j < (rd_T34 l (i : Int)).f0.length → wants (rd_T34 l (i : Int)) j → partAt (rd_T34 l (i : Int)) (st i) j ∈ allP l st n
  | 0, i, h, _, _, _ => absurd h (Nat.not_lt_zero _)
  | n + 1, i, h, j, hj, hw => by
    by_cases e : i = n
    · subst e
      exact rowP_has _ _ _ _ j hj hw
    · exact rowP_sub _ _ _ _ _ (allP_has l st n i (by omega) j hj hw)
theorem allP_len (l : List S34) (st : Nat → List Int) (h : ∀ i, i < l.length → (rd_T34 l (i : Int)).f0.length ≤ 200) : ∀ n, n ≤ l.length → (allP l st n).length ≤ n * 200
  | 0, _ => Nat.le_refl _
  | n + 1, hn => by
    have h1 := allP_len l st h n (by omega)
    have h2 := rowP_len (rd_T34 l (n : Int)) (st n) (allP l st n) (rd_T34 l (n : Int)).f0.length
    have h3 := h n (by omega)
    show (rowP (rd_T34 l (n : Int)) (st n) (allP l st n) (rd_T34 l (n : Int)).f0.length).length ≤ _
    omega
theorem allP_zero (l : List S34) (st : Nat → List Int) : allP l st 0 = [] := rfl
theorem allP_succ (l : List S34) (st : Nat → List Int) (n : Nat) : allP l st (n + 1) = rowP (rd_T34 l (n : Int)) (st n) (allP l st n) (rd_T34 l (n : Int)).f0.length := rfl
theorem rd34_left (l : List S34) (y : S34) (n : Nat) (hn : n < l.length) : rd_T34 (l ++ [y]) (n : Int) = rd_T34 l (n : Int) := by
  unfold rd_T34
  rw [Int.toNat_natCast, List.getD_eq_getElem?_getD, List.getD_eq_getElem?_getD, List.getElem?_append_left hn]
theorem rd34_last (l : List S34) (y : S34) : rd_T34 (l ++ [y]) (l.length : Int) = y := by
  unfold rd_T34
  rw [Int.toNat_natCast, List.getD_eq_getElem?_getD, List.getElem?_append_right (Nat.le_refl _), Nat.sub_self]
  rfl
theorem allP_app (l : List S34) (y : S34) (n : Nat) (hn : n ≤ l.length) : allP (l ++ [y]) (stOf (l ++ [y])) n = allP l (stOf l) n := by
  induction n with
  | zero => rw [allP_zero, allP_zero]
  | succ n ih =>
    have e := rd34_left l y n (by omega)
    have e2 : stOf (l ++ [y]) n = stOf l n := by
      unfold stOf
      rw [e]
    rw [allP_succ, allP_succ, e, e2, ih (by omega)]
theorem allP_twice (l : List S34) (k : Int) (h0 : 0 ≤ k) (h1 : k < (l.length : Int)) : allP (l ++ [rd_T34 l k]) (stOf (l ++ [rd_T34 l k])) (l ++ [rd_T34 l k]).length = allP l (stOf l) l.length := by
  obtain ⟨i, rfl⟩ : ∃ i : Nat, k = (i : Int) := ⟨k.toNat, by omega⟩
  have hlen : (l ++ [rd_T34 l (i : Int)]).length = l.length + 1 := by simp
  rw [hlen]
  have e := rd34_last l (rd_T34 l (i : Int))
  rw [allP_succ]
  rw [allP_app l _ l.length (Nat.le_refl _), e]
  refine rowP_same _ _ _ _ (fun j hj hw => ?_)
  have := allP_has l (stOf l) l.length i (by omega) j hj hw
  unfold stOf at this ⊢
  rw [e]
  exact this
theorem work_fine (c : List S86) (r : Int) (cols : List S39) (wh : Bool) (pk : List Int) (l : List S34) (hF : Fine c r cols wh pk) (hl : l.length ≤ 20) (hce : ∀ x ∈ l, (ce c x.f0).2 = 0)
    (kinds : List Int) (hP : Qap.f 100000 c r cols wh pk l = some (kinds, 0)) :
    WorkRet c r cols wh pk l (wrap64 ((allP l (stOf l) l.length).length * ((pick r.toNat wh pk).length : Int))) 0 := by
  intro A0 c0 A1_1 c1_1 A1_3 c1_3 A2 c2 w h1 h2 h3 h4 h5 h6 h7 h8
  have hmem : ∀ i, i < l.length → (ce c (rd_T34 l (i : Int)).f0).2 = 0 := fun i hi => by
    rw [rd34' l i hi]
    exact hce _ (List.getElem_mem hi)
  have hlen : ∀ i, i < l.length → (rd_T34 l (i : Int)).f0.length ≤ 200 := fun i hi => (ce_ok (hmem i hi)).1
  have hpk := picked_f hF.ok.le cols wh pk 100000 (by omega)
  rw [Int.toNat_of_nonneg hF.r0] at hpk
  exact work_ok 100000 A0 c0 c r A1_1 c1_1 cols wh A1_3 c1_3 pk A2 c2 l w h1 h2 h3 h4 h5 h6 h7 h8 kinds (pick r.toNat wh pk) (stOf l) hP
    ⟨fun i hi => starts_f (hmem i hi) 100000 (by omega)⟩
    ⟨fun i j hi hj => by
      have a1 := allP_len l (stOf l) hlen i (by omega)
      have a2 := rowP_len (rd_T34 l (i : Int)) (stOf l i) (allP l (stOf l) i) j
      have a3 := hlen i hi
      omega⟩ hpk
end Go.Proofs.Ytphnmaobpefoiaa.XW
end
section
namespace Go.Proofs.Ytphnmaobpefoiaa.XW
open Go.RowKit Go.Proofs.YtphnmaobpefoiaaXW Go.Proofs.YtphnmaobpefoiaaW.PrintWords Go.Proofs.YtphnmaobpefoiaaW.PrintLast Go.Proofs.YtphnmaobpefoiaaW.PrintMore
set_option linter.unusedVariables false
theorem work_no (c : List S86) (r : Int) (cols : List S39) (wh : Bool) (pk : List Int) (l : List S34) (kinds : List Int) (f : Int) (hP : Qap.f 100000 c r cols wh pk l = some (kinds, f)) (hf : f ≠ 0) : WorkRet c r cols wh pk l 0 f :=
  fun A0 c0 A1_1 c1_1 A1_3 c1_3 A2 c2 w h1 h2 h3 h4 h5 h6 h7 h8 => work_bad 100000 A0 c0 c r A1_1 c1_1 cols wh A1_3 c1_3 pk A2 c2 l w h1 h2 h3 h4 h5 h6 h7 h8 kinds f hP hf
theorem wisAnswers (A0 : Option Addr) (c0 : Nat) (l0 : List (S86)) (a1_0 : Int) (A1_1 : Option Addr) (c1_1 : Nat) (l1_1 : List (S39)) (a1_2 : Bool) (A1_3 : Option Addr) (c1_3 : Nat) (l1_3 : List Int) (A2 : Option Addr) (c2 : Nat) (l2 : List (S34)) (a3 : Int) (w : World) (hr0 : Kd.C k86 w A0 l0.length l0) (hc0 : l0.length ≤ c0) (hr1_1 : Kd.C k39 w A1_1 l1_1.length l1_1) (hc1_1 : l1_1.length ≤ c1_1) (hr1_3 : Kd.C (Kd.int .i64) w A1_3 l1_3.length l1_3) (hc1_3 : l1_3.length ≤ c1_3) (hr2 : Kd.C k34 w A2 l2.length l2) (hc2 : l2.length ≤ c2) :
    Calls Try.prog 3 #[.slice A0 l0.length c0, .agg #[.int .i64 a1_0, .slice A1_1 l1_1.length c1_1, .bool a1_2, .slice A1_3 l1_3.length c1_3], .slice A2 l2.length c2, .int .i64 a3] w fun e w' => e = .returned (.bool true) ∧ Below w.heap.size w w' := by
  obtain ⟨f, hf, hF⟩ := fits_ev l0 a1_0 l1_1 a1_2 l1_3
  have hA := awake_f 100000 (by omega)
  have bad : ∀ n g : Int, WorkRet l0 a1_0 l1_1 a1_2 l1_3 l2 n g → (g ≠ 0 ∨ a3 < 0 ∨ (l2.length : Int) ≤ a3 ∨ (l2.length : Int) = 20) → (g = 0 ∨ n = 0) → Calls Try.prog 3 #[.slice A0 l0.length c0, .agg #[.int .i64 a1_0, .slice A1_1 l1_1.length c1_1, .bool a1_2, .slice A1_3 l1_3.length c1_3], .slice A2 l2.length c2, .int .i64 a3] w fun e w' => e = .returned (.bool true) ∧ Below w.heap.size w w' :=
    fun n g hW h1 h2 => law_bad 100000 A0 c0 l0 a1_0 A1_1 c1_1 l1_1 a1_2 A1_3 c1_3 l1_3 A2 c2 l2 a3 w hr0 hc0 hr1_1 hc1_1 hr1_3 hc1_3 hr2 hc2 n g hW h1 h2 hA
  have hP := project_ev l0 a1_0 l1_1 a1_2 l1_3 f hf l2 100000 (by omega)
  by_cases h0 : f = 0
  · rw [if_pos h0] at hP
    by_cases h1 : l2.length = 0
    · rw [if_pos h1] at hP
      exact bad 0 6 (work_no _ _ _ _ _ _ _ _ hP (by decide)) (.inl (by decide)) (.inr rfl)
    · rw [if_neg h1] at hP
      by_cases h2 : 20 < l2.length
      · rw [if_pos h2] at hP
        exact bad 0 2 (work_no _ _ _ _ _ _ _ _ hP (by decide)) (.inl (by decide)) (.inr rfl)
      · rw [if_neg h2] at hP
        by_cases h3 : (proj l0 l2 []).2 = 0
        · have hall := proj_all l0 l2 [] h3
          have hfine := hF h0
          have hP1 : Qap.f 100000 l0 a1_0 l1_1 a1_2 l1_3 l2 = some ((proj l0 l2 []).1, 0) := by
            rw [hP, ← h3]
          have hW := work_fine l0 a1_0 l1_1 a1_2 l1_3 l2 hfine (by omega) hall _ hP1
          by_cases h4 : a3 < 0 ∨ (l2.length : Int) ≤ a3 ∨ (l2.length : Int) = 20
          · exact bad _ 0 hW (.inr h4) (.inl rfl)
          · have h5 : 0 ≤ a3 := by omega
            have h6 : a3 < (l2.length : Int) := by omega
            have h7 : l2.length < 20 := by omega
            have hx : rd_T34 l2 a3 ∈ l2 := by
              obtain ⟨i, rfl⟩ : ∃ i : Nat, a3 = (i : Int) := ⟨a3.toNat, by omega⟩
              rw [rd34' l2 i (by omega)]
              exact List.getElem_mem _
            have hlen : (l2 ++ [rd_T34 l2 a3]).length = l2.length + 1 := by simp
            have hall2 : ∀ x ∈ l2 ++ [rd_T34 l2 a3], (ce l0 x.f0).2 = 0 := by
              intro x hm
              rcases List.mem_append.1 hm with hm | hm
              · exact hall x hm
              · rw [List.mem_singleton.1 hm]
                exact hall _ hx
            have h8 := proj_ok l0 (l2 ++ [rd_T34 l2 a3]) [] hall2
            have hP2 := project_ev l0 a1_0 l1_1 a1_2 l1_3 f hf (l2 ++ [rd_T34 l2 a3]) 100000 (by omega)
            rw [if_pos h0, if_neg (by omega), if_neg (by omega)] at hP2
            have hP3 : Qap.f 100000 l0 a1_0 l1_1 a1_2 l1_3 (l2 ++ [rd_T34 l2 a3]) = some ((proj l0 (l2 ++ [rd_T34 l2 a3]) []).1, 0) := by
              rw [hP2, ← h8]
            have hW2 := work_fine l0 a1_0 l1_1 a1_2 l1_3 (l2 ++ [rd_T34 l2 a3]) hfine (by omega) hall2 _ hP3
            rw [allP_twice l2 a3 h5 h6] at hW2
            exact law_ok 100000 A0 c0 l0 a1_0 A1_1 c1_1 l1_1 a1_2 A1_3 c1_3 l1_3 A2 c2 l2 a3 w hr0 hc0 hr1_1 hc1_1 hr1_3 hc1_3 hr2 hc2 _ hW h5 h6 h7 hW2 hA
        · have hP1 : Qap.f 100000 l0 a1_0 l1_1 a1_2 l1_3 l2 = some ((proj l0 l2 []).1, (proj l0 l2 []).2) := hP
          exact bad 0 _ (work_no _ _ _ _ _ _ _ _ hP1 h3) (.inl h3) (.inr rfl)
  · rw [if_neg h0] at hP
    exact bad 0 f (work_no _ _ _ _ _ _ _ _ hP h0) (.inl h0) (.inr rfl)
#print axioms wisAnswers
end Go.Proofs.Ytphnmaobpefoiaa.XW
end
section
namespace Go.Proofs.YtphnmaobpefoiaaXW
open Go.RowKit Go.Proofs.YtphnmaobpefoiaaW.PrintWords Go.Proofs.YtphnmaobpefoiaaW.PrintLast Go.Proofs.YtphnmaobpefoiaaW.PrintMore
def Opens (P : Program) (t : TypeId) {α : Type} (K : Kd α) (G : α → Prop) : Prop :=
  ∀ (H : Type) (enc : TypeId × Value → H) (w : World) (base : Nat) (spare : Nat → Bool) (held : Bool) (fuel : Nat) (cs : List Value) (x : DataW H × List MemPlace),
    DataW.trod enc P w base spare held fuel t cs = some x → ∃ a : α, K.K w a cs ∧ G a
theorem add_add (a : Addr) (m i : Nat) : (a.add m).add i = a.add (m + i) := by
  unfold Addr.add
  by_cases h1 : m = 0
  · subst h1; simp
  · by_cases h2 : i = 0
    · subst h2; simp
    · simp [h1, h2, show m + i ≠ 0 by omega, Nat.add_assoc]
theorem cells_get {w : World} {base n : Nat} {a : Addr} {cs : List Value} (h : w.cells? base a n = some cs) : cs.length = n ∧ ∀ i u, cs[i]? = some u → w.cell? (a.add i) = some u := by
  unfold World.cells? at h
  split at h
  · have hl := mapM_some_length h
    refine ⟨by simpa using hl, fun i u hu => ?_⟩
    have hi : i < n := by have := (List.getElem?_eq_some_iff.1 hu).1; simp at hl; omega
    have := mapM_some_get h i i (by simp [hi])
    rw [this]; exact hu
  · cases h
theorem opens_int {P : Program} {t : TypeId} {k : IntKind} (ht : P.underlying t = some (.int k)) : Opens P t (Kd.int k) (fun n => (Lit.int k n).wf = true) := by
  intro H enc w base spare held fuel cs x h
  obtain ⟨n, rfl, _, hw⟩ := DataW.trod_int ht h
  exact ⟨n, rfl, hw⟩
theorem opens_bool {P : Program} {t : TypeId} (ht : P.underlying t = some .bool) : Opens P t Kd.bool (fun _ => True) := by
  intro H enc w base spare held fuel cs x h
  obtain ⟨n, rfl, _⟩ := DataW.trod_bool ht h
  exact ⟨n, rfl, trivial⟩
theorem opens_string {P : Program} {t : TypeId} (ht : P.underlying t = some .string) : Opens P t Kd.string (fun s => s.size ≤ maxLen) := by
  intro H enc w base spare held fuel cs x h
  obtain ⟨s, rfl, _, hw⟩ := DataW.trod_string ht h
  exact ⟨s, rfl, hw⟩
theorem opens_slice {P : Program} {t e : TypeId} {α : Type} {K : Kd α} {G : α → Prop} (ht : P.underlying t = some (.slice e)) (hc : P.cellsOf e = K.sz) (hK : Opens P e K G) :
    Opens P t (Kd.slice e K) (fun l => l.length ≤ maxLen ∧ ∀ x ∈ l, G x) := by
  intro H enc w base spare held fuel cs x h
  rcases DataW.trod_slice ht h with ⟨rfl, _⟩ | ⟨a, len, cap, elems, rest, n, _, rfl, _, hb, hl, hm, hlen, hel, _, _⟩
  · exact ⟨[], ⟨none, 0, rfl, Nat.le_refl _, Kd.C_nil K w⟩, by simp, fun x hx => by cases hx⟩
  · have each : ∀ i : Fin len, ∃ y : α, ∃ cs', w.cells? base (a.add (i.1 * P.cellsOf e)) (P.cellsOf e) = some cs' ∧ K.K w y cs' ∧ G y := by
      intro i
      have h1 := hel i.1 i.2
      have h2 : i.1 < elems.length := by have := i.2; omega
      rw [List.getElem?_eq_getElem h2, Option.bind_eq_some_iff] at h1
      obtain ⟨cs', h3, h4⟩ := h1
      obtain ⟨y, h5, h6⟩ := hK _ enc w base spare held n cs' _ h4
      exact ⟨y, cs', h3, h5, h6⟩
    have hll : (List.ofFn fun i => (each i).choose).length = len := by simp
    refine ⟨List.ofFn fun i => (each i).choose, ⟨some a, cap, by rw [hll], by rw [hll]; exact hl, ⟨rfl, ?_, fun _ => ⟨a, rfl, fun j p hj => ?_⟩⟩⟩, by rw [hll]; omega, fun x hx => ?_⟩
    · rw [hll]; unfold maxLen at hm; omega
    · have hj' : j < len := by have := (List.getElem?_eq_some_iff.1 hj).1; simpa using this
      have hp : p = (each ⟨j, hj'⟩).choose := by
        rw [List.getElem?_ofFn] at hj
        simp [hj'] at hj
        exact hj.symm
      obtain ⟨cs', h3, h4, h5⟩ := (each ⟨j, hj'⟩).choose_spec
      rw [← hp] at h4
      obtain ⟨h6, h7⟩ := cells_get h3
      refine ⟨cs', by rw [h6, hc], h4, fun i u hu => ?_⟩
      have := h7 i u hu
      rwa [add_add, hc] at this
    · obtain ⟨i, rfl⟩ := List.mem_ofFn.1 hx
      exact (each i).choose_spec.choose_spec.2.2
theorem opens_iso {P : Program} {t : TypeId} {α β : Type} {K : Kd α} {G : α → Prop} (f : β → α) (g : α → β) (hfg : ∀ a, f (g a) = a) (h : Opens P t K G) : Opens P t (Kd.iso K f) (fun b => G (f b)) := by
  intro H enc w base spare held fuel cs x hx
  obtain ⟨a, h1, h2⟩ := h _ enc w base spare held fuel cs x hx
  exact ⟨g a, by show K.K w (f (g a)) cs; rw [hfg]; exact h1, by show G (f (g a)); rw [hfg]; exact h2⟩
def OpensFrom (P : Program) (fs : Array Field) (k off tot : Nat) {α : Type} (K : Kd α) (G : α → Prop) : Prop :=
  ∀ (H : Type) (enc : TypeId × Value → H) (w : World) (base : Nat) (spare : Nat → Bool) (held : Bool) (fuel : Nat) (cs : List Value) (xs : List (DataW H × List MemPlace)),
    cs.length = tot → xs.length = fs.size → (∀ (i : Nat) (f : Field), fs[i]? = some f → DataW.trod enc P w base spare held fuel f.type ((cs.drop f.offset).take (P.cellsOf f.type)) = xs[i]?) →
    ∃ a : α, K.K w a (cs.drop off) ∧ G a
theorem opens_struct {P : Program} {t : TypeId} {fs : Array Field} {α : Type} {K : Kd α} {G : α → Prop} (ht : P.underlying t = some (.struct fs)) (h : OpensFrom P fs 0 0 (P.cellsOf t) K G) : Opens P t K G := by
  intro H enc w base spare held fuel cs x hx
  obtain ⟨xs, n, _, _, hl, hx, hi⟩ := DataW.trod_struct ht hx
  obtain ⟨a, h1, h2⟩ := h _ enc w base spare held n cs xs hl hx hi
  exact ⟨a, by simpa using h1, h2⟩
theorem field_get {P : Program} {H : Type} {enc : TypeId × Value → H} {w : World} {base : Nat} {spare : Nat → Bool} {held : Bool} {fuel : Nat} {cs : List Value} {xs : List (DataW H × List MemPlace)} {fs : Array Field} {k off : Nat} {fd : Field} {α : Type} {K : Kd α} {G : α → Prop}
    (hf : fs[k]? = some fd) (ho : fd.offset = off) (hc : P.cellsOf fd.type = K.sz) (hK : Opens P fd.type K G) (hxl : xs.length = fs.size)
    (hi : ∀ (i : Nat) (f : Field), fs[i]? = some f → DataW.trod enc P w base spare held fuel f.type ((cs.drop f.offset).take (P.cellsOf f.type)) = xs[i]?) :
    ∃ a : α, K.K w a ((cs.drop off).take K.sz) ∧ G a := by
  have h1 := hi k fd hf
  have hk : k < xs.length := by rw [hxl]; exact (Array.getElem?_eq_some_iff.1 hf).1
  rw [List.getElem?_eq_getElem hk, ho, hc] at h1
  exact hK _ enc w base spare held fuel _ _ h1
theorem from_last {P : Program} {fs : Array Field} {k off tot : Nat} {fd : Field} {α : Type} {K : Kd α} {G : α → Prop} (hf : fs[k]? = some fd) (ho : fd.offset = off) (hc : P.cellsOf fd.type = K.sz) (ht : tot = off + K.sz) (hK : Opens P fd.type K G) : OpensFrom P fs k off tot K G := by
  intro H enc w base spare held fuel cs xs hl hxl hi
  obtain ⟨a, h1, h2⟩ := field_get hf ho hc hK hxl hi
  rw [List.take_of_length_le (by rw [List.length_drop]; omega)] at h1
  exact ⟨a, h1, h2⟩
theorem from_cons {P : Program} {fs : Array Field} {k off off' tot : Nat} {fd : Field} {α β : Type} {K : Kd α} {L : Kd β} {G : α → Prop} {F : β → Prop} (hf : fs[k]? = some fd) (ho : fd.offset = off) (hc : P.cellsOf fd.type = K.sz) (hK : Opens P fd.type K G)
    (ho' : off' = off + K.sz) (hr : OpensFrom P fs (k + 1) off' tot L F) : OpensFrom P fs k off tot (Kd.pair K L) (fun x => G x.1 ∧ F x.2) := by
  intro H enc w base spare held fuel cs xs hl hxl hi
  obtain ⟨a, h1, h2⟩ := field_get hf ho hc hK hxl hi
  obtain ⟨b, h3, h4⟩ := hr _ enc w base spare held fuel cs xs hl hxl hi
  refine ⟨(a, b), ⟨_, _, ?_, h1, h3⟩, h2, h4⟩
  rw [ho', ← List.drop_drop, List.take_append_drop]
end Go.Proofs.YtphnmaobpefoiaaXW
end
