/- A part of the proof of: PartsGoTogether: for every columns, batch and n the law's call returns true, and what came in reads as before; no condition. -/
import Derived.Test.YtphnmaobpefoiaaPgz4
set_option linter.unusedVariables false
set_option linter.unusedSimpArgs false
section
namespace Go.Proofs.Ytphnmaobpefoiaa.XA
open Go.RowKit Go.Proofs.YtphnmaobpefoiaaXW Go.Proofs.YtphnmaobpefoiaaW.PrintWords Go.Proofs.YtphnmaobpefoiaaW.PrintLast Go.Proofs.YtphnmaobpefoiaaW.PrintMore
attribute [local go_sem] max2_int min2_int max_two min_two max_three min_three max_four min_four sleq
set_option linter.unusedVariables false
set_option linter.unusedSimpArgs false
def Qbb.l0 : Nat → List (S86) → Int → Int → Int → List (S39) → Bool → List Int → Option (Int)
 | 0, _, _, _, _, _, _, _ => none
 | k + 1, x25, x26, x27, Ju, Ql, Jv, Jw => if x27 < x26 then (if 0 ≤ x27 then (if x27 < (x25.length : Int) then (if x27 < (Ql.length : Int) then (if ((rd_T39 Ql x27).f0) = ((rd_T86 x25 x27).f1) then (Qbb.l0 k x25 x26 (wrap64 (x27 + 1)) Ju Ql Jv Jw) else (some 10)) else (none)) else (none)) else (none)) else (some 0)
def Qbb.f (k : Nat) (l0 : List (S86)) (j1 : Int) (q9 : List (S39)) (j2 : Bool) (j0 : List Int) : Option (Int) := (Qac.f k j1 q9 j2 j0).bind fun j6 => (if j6 = 0 then ((Qaj.f k l0).bind fun j7 => (if j7 = 0 then (if (l0.length : Int) = (q9.length : Int) then (Qbb.l0 k l0 (l0.length : Int) 0 j1 q9 j2 j0) else (some 3)) else (some j7))) else (some j6))
set_option maxHeartbeats 8000000 in
set_option maxRecDepth 100000 in
theorem Qbb.calls (k : Nat) (A0 : Option Addr) (c0 : Nat) (l0 : List (S86)) (j1 : Int) (j8 : Option Addr) (j9 : Nat) (q9 : List (S39)) (j2 : Bool) (z0 : Option Addr) (z1 : Nat) (j0 : List Int) (r : Int) (w : World) (hr0 : Kd.C k86 w A0 l0.length l0) (hc0 : l0.length ≤ c0) (Jm : Kd.C k39 w j8 q9.length q9) (Jn : q9.length ≤ j9) (Jo : Kd.C (Kd.int .i64) w z0 j0.length j0) (Jp : j0.length ≤ z1) (h : Qbb.f k l0 j1 q9 j2 j0 = some r) :
  Calls Try.prog 37 #[.slice A0 l0.length c0, .agg #[.int .i64 j1, .slice j8 q9.length j9, .bool j2, .slice z0 j0.length z1]] w fun e w' => e = .returned (.int .i64 r) ∧ Below w.heap.size w w' := by
 have hu26 := Try.underlying26
 have hu86 := Try.underlying86
 have Q8 := Qaa.mk hr0
 have Qj := Qaa.mk hc0
 clear hr0 hc0
 have z2 := Qaa.mk Jm
 have z4 := Qaa.mk Jn
 clear Jm Jn
 have z5 := Qaa.mk Jo
 have z6 := Qaa.mk Jp
 clear Jo Jp
 have HB := Qaa.mk (Below.refl w.heap.size w)
 have H : ((Qac.f k j1 q9 j2 j0).bind fun j6 => (if j6 = 0 then ((Qaj.f k l0).bind fun j7 => (if j7 = 0 then (if (l0.length : Int) = (q9.length : Int) then (Qbb.l0 k l0 (l0.length : Int) 0 j1 q9 j2 j0) else (some 3)) else (some j7))) else (some j6))) = some r := h
 clear h
 replace H := Option.bind_eq_some_iff.mp H
 obtain ⟨j6, A30, H⟩ := H
 replace H : (if j6 = 0 then ((Qaj.f k l0).bind fun j7 => (if j7 = 0 then (if (l0.length : Int) = (q9.length : Int) then (Qbb.l0 k l0 (l0.length : Int) 0 j1 q9 j2 j0) else (some 3)) else (some j7))) else (some j6)) = some r := H
 have A3 := Qaa.mk A30
 clear A30
 by_cases c4 : j6 = 0
 ·
  rw [if_pos c4] at H
  have Jx : (j6 == 0) = true := beq_iff_eq.mpr c4
  have Jy : (j6 != 0) = false := bne_eq_false_iff_eq.mpr c4
  clear c4
  replace H := Option.bind_eq_some_iff.mp H
  obtain ⟨j7, A50, H⟩ := H
  replace H : (if j7 = 0 then (if (l0.length : Int) = (q9.length : Int) then (Qbb.l0 k l0 (l0.length : Int) 0 j1 q9 j2 j0) else (some 3)) else (some j7)) = some r := H
  have A5 := Qaa.mk A50
  clear A50
  by_cases c6 : j7 = 0
  ·
   rw [if_pos c6] at H
   have Jz : (j7 == 0) = true := beq_iff_eq.mpr c6
   have Y0 : (j7 != 0) = false := bne_eq_false_iff_eq.mpr c6
   clear c6
   by_cases c7 : (l0.length : Int) = (q9.length : Int)
   ·
    rw [if_pos c7] at H
    have Y1 : ((l0.length : Int) == (q9.length : Int)) = true := beq_iff_eq.mpr c7
    have Y2 : ((l0.length : Int) != (q9.length : Int)) = false := bne_eq_false_iff_eq.mpr c7
    have Y3 : (l0.length == q9.length) = true := by first | simpa using c7 | (simp at c7 ⊢; omega)
    clear c7
    have H' := Qaa.mk H
    clear H
    go_enter Try.func37, Try.ntmps37
    go_wp2_with (first | ((with_reducible refine gate_dst (N := 3) rfl ?_); refine bx 3 #[.int .i64 j1, .slice j8 q9.length j9, .bool j2, .slice z0 j0.length z1] 26 ?_; intro q3 hg w8 hbox hb; have q1 := Qaa.mk (hbox); have z7 := Qaa.mk ((by rw [hg]; exact (below_size (bl HB)) : w.heap.size ≤ q3)); have z8 := Qaa.mk ((by rw [hg]; exact (below_size (bl HB)) : w.heap.size ≤ q3)); replace HB := bs HB hb; clear hb hbox hg; obtain ⟨Qu, Qv, Qw, Qx, Qy, Qz, Z0, Z1⟩ := cf4 q1) | (go_at_call 34; (with_reducible refine (Qac.calls k j1 _ _ q9 j2 _ _ j0 j6 _ ?side1 ?side2 ?side3 ?side4 A3.out).mono ?_); (case side1 => exact Cb z2 HB); (case side2 => exact z4.out); (case side3 => exact Cb z5 HB); (case side4 => exact z6.out); rintro e w10 ⟨rfl, hb⟩; replace q1 := Bb q1 hb; replace HB := bs HB hb; (try clear hb)) | (go_at_call 58; (with_reducible refine (Qaj.calls k _ _ l0 j7 _ ?side1 ?side2 A5.out).mono ?_); (case side1 => exact Cb Q8 HB); (case side2 => exact Qj.out); rintro e w11 ⟨rfl, hb⟩; replace q1 := Bb q1 hb; replace HB := bs HB hb; (try clear hb); obtain ⟨Qm, Qn, Qo, Qp, Qq, Qr, Qs, Qt⟩ := cf4 q1))
    repeat (go_quiet (first | ((with_reducible refine gate_dst (N := 3) rfl ?_); refine bx 3 #[.int .i64 j1, .slice j8 q9.length j9, .bool j2, .slice z0 j0.length z1] 26 ?_; intro q3 hg w8 hbox hb; have q1 := Qaa.mk (hbox); have z7 := Qaa.mk ((by rw [hg]; exact (below_size (bl HB)) : w.heap.size ≤ q3)); have z8 := Qaa.mk ((by rw [hg]; exact (below_size (bl HB)) : w.heap.size ≤ q3)); replace HB := bs HB hb; clear hb hbox hg; obtain ⟨Qu, Qv, Qw, Qx, Qy, Qz, Z0, Z1⟩ := cf4 q1) | (go_at_call 34; (with_reducible refine (Qac.calls k j1 _ _ q9 j2 _ _ j0 j6 _ ?side1 ?side2 ?side3 ?side4 A3.out).mono ?_); (case side1 => exact Cb z2 HB); (case side2 => exact z4.out); (case side3 => exact Cb z5 HB); (case side4 => exact z6.out); rintro e w10 ⟨rfl, hb⟩; replace q1 := Bb q1 hb; replace HB := bs HB hb; (try clear hb)) | (go_at_call 58; (with_reducible refine (Qaj.calls k _ _ l0 j7 _ ?side1 ?side2 A5.out).mono ?_); (case side1 => exact Cb Q8 HB); (case side2 => exact Qj.out); rintro e w11 ⟨rfl, hb⟩; have n0_ := Bb q1 hb; have n1_ := bs HB hb; clear q1; clear HB; have q1 := n0_; have HB := n1_; clear n0_ n1_; (try clear hb); (try clear hb2); (try clear hk); (try clear hi); have Qm : w11.cell? ⟨q3, 0, none⟩ = some (.int .i64 j1) := (blk_cell q1.out 0).trans rfl; have Qn : w11.cell? ⟨q3, 1, none⟩ = some (.slice j8 q9.length j9) := (blk_cell q1.out 1).trans rfl; have Qo : w11.cell? ⟨q3, 2, none⟩ = some (.bool j2) := (blk_cell q1.out 2).trans rfl; have Qp : w11.cell? ⟨q3, 3, none⟩ = some (.slice z0 j0.length z1) := (blk_cell q1.out 3).trans rfl; have Qq := blk_frozen q1.out 0; have Qr := blk_frozen q1.out 1; have Qs := blk_frozen q1.out 2; have Qt := blk_frozen q1.out 3)); try go_wp2_with (first | ((with_reducible refine gate_dst (N := 3) rfl ?_); refine bx 3 #[.int .i64 j1, .slice j8 q9.length j9, .bool j2, .slice z0 j0.length z1] 26 ?_; intro q3 hg w8 hbox hb; have q1 := Qaa.mk (hbox); have z7 := Qaa.mk ((by rw [hg]; exact (below_size (bl HB)) : w.heap.size ≤ q3)); have z8 := Qaa.mk ((by rw [hg]; exact (below_size (bl HB)) : w.heap.size ≤ q3)); replace HB := bs HB hb; clear hb hbox hg; obtain ⟨Qu, Qv, Qw, Qx, Qy, Qz, Z0, Z1⟩ := cf4 q1) | (go_at_call 34; (with_reducible refine (Qac.calls k j1 _ _ q9 j2 _ _ j0 j6 _ ?side1 ?side2 ?side3 ?side4 A3.out).mono ?_); (case side1 => exact Cb z2 HB); (case side2 => exact z4.out); (case side3 => exact Cb z5 HB); (case side4 => exact z6.out); rintro e w10 ⟨rfl, hb⟩; replace q1 := Bb q1 hb; replace HB := bs HB hb; (try clear hb)) | (go_at_call 58; (with_reducible refine (Qaj.calls k _ _ l0 j7 _ ?side1 ?side2 A5.out).mono ?_); (case side1 => exact Cb Q8 HB); (case side2 => exact Qj.out); rintro e w11 ⟨rfl, hb⟩; have n0_ := Bb q1 hb; have n1_ := bs HB hb; clear q1; clear HB; have q1 := n0_; have HB := n1_; clear n0_ n1_; (try clear hb); (try clear hb2); (try clear hk); (try clear hi); have Qm : w11.cell? ⟨q3, 0, none⟩ = some (.int .i64 j1) := (blk_cell q1.out 0).trans rfl; have Qn : w11.cell? ⟨q3, 1, none⟩ = some (.slice j8 q9.length j9) := (blk_cell q1.out 1).trans rfl; have Qo : w11.cell? ⟨q3, 2, none⟩ = some (.bool j2) := (blk_cell q1.out 2).trans rfl; have Qp : w11.cell? ⟨q3, 3, none⟩ = some (.slice z0 j0.length z1) := (blk_cell q1.out 3).trans rfl; have Qq := blk_frozen q1.out 0; have Qr := blk_frozen q1.out 1; have Qs := blk_frozen q1.out 2; have Qt := blk_frozen q1.out 3)))
    go_loopg [27] k (fun kq v27 w' => ∃ (x27_1 : Int), v27 = .int .i64 x27_1 ∧ Qaa (Qbb.l0 kq l0 (l0.length : Int) x27_1 j1 q9 j2 j0 = some r) ∧ Qaa (kq ≤ k) ∧ Qaa (w'.heap[q3]? = some (.cells #[.int .i64 j1, (.slice j8 q9.length j9), .bool j2, (.slice z0 j0.length z1)] 26 (0, 0))) ∧ Qaa (Below w.heap.size w w'))
    case atStart => exact ⟨(0), (by first | rfl | (simp; done) | (simp [*]; done)), H', ⟨Nat.le_refl _⟩, ⟨by apply blk_u; exact q1.out⟩, ⟨bl HB⟩⟩
    case round =>
     clear H'
     try clear c1
     try clear p2
     try clear c3
     try clear c4
     try clear Jx
     try clear Jy
     try clear c6
     try clear Jz
     try clear Y0
     try clear c7
     try clear Y1
     try clear Y2
     try clear Y3
     try clear Qm
     try clear Qn
     try clear Qo
     try clear Qp
     try clear Qu
     try clear Qv
     try clear Qw
     try clear Qx
     try clear Qq
     try clear Qr
     try clear Qs
     try clear Qt
     try clear Qy
     try clear Qz
     try clear Z0
     try clear Z1
     obtain ⟨x27_1, rfl, HA, HK1, q1, HB⟩ := hrel
     cases gk with
     | zero => exact absurd HA.out (by simp [Qbb.l0])
     | succ k1 =>
      have H := HA.out
      clear HA
      simp only [Qbb.l0] at H
      by_cases c13 : x27_1 < (l0.length : Int)
      ·
       rw [if_pos c13] at H
       have Y4 : decide (x27_1 < (l0.length : Int)) = true := decide_eq_true c13
       clear c13
       by_cases c14 : 0 ≤ x27_1
       ·
        rw [if_pos c14] at H
        have Y7 : decide (0 ≤ x27_1) = true := decide_eq_true c14
        clear c14
        by_cases c15 : x27_1 < (l0.length : Int)
        ·
         rw [if_pos c15] at H
         have Y8 : decide (x27_1 < (l0.length : Int)) = true := decide_eq_true c15
         clear c15
         by_cases c16 : x27_1 < (q9.length : Int)
         ·
          rw [if_pos c16] at H
          have Y9 : decide (x27_1 < (q9.length : Int)) = true := decide_eq_true c16
          clear c16
          by_cases c17 : ((rd_T39 q9 x27_1).f0) = ((rd_T86 l0 x27_1).f1)
          ·
           rw [if_pos c17] at H
           have Y5 : (((rd_T39 q9 x27_1).f0) == ((rd_T86 l0 x27_1).f1)) = true := beq_iff_eq.mpr c17
           have Y6 : (((rd_T39 q9 x27_1).f0) != ((rd_T86 l0 x27_1).f1)) = false := bne_eq_false_iff_eq.mpr c17
           clear c17
           have H' := Qaa.mk H
           clear H
           have p159 : 0 ≤ (x27_1 : Int) := of_decide_eq_true (by first | (with_reducible assumption) | assumption)
           have q159 : x27_1 < (l0.length : Int) := of_decide_eq_true (by first | (with_reducible assumption) | assumption)
           obtain ⟨ad159, e159, z9, y7⟩ := at_T86 Q8.out x27_1 p159 q159
           cases e159
           replace z9 := (HB.out.cell (World.block_lt_of_cell? w _ z9)).trans z9
           replace y7 := (HB.out.cell (World.block_lt_of_cell? w _ y7)).trans y7
           replace p159 := eq_true p159
           replace q159 := eq_true q159
           go_wp2_with (first | ((with_reducible refine gate_dst (N := 8) rfl ?_); refine bx 8 #[.string (⟨#[]⟩ : ByteArray), .int .i64 0] 86 ?_; intro q0 hg w18 hbox hb; have j4 := Qaa.mk (hbox); have z3 := Qaa.mk ((by rw [hg]; exact (below_size (bl HB)) : w.heap.size ≤ q0)); have Qk := Qaa.mk ((by rw [hg]; exact (below_size (bl HB)) : w.heap.size ≤ q0)); have j3 := Qaa.mk ((by rw [hg]; exact Nat.ne_of_lt (blk_lt (Ub q1)) : q3 ≠ q0)); have j5 := Qaa.mk ((by rw [hg]; exact Nat.ne_of_gt (blk_lt (Ub q1)) : q0 ≠ q3)); replace q1 := Bb q1 hb; replace HB := bs HB hb; clear hb hbox hg; have Jq := j5.out; have Jr := j3.out; obtain ⟨Z2, Z3, Z4, Z5⟩ := cf2 j4; obtain ⟨Z6, Z7, Z8, Z9, Za, Zb, Zc, Zd⟩ := cf4 q1; have p161 : 0 ≤ (x27_1 : Int) := of_decide_eq_true (by first | (with_reducible assumption) | assumption); have q161 : x27_1 < (q9.length : Int) := of_decide_eq_true (by first | (with_reducible assumption) | assumption); obtain ⟨ad161, Q9, Qa, Qb, Qc, Qd, Qe, Qf, Qg, Qh, Qi, e161, q2, q4, q5, q6, q7, q8, hl161_1, hi161_1, hl161_2, hi161_2, hl161_3, hi161_3, hl161_4, hi161_4, hl161_5, hi161_5⟩ := at_T39 z2.out x27_1 p161 q161; cases e161; have hn161_0 : ad161.block ≠ q0 := Nat.ne_of_lt (Nat.lt_of_lt_of_le (by have := World.block_lt_of_cell? _ _ q2; first | rwa [add_block] at this | exact this) z3.out); have hn161_1 : ad161.block ≠ q0 := Nat.ne_of_lt (Nat.lt_of_lt_of_le (by have := World.block_lt_of_cell? _ _ q2; first | rwa [add_block] at this | exact this) z3.out); replace q2 := (HB.out.cell (World.block_lt_of_cell? w _ q2)).trans q2; replace q4 := (HB.out.cell (World.block_lt_of_cell? w _ q4)).trans q4; replace q5 := (HB.out.cell (World.block_lt_of_cell? w _ q5)).trans q5; replace q6 := (HB.out.cell (World.block_lt_of_cell? w _ q6)).trans q6; replace q7 := (HB.out.cell (World.block_lt_of_cell? w _ q7)).trans q7; replace q8 := (HB.out.cell (World.block_lt_of_cell? w _ q8)).trans q8; have y8 := Qaa.mk hi161_1; have y9 := Qaa.mk hl161_1; clear hi161_1 hl161_1; have Q0 := Qaa.mk hi161_2; have Q1 := Qaa.mk hl161_2; clear hi161_2 hl161_2; have Q2 := Qaa.mk hi161_3; have Q3 := Qaa.mk hl161_3; clear hi161_3 hl161_3; have Q4 := Qaa.mk hi161_4; have Q5 := Qaa.mk hl161_4; clear hi161_4 hl161_4; have Q6 := Qaa.mk hi161_5; have Q7 := Qaa.mk hl161_5; clear hi161_5 hl161_5; replace q2 := (cell_far (p := ⟨q0, 0, none⟩) (by first | (rw [add_block]; exact hn161_0) | (show (Addr.add _ _).block ≠ _; rw [add_block]; exact hn161_0) | exact hn161_0) (.string ((rd_T86 l0 x27_1).f0))).trans q2; replace q4 := (cell_far (p := ⟨q0, 0, none⟩) (by first | (rw [add_block]; exact hn161_0) | (show (Addr.add _ _).block ≠ _; rw [add_block]; exact hn161_0) | exact hn161_0) (.string ((rd_T86 l0 x27_1).f0))).trans q4; replace q5 := (cell_far (p := ⟨q0, 0, none⟩) (by first | (rw [add_block]; exact hn161_0) | (show (Addr.add _ _).block ≠ _; rw [add_block]; exact hn161_0) | exact hn161_0) (.string ((rd_T86 l0 x27_1).f0))).trans q5; replace q6 := (cell_far (p := ⟨q0, 0, none⟩) (by first | (rw [add_block]; exact hn161_0) | (show (Addr.add _ _).block ≠ _; rw [add_block]; exact hn161_0) | exact hn161_0) (.string ((rd_T86 l0 x27_1).f0))).trans q6; replace q7 := (cell_far (p := ⟨q0, 0, none⟩) (by first | (rw [add_block]; exact hn161_0) | (show (Addr.add _ _).block ≠ _; rw [add_block]; exact hn161_0) | exact hn161_0) (.string ((rd_T86 l0 x27_1).f0))).trans q7; replace q8 := (cell_far (p := ⟨q0, 0, none⟩) (by first | (rw [add_block]; exact hn161_0) | (show (Addr.add _ _).block ≠ _; rw [add_block]; exact hn161_0) | exact hn161_0) (.string ((rd_T86 l0 x27_1).f0))).trans q8; replace q2 := (cell_far (p := ⟨q0, 1, none⟩) (by first | (rw [add_block]; exact hn161_1) | (show (Addr.add _ _).block ≠ _; rw [add_block]; exact hn161_1) | exact hn161_1) (.int .i64 ((rd_T86 l0 x27_1).f1))).trans q2; replace q4 := (cell_far (p := ⟨q0, 1, none⟩) (by first | (rw [add_block]; exact hn161_1) | (show (Addr.add _ _).block ≠ _; rw [add_block]; exact hn161_1) | exact hn161_1) (.int .i64 ((rd_T86 l0 x27_1).f1))).trans q4; replace q5 := (cell_far (p := ⟨q0, 1, none⟩) (by first | (rw [add_block]; exact hn161_1) | (show (Addr.add _ _).block ≠ _; rw [add_block]; exact hn161_1) | exact hn161_1) (.int .i64 ((rd_T86 l0 x27_1).f1))).trans q5; replace q6 := (cell_far (p := ⟨q0, 1, none⟩) (by first | (rw [add_block]; exact hn161_1) | (show (Addr.add _ _).block ≠ _; rw [add_block]; exact hn161_1) | exact hn161_1) (.int .i64 ((rd_T86 l0 x27_1).f1))).trans q6; replace q7 := (cell_far (p := ⟨q0, 1, none⟩) (by first | (rw [add_block]; exact hn161_1) | (show (Addr.add _ _).block ≠ _; rw [add_block]; exact hn161_1) | exact hn161_1) (.int .i64 ((rd_T86 l0 x27_1).f1))).trans q7; replace q8 := (cell_far (p := ⟨q0, 1, none⟩) (by first | (rw [add_block]; exact hn161_1) | (show (Addr.add _ _).block ≠ _; rw [add_block]; exact hn161_1) | exact hn161_1) (.int .i64 ((rd_T86 l0 x27_1).f1))).trans q8; (try have hy161_0 := fun (n_ : Nat) => (show ((((w18.drewN n_).setCell ⟨q0, 0, none⟩ (.string ((rd_T86 l0 x27_1).f0))).setCell ⟨q0, 1, none⟩ (.int .i64 ((rd_T86 l0 x27_1).f1)))).cell? _ = some _ from q2)); (try have hy161_1 := fun (n_ : Nat) => (show ((((w18.drewN n_).setCell ⟨q0, 0, none⟩ (.string ((rd_T86 l0 x27_1).f0))).setCell ⟨q0, 1, none⟩ (.int .i64 ((rd_T86 l0 x27_1).f1)))).cell? _ = some _ from q4)); (try have hy161_2 := fun (n_ : Nat) => (show ((((w18.drewN n_).setCell ⟨q0, 0, none⟩ (.string ((rd_T86 l0 x27_1).f0))).setCell ⟨q0, 1, none⟩ (.int .i64 ((rd_T86 l0 x27_1).f1)))).cell? _ = some _ from q5)); (try have hy161_3 := fun (n_ : Nat) => (show ((((w18.drewN n_).setCell ⟨q0, 0, none⟩ (.string ((rd_T86 l0 x27_1).f0))).setCell ⟨q0, 1, none⟩ (.int .i64 ((rd_T86 l0 x27_1).f1)))).cell? _ = some _ from q6)); (try have hy161_4 := fun (n_ : Nat) => (show ((((w18.drewN n_).setCell ⟨q0, 0, none⟩ (.string ((rd_T86 l0 x27_1).f0))).setCell ⟨q0, 1, none⟩ (.int .i64 ((rd_T86 l0 x27_1).f1)))).cell? _ = some _ from q7)); (try have hy161_5 := fun (n_ : Nat) => (show ((((w18.drewN n_).setCell ⟨q0, 0, none⟩ (.string ((rd_T86 l0 x27_1).f0))).setCell ⟨q0, 1, none⟩ (.int .i64 ((rd_T86 l0 x27_1).f1)))).cell? _ = some _ from q8)); clear hn161_0; clear hn161_1; replace p161 := eq_true p161; replace q161 := eq_true q161))
           repeat (go_quiet (first | ((with_reducible refine gate_dst (N := 8) rfl ?_); refine bx 8 #[.string (⟨#[]⟩ : ByteArray), .int .i64 0] 86 ?_; intro q0 hg w18 hbox hb; have n0_ := Bb q1 hb; have n1_ := bs HB hb; have n2_ := Qaa.mk (hbox); have n3_ := Qaa.mk ((by rw [hg]; exact (below_size (bl HB)) : w.heap.size ≤ q0)); have n4_ := Qaa.mk ((by rw [hg]; exact (below_size (bl HB)) : w.heap.size ≤ q0)); have n5_ := Qaa.mk ((by rw [hg]; exact Nat.ne_of_lt (blk_lt (Ub q1)) : q3 ≠ q0)); have n6_ := Qaa.mk ((by rw [hg]; exact Nat.ne_of_gt (blk_lt (Ub q1)) : q0 ≠ q3)); clear q1; clear HB; have q1 := n0_; have HB := n1_; have j4 := n2_; have z3 := n3_; have Qk := n4_; have j3 := n5_; have j5 := n6_; clear n0_ n1_ n2_ n3_ n4_ n5_ n6_; clear hb hbox hg; have Jq := j5.out; have Jr := j3.out; have Z2 : w18.cell? ⟨q0, 0, none⟩ = some (.string (⟨#[]⟩ : ByteArray)) := (blk_cell j4.out 0).trans rfl; have Z3 : w18.cell? ⟨q0, 1, none⟩ = some (.int .i64 0) := (blk_cell j4.out 1).trans rfl; have Z4 := blk_frozen j4.out 0; have Z5 := blk_frozen j4.out 1; have Z6 : w18.cell? ⟨q3, 0, none⟩ = some (.int .i64 j1) := (blk_cell q1.out 0).trans rfl; have Z7 : w18.cell? ⟨q3, 1, none⟩ = some (.slice j8 q9.length j9) := (blk_cell q1.out 1).trans rfl; have Z8 : w18.cell? ⟨q3, 2, none⟩ = some (.bool j2) := (blk_cell q1.out 2).trans rfl; have Z9 : w18.cell? ⟨q3, 3, none⟩ = some (.slice z0 j0.length z1) := (blk_cell q1.out 3).trans rfl; have Za := blk_frozen q1.out 0; have Zb := blk_frozen q1.out 1; have Zc := blk_frozen q1.out 2; have Zd := blk_frozen q1.out 3; have p161 : 0 ≤ (x27_1 : Int) := of_decide_eq_true (by first | (with_reducible assumption) | assumption); have q161 : x27_1 < (q9.length : Int) := of_decide_eq_true (by first | (with_reducible assumption) | assumption); obtain ⟨ad161, Q9, Qa, Qb, Qc, Qd, Qe, Qf, Qg, Qh, Qi, e161, q2, q4, q5, q6, q7, q8, hl161_1, hi161_1, hl161_2, hi161_2, hl161_3, hi161_3, hl161_4, hi161_4, hl161_5, hi161_5⟩ := at_T39 z2.out x27_1 p161 q161; cases e161; have hn161_0 : ad161.block ≠ q0 := Nat.ne_of_lt (Nat.lt_of_lt_of_le (by have := World.block_lt_of_cell? _ _ q2; first | rwa [add_block] at this | exact this) z3.out); have hn161_1 : ad161.block ≠ q0 := Nat.ne_of_lt (Nat.lt_of_lt_of_le (by have := World.block_lt_of_cell? _ _ q2; first | rwa [add_block] at this | exact this) z3.out); replace q2 := (HB.out.cell (World.block_lt_of_cell? w _ q2)).trans q2; replace q4 := (HB.out.cell (World.block_lt_of_cell? w _ q4)).trans q4; replace q5 := (HB.out.cell (World.block_lt_of_cell? w _ q5)).trans q5; replace q6 := (HB.out.cell (World.block_lt_of_cell? w _ q6)).trans q6; replace q7 := (HB.out.cell (World.block_lt_of_cell? w _ q7)).trans q7; replace q8 := (HB.out.cell (World.block_lt_of_cell? w _ q8)).trans q8; have y8 := Qaa.mk hi161_1; have y9 := Qaa.mk hl161_1; clear hi161_1 hl161_1; have Q0 := Qaa.mk hi161_2; have Q1 := Qaa.mk hl161_2; clear hi161_2 hl161_2; have Q2 := Qaa.mk hi161_3; have Q3 := Qaa.mk hl161_3; clear hi161_3 hl161_3; have Q4 := Qaa.mk hi161_4; have Q5 := Qaa.mk hl161_4; clear hi161_4 hl161_4; have Q6 := Qaa.mk hi161_5; have Q7 := Qaa.mk hl161_5; clear hi161_5 hl161_5; replace q2 := (cell_far (p := ⟨q0, 0, none⟩) (by first | (rw [add_block]; exact hn161_0) | (show (Addr.add _ _).block ≠ _; rw [add_block]; exact hn161_0) | exact hn161_0) (.string ((rd_T86 l0 x27_1).f0))).trans q2; replace q4 := (cell_far (p := ⟨q0, 0, none⟩) (by first | (rw [add_block]; exact hn161_0) | (show (Addr.add _ _).block ≠ _; rw [add_block]; exact hn161_0) | exact hn161_0) (.string ((rd_T86 l0 x27_1).f0))).trans q4; replace q5 := (cell_far (p := ⟨q0, 0, none⟩) (by first | (rw [add_block]; exact hn161_0) | (show (Addr.add _ _).block ≠ _; rw [add_block]; exact hn161_0) | exact hn161_0) (.string ((rd_T86 l0 x27_1).f0))).trans q5; replace q6 := (cell_far (p := ⟨q0, 0, none⟩) (by first | (rw [add_block]; exact hn161_0) | (show (Addr.add _ _).block ≠ _; rw [add_block]; exact hn161_0) | exact hn161_0) (.string ((rd_T86 l0 x27_1).f0))).trans q6; replace q7 := (cell_far (p := ⟨q0, 0, none⟩) (by first | (rw [add_block]; exact hn161_0) | (show (Addr.add _ _).block ≠ _; rw [add_block]; exact hn161_0) | exact hn161_0) (.string ((rd_T86 l0 x27_1).f0))).trans q7; replace q8 := (cell_far (p := ⟨q0, 0, none⟩) (by first | (rw [add_block]; exact hn161_0) | (show (Addr.add _ _).block ≠ _; rw [add_block]; exact hn161_0) | exact hn161_0) (.string ((rd_T86 l0 x27_1).f0))).trans q8; replace q2 := (cell_far (p := ⟨q0, 1, none⟩) (by first | (rw [add_block]; exact hn161_1) | (show (Addr.add _ _).block ≠ _; rw [add_block]; exact hn161_1) | exact hn161_1) (.int .i64 ((rd_T86 l0 x27_1).f1))).trans q2; replace q4 := (cell_far (p := ⟨q0, 1, none⟩) (by first | (rw [add_block]; exact hn161_1) | (show (Addr.add _ _).block ≠ _; rw [add_block]; exact hn161_1) | exact hn161_1) (.int .i64 ((rd_T86 l0 x27_1).f1))).trans q4; replace q5 := (cell_far (p := ⟨q0, 1, none⟩) (by first | (rw [add_block]; exact hn161_1) | (show (Addr.add _ _).block ≠ _; rw [add_block]; exact hn161_1) | exact hn161_1) (.int .i64 ((rd_T86 l0 x27_1).f1))).trans q5; replace q6 := (cell_far (p := ⟨q0, 1, none⟩) (by first | (rw [add_block]; exact hn161_1) | (show (Addr.add _ _).block ≠ _; rw [add_block]; exact hn161_1) | exact hn161_1) (.int .i64 ((rd_T86 l0 x27_1).f1))).trans q6; replace q7 := (cell_far (p := ⟨q0, 1, none⟩) (by first | (rw [add_block]; exact hn161_1) | (show (Addr.add _ _).block ≠ _; rw [add_block]; exact hn161_1) | exact hn161_1) (.int .i64 ((rd_T86 l0 x27_1).f1))).trans q7; replace q8 := (cell_far (p := ⟨q0, 1, none⟩) (by first | (rw [add_block]; exact hn161_1) | (show (Addr.add _ _).block ≠ _; rw [add_block]; exact hn161_1) | exact hn161_1) (.int .i64 ((rd_T86 l0 x27_1).f1))).trans q8; (try have hy161_0 := fun (n_ : Nat) => (show ((((w18.drewN n_).setCell ⟨q0, 0, none⟩ (.string ((rd_T86 l0 x27_1).f0))).setCell ⟨q0, 1, none⟩ (.int .i64 ((rd_T86 l0 x27_1).f1)))).cell? _ = some _ from q2)); (try have hy161_1 := fun (n_ : Nat) => (show ((((w18.drewN n_).setCell ⟨q0, 0, none⟩ (.string ((rd_T86 l0 x27_1).f0))).setCell ⟨q0, 1, none⟩ (.int .i64 ((rd_T86 l0 x27_1).f1)))).cell? _ = some _ from q4)); (try have hy161_2 := fun (n_ : Nat) => (show ((((w18.drewN n_).setCell ⟨q0, 0, none⟩ (.string ((rd_T86 l0 x27_1).f0))).setCell ⟨q0, 1, none⟩ (.int .i64 ((rd_T86 l0 x27_1).f1)))).cell? _ = some _ from q5)); (try have hy161_3 := fun (n_ : Nat) => (show ((((w18.drewN n_).setCell ⟨q0, 0, none⟩ (.string ((rd_T86 l0 x27_1).f0))).setCell ⟨q0, 1, none⟩ (.int .i64 ((rd_T86 l0 x27_1).f1)))).cell? _ = some _ from q6)); (try have hy161_4 := fun (n_ : Nat) => (show ((((w18.drewN n_).setCell ⟨q0, 0, none⟩ (.string ((rd_T86 l0 x27_1).f0))).setCell ⟨q0, 1, none⟩ (.int .i64 ((rd_T86 l0 x27_1).f1)))).cell? _ = some _ from q7)); (try have hy161_5 := fun (n_ : Nat) => (show ((((w18.drewN n_).setCell ⟨q0, 0, none⟩ (.string ((rd_T86 l0 x27_1).f0))).setCell ⟨q0, 1, none⟩ (.int .i64 ((rd_T86 l0 x27_1).f1)))).cell? _ = some _ from q8)); clear hn161_0; clear hn161_1; replace p161 := eq_true p161; replace q161 := eq_true q161)); try go_wp2_with (first | ((with_reducible refine gate_dst (N := 8) rfl ?_); refine bx 8 #[.string (⟨#[]⟩ : ByteArray), .int .i64 0] 86 ?_; intro q0 hg w18 hbox hb; have n0_ := Bb q1 hb; have n1_ := bs HB hb; have n2_ := Qaa.mk (hbox); have n3_ := Qaa.mk ((by rw [hg]; exact (below_size (bl HB)) : w.heap.size ≤ q0)); have n4_ := Qaa.mk ((by rw [hg]; exact (below_size (bl HB)) : w.heap.size ≤ q0)); have n5_ := Qaa.mk ((by rw [hg]; exact Nat.ne_of_lt (blk_lt (Ub q1)) : q3 ≠ q0)); have n6_ := Qaa.mk ((by rw [hg]; exact Nat.ne_of_gt (blk_lt (Ub q1)) : q0 ≠ q3)); clear q1; clear HB; have q1 := n0_; have HB := n1_; have j4 := n2_; have z3 := n3_; have Qk := n4_; have j3 := n5_; have j5 := n6_; clear n0_ n1_ n2_ n3_ n4_ n5_ n6_; clear hb hbox hg; have Jq := j5.out; have Jr := j3.out; have Z2 : w18.cell? ⟨q0, 0, none⟩ = some (.string (⟨#[]⟩ : ByteArray)) := (blk_cell j4.out 0).trans rfl; have Z3 : w18.cell? ⟨q0, 1, none⟩ = some (.int .i64 0) := (blk_cell j4.out 1).trans rfl; have Z4 := blk_frozen j4.out 0; have Z5 := blk_frozen j4.out 1; have Z6 : w18.cell? ⟨q3, 0, none⟩ = some (.int .i64 j1) := (blk_cell q1.out 0).trans rfl; have Z7 : w18.cell? ⟨q3, 1, none⟩ = some (.slice j8 q9.length j9) := (blk_cell q1.out 1).trans rfl; have Z8 : w18.cell? ⟨q3, 2, none⟩ = some (.bool j2) := (blk_cell q1.out 2).trans rfl; have Z9 : w18.cell? ⟨q3, 3, none⟩ = some (.slice z0 j0.length z1) := (blk_cell q1.out 3).trans rfl; have Za := blk_frozen q1.out 0; have Zb := blk_frozen q1.out 1; have Zc := blk_frozen q1.out 2; have Zd := blk_frozen q1.out 3; have p161 : 0 ≤ (x27_1 : Int) := of_decide_eq_true (by first | (with_reducible assumption) | assumption); have q161 : x27_1 < (q9.length : Int) := of_decide_eq_true (by first | (with_reducible assumption) | assumption); obtain ⟨ad161, Q9, Qa, Qb, Qc, Qd, Qe, Qf, Qg, Qh, Qi, e161, q2, q4, q5, q6, q7, q8, hl161_1, hi161_1, hl161_2, hi161_2, hl161_3, hi161_3, hl161_4, hi161_4, hl161_5, hi161_5⟩ := at_T39 z2.out x27_1 p161 q161; cases e161; have hn161_0 : ad161.block ≠ q0 := Nat.ne_of_lt (Nat.lt_of_lt_of_le (by have := World.block_lt_of_cell? _ _ q2; first | rwa [add_block] at this | exact this) z3.out); have hn161_1 : ad161.block ≠ q0 := Nat.ne_of_lt (Nat.lt_of_lt_of_le (by have := World.block_lt_of_cell? _ _ q2; first | rwa [add_block] at this | exact this) z3.out); replace q2 := (HB.out.cell (World.block_lt_of_cell? w _ q2)).trans q2; replace q4 := (HB.out.cell (World.block_lt_of_cell? w _ q4)).trans q4; replace q5 := (HB.out.cell (World.block_lt_of_cell? w _ q5)).trans q5; replace q6 := (HB.out.cell (World.block_lt_of_cell? w _ q6)).trans q6; replace q7 := (HB.out.cell (World.block_lt_of_cell? w _ q7)).trans q7; replace q8 := (HB.out.cell (World.block_lt_of_cell? w _ q8)).trans q8; have y8 := Qaa.mk hi161_1; have y9 := Qaa.mk hl161_1; clear hi161_1 hl161_1; have Q0 := Qaa.mk hi161_2; have Q1 := Qaa.mk hl161_2; clear hi161_2 hl161_2; have Q2 := Qaa.mk hi161_3; have Q3 := Qaa.mk hl161_3; clear hi161_3 hl161_3; have Q4 := Qaa.mk hi161_4; have Q5 := Qaa.mk hl161_4; clear hi161_4 hl161_4; have Q6 := Qaa.mk hi161_5; have Q7 := Qaa.mk hl161_5; clear hi161_5 hl161_5; replace q2 := (cell_far (p := ⟨q0, 0, none⟩) (by first | (rw [add_block]; exact hn161_0) | (show (Addr.add _ _).block ≠ _; rw [add_block]; exact hn161_0) | exact hn161_0) (.string ((rd_T86 l0 x27_1).f0))).trans q2; replace q4 := (cell_far (p := ⟨q0, 0, none⟩) (by first | (rw [add_block]; exact hn161_0) | (show (Addr.add _ _).block ≠ _; rw [add_block]; exact hn161_0) | exact hn161_0) (.string ((rd_T86 l0 x27_1).f0))).trans q4; replace q5 := (cell_far (p := ⟨q0, 0, none⟩) (by first | (rw [add_block]; exact hn161_0) | (show (Addr.add _ _).block ≠ _; rw [add_block]; exact hn161_0) | exact hn161_0) (.string ((rd_T86 l0 x27_1).f0))).trans q5; replace q6 := (cell_far (p := ⟨q0, 0, none⟩) (by first | (rw [add_block]; exact hn161_0) | (show (Addr.add _ _).block ≠ _; rw [add_block]; exact hn161_0) | exact hn161_0) (.string ((rd_T86 l0 x27_1).f0))).trans q6; replace q7 := (cell_far (p := ⟨q0, 0, none⟩) (by first | (rw [add_block]; exact hn161_0) | (show (Addr.add _ _).block ≠ _; rw [add_block]; exact hn161_0) | exact hn161_0) (.string ((rd_T86 l0 x27_1).f0))).trans q7; replace q8 := (cell_far (p := ⟨q0, 0, none⟩) (by first | (rw [add_block]; exact hn161_0) | (show (Addr.add _ _).block ≠ _; rw [add_block]; exact hn161_0) | exact hn161_0) (.string ((rd_T86 l0 x27_1).f0))).trans q8; replace q2 := (cell_far (p := ⟨q0, 1, none⟩) (by first | (rw [add_block]; exact hn161_1) | (show (Addr.add _ _).block ≠ _; rw [add_block]; exact hn161_1) | exact hn161_1) (.int .i64 ((rd_T86 l0 x27_1).f1))).trans q2; replace q4 := (cell_far (p := ⟨q0, 1, none⟩) (by first | (rw [add_block]; exact hn161_1) | (show (Addr.add _ _).block ≠ _; rw [add_block]; exact hn161_1) | exact hn161_1) (.int .i64 ((rd_T86 l0 x27_1).f1))).trans q4; replace q5 := (cell_far (p := ⟨q0, 1, none⟩) (by first | (rw [add_block]; exact hn161_1) | (show (Addr.add _ _).block ≠ _; rw [add_block]; exact hn161_1) | exact hn161_1) (.int .i64 ((rd_T86 l0 x27_1).f1))).trans q5; replace q6 := (cell_far (p := ⟨q0, 1, none⟩) (by first | (rw [add_block]; exact hn161_1) | (show (Addr.add _ _).block ≠ _; rw [add_block]; exact hn161_1) | exact hn161_1) (.int .i64 ((rd_T86 l0 x27_1).f1))).trans q6; replace q7 := (cell_far (p := ⟨q0, 1, none⟩) (by first | (rw [add_block]; exact hn161_1) | (show (Addr.add _ _).block ≠ _; rw [add_block]; exact hn161_1) | exact hn161_1) (.int .i64 ((rd_T86 l0 x27_1).f1))).trans q7; replace q8 := (cell_far (p := ⟨q0, 1, none⟩) (by first | (rw [add_block]; exact hn161_1) | (show (Addr.add _ _).block ≠ _; rw [add_block]; exact hn161_1) | exact hn161_1) (.int .i64 ((rd_T86 l0 x27_1).f1))).trans q8; (try have hy161_0 := fun (n_ : Nat) => (show ((((w18.drewN n_).setCell ⟨q0, 0, none⟩ (.string ((rd_T86 l0 x27_1).f0))).setCell ⟨q0, 1, none⟩ (.int .i64 ((rd_T86 l0 x27_1).f1)))).cell? _ = some _ from q2)); (try have hy161_1 := fun (n_ : Nat) => (show ((((w18.drewN n_).setCell ⟨q0, 0, none⟩ (.string ((rd_T86 l0 x27_1).f0))).setCell ⟨q0, 1, none⟩ (.int .i64 ((rd_T86 l0 x27_1).f1)))).cell? _ = some _ from q4)); (try have hy161_2 := fun (n_ : Nat) => (show ((((w18.drewN n_).setCell ⟨q0, 0, none⟩ (.string ((rd_T86 l0 x27_1).f0))).setCell ⟨q0, 1, none⟩ (.int .i64 ((rd_T86 l0 x27_1).f1)))).cell? _ = some _ from q5)); (try have hy161_3 := fun (n_ : Nat) => (show ((((w18.drewN n_).setCell ⟨q0, 0, none⟩ (.string ((rd_T86 l0 x27_1).f0))).setCell ⟨q0, 1, none⟩ (.int .i64 ((rd_T86 l0 x27_1).f1)))).cell? _ = some _ from q6)); (try have hy161_4 := fun (n_ : Nat) => (show ((((w18.drewN n_).setCell ⟨q0, 0, none⟩ (.string ((rd_T86 l0 x27_1).f0))).setCell ⟨q0, 1, none⟩ (.int .i64 ((rd_T86 l0 x27_1).f1)))).cell? _ = some _ from q7)); (try have hy161_5 := fun (n_ : Nat) => (show ((((w18.drewN n_).setCell ⟨q0, 0, none⟩ (.string ((rd_T86 l0 x27_1).f0))).setCell ⟨q0, 1, none⟩ (.int .i64 ((rd_T86 l0 x27_1).f1)))).cell? _ = some _ from q8)); clear hn161_0; clear hn161_1; replace p161 := eq_true p161; replace q161 := eq_true q161)))
           go_roundg k1
           case measure => have := HK1.out; omega
           case rel => exact ⟨(wrap64 (x27_1 + 1)), (by first | rfl | (simp; done) | (simp [*]; done)), H', ⟨by have := HK1.out; omega⟩, ⟨by apply blk_u; refine blk_far ?_ j3.out _; apply blk_u; refine blk_far ?_ j3.out _; apply blk_u; exact q1.out⟩, ⟨bl HB⟩⟩
          ·
           rw [if_neg c17] at H
           have Y5 : (((rd_T39 q9 x27_1).f0) == ((rd_T86 l0 x27_1).f1)) = false := beq_eq_false_iff_ne.mpr c17
           have Y6 : (((rd_T39 q9 x27_1).f0) != ((rd_T86 l0 x27_1).f1)) = true := bne_iff_ne.mpr c17
           obtain rfl := Option.some.inj H
           have p159 : 0 ≤ (x27_1 : Int) := of_decide_eq_true (by first | (with_reducible assumption) | assumption)
           have q159 : x27_1 < (l0.length : Int) := of_decide_eq_true (by first | (with_reducible assumption) | assumption)
           obtain ⟨ad159, e159, z9, y7⟩ := at_T86 Q8.out x27_1 p159 q159
           cases e159
           replace z9 := (HB.out.cell (World.block_lt_of_cell? w _ z9)).trans z9
           replace y7 := (HB.out.cell (World.block_lt_of_cell? w _ y7)).trans y7
           replace p159 := eq_true p159
           replace q159 := eq_true q159
           go_wp2_with (first | ((with_reducible refine gate_dst (N := 8) rfl ?_); refine bx 8 #[.string (⟨#[]⟩ : ByteArray), .int .i64 0] 86 ?_; intro q0 hg w22 hbox hb; have j4 := Qaa.mk (hbox); have z3 := Qaa.mk ((by rw [hg]; exact (below_size (bl HB)) : w.heap.size ≤ q0)); have Qk := Qaa.mk ((by rw [hg]; exact (below_size (bl HB)) : w.heap.size ≤ q0)); have j3 := Qaa.mk ((by rw [hg]; exact Nat.ne_of_lt (blk_lt (Ub q1)) : q3 ≠ q0)); have j5 := Qaa.mk ((by rw [hg]; exact Nat.ne_of_gt (blk_lt (Ub q1)) : q0 ≠ q3)); replace q1 := Bb q1 hb; replace HB := bs HB hb; clear hb hbox hg; have Js := j5.out; have Jt := j3.out; obtain ⟨Ze, Zf, Zg, Zh⟩ := cf2 j4; obtain ⟨Zi, Zj, Zk, Zl, Zm, Zn, Zo, Zp⟩ := cf4 q1; have p161 : 0 ≤ (x27_1 : Int) := of_decide_eq_true (by first | (with_reducible assumption) | assumption); have q161 : x27_1 < (q9.length : Int) := of_decide_eq_true (by first | (with_reducible assumption) | assumption); obtain ⟨ad161, Q9, Qa, Qb, Qc, Qd, Qe, Qf, Qg, Qh, Qi, e161, q2, q4, q5, q6, q7, q8, hl161_1, hi161_1, hl161_2, hi161_2, hl161_3, hi161_3, hl161_4, hi161_4, hl161_5, hi161_5⟩ := at_T39 z2.out x27_1 p161 q161; cases e161; have hn161_0 : ad161.block ≠ q0 := Nat.ne_of_lt (Nat.lt_of_lt_of_le (by have := World.block_lt_of_cell? _ _ q2; first | rwa [add_block] at this | exact this) z3.out); have hn161_1 : ad161.block ≠ q0 := Nat.ne_of_lt (Nat.lt_of_lt_of_le (by have := World.block_lt_of_cell? _ _ q2; first | rwa [add_block] at this | exact this) z3.out); replace q2 := (HB.out.cell (World.block_lt_of_cell? w _ q2)).trans q2; replace q4 := (HB.out.cell (World.block_lt_of_cell? w _ q4)).trans q4; replace q5 := (HB.out.cell (World.block_lt_of_cell? w _ q5)).trans q5; replace q6 := (HB.out.cell (World.block_lt_of_cell? w _ q6)).trans q6; replace q7 := (HB.out.cell (World.block_lt_of_cell? w _ q7)).trans q7; replace q8 := (HB.out.cell (World.block_lt_of_cell? w _ q8)).trans q8; have y8 := Qaa.mk hi161_1; have y9 := Qaa.mk hl161_1; clear hi161_1 hl161_1; have Q0 := Qaa.mk hi161_2; have Q1 := Qaa.mk hl161_2; clear hi161_2 hl161_2; have Q2 := Qaa.mk hi161_3; have Q3 := Qaa.mk hl161_3; clear hi161_3 hl161_3; have Q4 := Qaa.mk hi161_4; have Q5 := Qaa.mk hl161_4; clear hi161_4 hl161_4; have Q6 := Qaa.mk hi161_5; have Q7 := Qaa.mk hl161_5; clear hi161_5 hl161_5; replace q2 := (cell_far (p := ⟨q0, 0, none⟩) (by first | (rw [add_block]; exact hn161_0) | (show (Addr.add _ _).block ≠ _; rw [add_block]; exact hn161_0) | exact hn161_0) (.string ((rd_T86 l0 x27_1).f0))).trans q2; replace q4 := (cell_far (p := ⟨q0, 0, none⟩) (by first | (rw [add_block]; exact hn161_0) | (show (Addr.add _ _).block ≠ _; rw [add_block]; exact hn161_0) | exact hn161_0) (.string ((rd_T86 l0 x27_1).f0))).trans q4; replace q5 := (cell_far (p := ⟨q0, 0, none⟩) (by first | (rw [add_block]; exact hn161_0) | (show (Addr.add _ _).block ≠ _; rw [add_block]; exact hn161_0) | exact hn161_0) (.string ((rd_T86 l0 x27_1).f0))).trans q5; replace q6 := (cell_far (p := ⟨q0, 0, none⟩) (by first | (rw [add_block]; exact hn161_0) | (show (Addr.add _ _).block ≠ _; rw [add_block]; exact hn161_0) | exact hn161_0) (.string ((rd_T86 l0 x27_1).f0))).trans q6; replace q7 := (cell_far (p := ⟨q0, 0, none⟩) (by first | (rw [add_block]; exact hn161_0) | (show (Addr.add _ _).block ≠ _; rw [add_block]; exact hn161_0) | exact hn161_0) (.string ((rd_T86 l0 x27_1).f0))).trans q7; replace q8 := (cell_far (p := ⟨q0, 0, none⟩) (by first | (rw [add_block]; exact hn161_0) | (show (Addr.add _ _).block ≠ _; rw [add_block]; exact hn161_0) | exact hn161_0) (.string ((rd_T86 l0 x27_1).f0))).trans q8; replace q2 := (cell_far (p := ⟨q0, 1, none⟩) (by first | (rw [add_block]; exact hn161_1) | (show (Addr.add _ _).block ≠ _; rw [add_block]; exact hn161_1) | exact hn161_1) (.int .i64 ((rd_T86 l0 x27_1).f1))).trans q2; replace q4 := (cell_far (p := ⟨q0, 1, none⟩) (by first | (rw [add_block]; exact hn161_1) | (show (Addr.add _ _).block ≠ _; rw [add_block]; exact hn161_1) | exact hn161_1) (.int .i64 ((rd_T86 l0 x27_1).f1))).trans q4; replace q5 := (cell_far (p := ⟨q0, 1, none⟩) (by first | (rw [add_block]; exact hn161_1) | (show (Addr.add _ _).block ≠ _; rw [add_block]; exact hn161_1) | exact hn161_1) (.int .i64 ((rd_T86 l0 x27_1).f1))).trans q5; replace q6 := (cell_far (p := ⟨q0, 1, none⟩) (by first | (rw [add_block]; exact hn161_1) | (show (Addr.add _ _).block ≠ _; rw [add_block]; exact hn161_1) | exact hn161_1) (.int .i64 ((rd_T86 l0 x27_1).f1))).trans q6; replace q7 := (cell_far (p := ⟨q0, 1, none⟩) (by first | (rw [add_block]; exact hn161_1) | (show (Addr.add _ _).block ≠ _; rw [add_block]; exact hn161_1) | exact hn161_1) (.int .i64 ((rd_T86 l0 x27_1).f1))).trans q7; replace q8 := (cell_far (p := ⟨q0, 1, none⟩) (by first | (rw [add_block]; exact hn161_1) | (show (Addr.add _ _).block ≠ _; rw [add_block]; exact hn161_1) | exact hn161_1) (.int .i64 ((rd_T86 l0 x27_1).f1))).trans q8; (try have hy161_0 := fun (n_ : Nat) => (show ((((w22.drewN n_).setCell ⟨q0, 0, none⟩ (.string ((rd_T86 l0 x27_1).f0))).setCell ⟨q0, 1, none⟩ (.int .i64 ((rd_T86 l0 x27_1).f1)))).cell? _ = some _ from q2)); (try have hy161_1 := fun (n_ : Nat) => (show ((((w22.drewN n_).setCell ⟨q0, 0, none⟩ (.string ((rd_T86 l0 x27_1).f0))).setCell ⟨q0, 1, none⟩ (.int .i64 ((rd_T86 l0 x27_1).f1)))).cell? _ = some _ from q4)); (try have hy161_2 := fun (n_ : Nat) => (show ((((w22.drewN n_).setCell ⟨q0, 0, none⟩ (.string ((rd_T86 l0 x27_1).f0))).setCell ⟨q0, 1, none⟩ (.int .i64 ((rd_T86 l0 x27_1).f1)))).cell? _ = some _ from q5)); (try have hy161_3 := fun (n_ : Nat) => (show ((((w22.drewN n_).setCell ⟨q0, 0, none⟩ (.string ((rd_T86 l0 x27_1).f0))).setCell ⟨q0, 1, none⟩ (.int .i64 ((rd_T86 l0 x27_1).f1)))).cell? _ = some _ from q6)); (try have hy161_4 := fun (n_ : Nat) => (show ((((w22.drewN n_).setCell ⟨q0, 0, none⟩ (.string ((rd_T86 l0 x27_1).f0))).setCell ⟨q0, 1, none⟩ (.int .i64 ((rd_T86 l0 x27_1).f1)))).cell? _ = some _ from q7)); (try have hy161_5 := fun (n_ : Nat) => (show ((((w22.drewN n_).setCell ⟨q0, 0, none⟩ (.string ((rd_T86 l0 x27_1).f0))).setCell ⟨q0, 1, none⟩ (.int .i64 ((rd_T86 l0 x27_1).f1)))).cell? _ = some _ from q8)); clear hn161_0; clear hn161_1; replace p161 := eq_true p161; replace q161 := eq_true q161))
           repeat (go_quiet (first | ((with_reducible refine gate_dst (N := 8) rfl ?_); refine bx 8 #[.string (⟨#[]⟩ : ByteArray), .int .i64 0] 86 ?_; intro q0 hg w22 hbox hb; have n0_ := Bb q1 hb; have n1_ := bs HB hb; have n2_ := Qaa.mk (hbox); have n3_ := Qaa.mk ((by rw [hg]; exact (below_size (bl HB)) : w.heap.size ≤ q0)); have n4_ := Qaa.mk ((by rw [hg]; exact (below_size (bl HB)) : w.heap.size ≤ q0)); have n5_ := Qaa.mk ((by rw [hg]; exact Nat.ne_of_lt (blk_lt (Ub q1)) : q3 ≠ q0)); have n6_ := Qaa.mk ((by rw [hg]; exact Nat.ne_of_gt (blk_lt (Ub q1)) : q0 ≠ q3)); clear q1; clear HB; have q1 := n0_; have HB := n1_; have j4 := n2_; have z3 := n3_; have Qk := n4_; have j3 := n5_; have j5 := n6_; clear n0_ n1_ n2_ n3_ n4_ n5_ n6_; clear hb hbox hg; have Js := j5.out; have Jt := j3.out; have Ze : w22.cell? ⟨q0, 0, none⟩ = some (.string (⟨#[]⟩ : ByteArray)) := (blk_cell j4.out 0).trans rfl; have Zf : w22.cell? ⟨q0, 1, none⟩ = some (.int .i64 0) := (blk_cell j4.out 1).trans rfl; have Zg := blk_frozen j4.out 0; have Zh := blk_frozen j4.out 1; have Zi : w22.cell? ⟨q3, 0, none⟩ = some (.int .i64 j1) := (blk_cell q1.out 0).trans rfl; have Zj : w22.cell? ⟨q3, 1, none⟩ = some (.slice j8 q9.length j9) := (blk_cell q1.out 1).trans rfl; have Zk : w22.cell? ⟨q3, 2, none⟩ = some (.bool j2) := (blk_cell q1.out 2).trans rfl; have Zl : w22.cell? ⟨q3, 3, none⟩ = some (.slice z0 j0.length z1) := (blk_cell q1.out 3).trans rfl; have Zm := blk_frozen q1.out 0; have Zn := blk_frozen q1.out 1; have Zo := blk_frozen q1.out 2; have Zp := blk_frozen q1.out 3; have p161 : 0 ≤ (x27_1 : Int) := of_decide_eq_true (by first | (with_reducible assumption) | assumption); have q161 : x27_1 < (q9.length : Int) := of_decide_eq_true (by first | (with_reducible assumption) | assumption); obtain ⟨ad161, Q9, Qa, Qb, Qc, Qd, Qe, Qf, Qg, Qh, Qi, e161, q2, q4, q5, q6, q7, q8, hl161_1, hi161_1, hl161_2, hi161_2, hl161_3, hi161_3, hl161_4, hi161_4, hl161_5, hi161_5⟩ := at_T39 z2.out x27_1 p161 q161; cases e161; have hn161_0 : ad161.block ≠ q0 := Nat.ne_of_lt (Nat.lt_of_lt_of_le (by have := World.block_lt_of_cell? _ _ q2; first | rwa [add_block] at this | exact this) z3.out); have hn161_1 : ad161.block ≠ q0 := Nat.ne_of_lt (Nat.lt_of_lt_of_le (by have := World.block_lt_of_cell? _ _ q2; first | rwa [add_block] at this | exact this) z3.out); replace q2 := (HB.out.cell (World.block_lt_of_cell? w _ q2)).trans q2; replace q4 := (HB.out.cell (World.block_lt_of_cell? w _ q4)).trans q4; replace q5 := (HB.out.cell (World.block_lt_of_cell? w _ q5)).trans q5; replace q6 := (HB.out.cell (World.block_lt_of_cell? w _ q6)).trans q6; replace q7 := (HB.out.cell (World.block_lt_of_cell? w _ q7)).trans q7; replace q8 := (HB.out.cell (World.block_lt_of_cell? w _ q8)).trans q8; have y8 := Qaa.mk hi161_1; have y9 := Qaa.mk hl161_1; clear hi161_1 hl161_1; have Q0 := Qaa.mk hi161_2; have Q1 := Qaa.mk hl161_2; clear hi161_2 hl161_2; have Q2 := Qaa.mk hi161_3; have Q3 := Qaa.mk hl161_3; clear hi161_3 hl161_3; have Q4 := Qaa.mk hi161_4; have Q5 := Qaa.mk hl161_4; clear hi161_4 hl161_4; have Q6 := Qaa.mk hi161_5; have Q7 := Qaa.mk hl161_5; clear hi161_5 hl161_5; replace q2 := (cell_far (p := ⟨q0, 0, none⟩) (by first | (rw [add_block]; exact hn161_0) | (show (Addr.add _ _).block ≠ _; rw [add_block]; exact hn161_0) | exact hn161_0) (.string ((rd_T86 l0 x27_1).f0))).trans q2; replace q4 := (cell_far (p := ⟨q0, 0, none⟩) (by first | (rw [add_block]; exact hn161_0) | (show (Addr.add _ _).block ≠ _; rw [add_block]; exact hn161_0) | exact hn161_0) (.string ((rd_T86 l0 x27_1).f0))).trans q4; replace q5 := (cell_far (p := ⟨q0, 0, none⟩) (by first | (rw [add_block]; exact hn161_0) | (show (Addr.add _ _).block ≠ _; rw [add_block]; exact hn161_0) | exact hn161_0) (.string ((rd_T86 l0 x27_1).f0))).trans q5; replace q6 := (cell_far (p := ⟨q0, 0, none⟩) (by first | (rw [add_block]; exact hn161_0) | (show (Addr.add _ _).block ≠ _; rw [add_block]; exact hn161_0) | exact hn161_0) (.string ((rd_T86 l0 x27_1).f0))).trans q6; replace q7 := (cell_far (p := ⟨q0, 0, none⟩) (by first | (rw [add_block]; exact hn161_0) | (show (Addr.add _ _).block ≠ _; rw [add_block]; exact hn161_0) | exact hn161_0) (.string ((rd_T86 l0 x27_1).f0))).trans q7; replace q8 := (cell_far (p := ⟨q0, 0, none⟩) (by first | (rw [add_block]; exact hn161_0) | (show (Addr.add _ _).block ≠ _; rw [add_block]; exact hn161_0) | exact hn161_0) (.string ((rd_T86 l0 x27_1).f0))).trans q8; replace q2 := (cell_far (p := ⟨q0, 1, none⟩) (by first | (rw [add_block]; exact hn161_1) | (show (Addr.add _ _).block ≠ _; rw [add_block]; exact hn161_1) | exact hn161_1) (.int .i64 ((rd_T86 l0 x27_1).f1))).trans q2; replace q4 := (cell_far (p := ⟨q0, 1, none⟩) (by first | (rw [add_block]; exact hn161_1) | (show (Addr.add _ _).block ≠ _; rw [add_block]; exact hn161_1) | exact hn161_1) (.int .i64 ((rd_T86 l0 x27_1).f1))).trans q4; replace q5 := (cell_far (p := ⟨q0, 1, none⟩) (by first | (rw [add_block]; exact hn161_1) | (show (Addr.add _ _).block ≠ _; rw [add_block]; exact hn161_1) | exact hn161_1) (.int .i64 ((rd_T86 l0 x27_1).f1))).trans q5; replace q6 := (cell_far (p := ⟨q0, 1, none⟩) (by first | (rw [add_block]; exact hn161_1) | (show (Addr.add _ _).block ≠ _; rw [add_block]; exact hn161_1) | exact hn161_1) (.int .i64 ((rd_T86 l0 x27_1).f1))).trans q6; replace q7 := (cell_far (p := ⟨q0, 1, none⟩) (by first | (rw [add_block]; exact hn161_1) | (show (Addr.add _ _).block ≠ _; rw [add_block]; exact hn161_1) | exact hn161_1) (.int .i64 ((rd_T86 l0 x27_1).f1))).trans q7; replace q8 := (cell_far (p := ⟨q0, 1, none⟩) (by first | (rw [add_block]; exact hn161_1) | (show (Addr.add _ _).block ≠ _; rw [add_block]; exact hn161_1) | exact hn161_1) (.int .i64 ((rd_T86 l0 x27_1).f1))).trans q8; (try have hy161_0 := fun (n_ : Nat) => (show ((((w22.drewN n_).setCell ⟨q0, 0, none⟩ (.string ((rd_T86 l0 x27_1).f0))).setCell ⟨q0, 1, none⟩ (.int .i64 ((rd_T86 l0 x27_1).f1)))).cell? _ = some _ from q2)); (try have hy161_1 := fun (n_ : Nat) => (show ((((w22.drewN n_).setCell ⟨q0, 0, none⟩ (.string ((rd_T86 l0 x27_1).f0))).setCell ⟨q0, 1, none⟩ (.int .i64 ((rd_T86 l0 x27_1).f1)))).cell? _ = some _ from q4)); (try have hy161_2 := fun (n_ : Nat) => (show ((((w22.drewN n_).setCell ⟨q0, 0, none⟩ (.string ((rd_T86 l0 x27_1).f0))).setCell ⟨q0, 1, none⟩ (.int .i64 ((rd_T86 l0 x27_1).f1)))).cell? _ = some _ from q5)); (try have hy161_3 := fun (n_ : Nat) => (show ((((w22.drewN n_).setCell ⟨q0, 0, none⟩ (.string ((rd_T86 l0 x27_1).f0))).setCell ⟨q0, 1, none⟩ (.int .i64 ((rd_T86 l0 x27_1).f1)))).cell? _ = some _ from q6)); (try have hy161_4 := fun (n_ : Nat) => (show ((((w22.drewN n_).setCell ⟨q0, 0, none⟩ (.string ((rd_T86 l0 x27_1).f0))).setCell ⟨q0, 1, none⟩ (.int .i64 ((rd_T86 l0 x27_1).f1)))).cell? _ = some _ from q7)); (try have hy161_5 := fun (n_ : Nat) => (show ((((w22.drewN n_).setCell ⟨q0, 0, none⟩ (.string ((rd_T86 l0 x27_1).f0))).setCell ⟨q0, 1, none⟩ (.int .i64 ((rd_T86 l0 x27_1).f1)))).cell? _ = some _ from q8)); clear hn161_0; clear hn161_1; replace p161 := eq_true p161; replace q161 := eq_true q161)); try go_wp2_with (first | ((with_reducible refine gate_dst (N := 8) rfl ?_); refine bx 8 #[.string (⟨#[]⟩ : ByteArray), .int .i64 0] 86 ?_; intro q0 hg w22 hbox hb; have n0_ := Bb q1 hb; have n1_ := bs HB hb; have n2_ := Qaa.mk (hbox); have n3_ := Qaa.mk ((by rw [hg]; exact (below_size (bl HB)) : w.heap.size ≤ q0)); have n4_ := Qaa.mk ((by rw [hg]; exact (below_size (bl HB)) : w.heap.size ≤ q0)); have n5_ := Qaa.mk ((by rw [hg]; exact Nat.ne_of_lt (blk_lt (Ub q1)) : q3 ≠ q0)); have n6_ := Qaa.mk ((by rw [hg]; exact Nat.ne_of_gt (blk_lt (Ub q1)) : q0 ≠ q3)); clear q1; clear HB; have q1 := n0_; have HB := n1_; have j4 := n2_; have z3 := n3_; have Qk := n4_; have j3 := n5_; have j5 := n6_; clear n0_ n1_ n2_ n3_ n4_ n5_ n6_; clear hb hbox hg; have Js := j5.out; have Jt := j3.out; have Ze : w22.cell? ⟨q0, 0, none⟩ = some (.string (⟨#[]⟩ : ByteArray)) := (blk_cell j4.out 0).trans rfl; have Zf : w22.cell? ⟨q0, 1, none⟩ = some (.int .i64 0) := (blk_cell j4.out 1).trans rfl; have Zg := blk_frozen j4.out 0; have Zh := blk_frozen j4.out 1; have Zi : w22.cell? ⟨q3, 0, none⟩ = some (.int .i64 j1) := (blk_cell q1.out 0).trans rfl; have Zj : w22.cell? ⟨q3, 1, none⟩ = some (.slice j8 q9.length j9) := (blk_cell q1.out 1).trans rfl; have Zk : w22.cell? ⟨q3, 2, none⟩ = some (.bool j2) := (blk_cell q1.out 2).trans rfl; have Zl : w22.cell? ⟨q3, 3, none⟩ = some (.slice z0 j0.length z1) := (blk_cell q1.out 3).trans rfl; have Zm := blk_frozen q1.out 0; have Zn := blk_frozen q1.out 1; have Zo := blk_frozen q1.out 2; have Zp := blk_frozen q1.out 3; have p161 : 0 ≤ (x27_1 : Int) := of_decide_eq_true (by first | (with_reducible assumption) | assumption); have q161 : x27_1 < (q9.length : Int) := of_decide_eq_true (by first | (with_reducible assumption) | assumption); obtain ⟨ad161, Q9, Qa, Qb, Qc, Qd, Qe, Qf, Qg, Qh, Qi, e161, q2, q4, q5, q6, q7, q8, hl161_1, hi161_1, hl161_2, hi161_2, hl161_3, hi161_3, hl161_4, hi161_4, hl161_5, hi161_5⟩ := at_T39 z2.out x27_1 p161 q161; cases e161; have hn161_0 : ad161.block ≠ q0 := Nat.ne_of_lt (Nat.lt_of_lt_of_le (by have := World.block_lt_of_cell? _ _ q2; first | rwa [add_block] at this | exact this) z3.out); have hn161_1 : ad161.block ≠ q0 := Nat.ne_of_lt (Nat.lt_of_lt_of_le (by have := World.block_lt_of_cell? _ _ q2; first | rwa [add_block] at this | exact this) z3.out); replace q2 := (HB.out.cell (World.block_lt_of_cell? w _ q2)).trans q2; replace q4 := (HB.out.cell (World.block_lt_of_cell? w _ q4)).trans q4; replace q5 := (HB.out.cell (World.block_lt_of_cell? w _ q5)).trans q5; replace q6 := (HB.out.cell (World.block_lt_of_cell? w _ q6)).trans q6; replace q7 := (HB.out.cell (World.block_lt_of_cell? w _ q7)).trans q7; replace q8 := (HB.out.cell (World.block_lt_of_cell? w _ q8)).trans q8; have y8 := Qaa.mk hi161_1; have y9 := Qaa.mk hl161_1; clear hi161_1 hl161_1; have Q0 := Qaa.mk hi161_2; have Q1 := Qaa.mk hl161_2; clear hi161_2 hl161_2; have Q2 := Qaa.mk hi161_3; have Q3 := Qaa.mk hl161_3; clear hi161_3 hl161_3; have Q4 := Qaa.mk hi161_4; have Q5 := Qaa.mk hl161_4; clear hi161_4 hl161_4; have Q6 := Qaa.mk hi161_5; have Q7 := Qaa.mk hl161_5; clear hi161_5 hl161_5; replace q2 := (cell_far (p := ⟨q0, 0, none⟩) (by first | (rw [add_block]; exact hn161_0) | (show (Addr.add _ _).block ≠ _; rw [add_block]; exact hn161_0) | exact hn161_0) (.string ((rd_T86 l0 x27_1).f0))).trans q2; replace q4 := (cell_far (p := ⟨q0, 0, none⟩) (by first | (rw [add_block]; exact hn161_0) | (show (Addr.add _ _).block ≠ _; rw [add_block]; exact hn161_0) | exact hn161_0) (.string ((rd_T86 l0 x27_1).f0))).trans q4; replace q5 := (cell_far (p := ⟨q0, 0, none⟩) (by first | (rw [add_block]; exact hn161_0) | (show (Addr.add _ _).block ≠ _; rw [add_block]; exact hn161_0) | exact hn161_0) (.string ((rd_T86 l0 x27_1).f0))).trans q5; replace q6 := (cell_far (p := ⟨q0, 0, none⟩) (by first | (rw [add_block]; exact hn161_0) | (show (Addr.add _ _).block ≠ _; rw [add_block]; exact hn161_0) | exact hn161_0) (.string ((rd_T86 l0 x27_1).f0))).trans q6; replace q7 := (cell_far (p := ⟨q0, 0, none⟩) (by first | (rw [add_block]; exact hn161_0) | (show (Addr.add _ _).block ≠ _; rw [add_block]; exact hn161_0) | exact hn161_0) (.string ((rd_T86 l0 x27_1).f0))).trans q7; replace q8 := (cell_far (p := ⟨q0, 0, none⟩) (by first | (rw [add_block]; exact hn161_0) | (show (Addr.add _ _).block ≠ _; rw [add_block]; exact hn161_0) | exact hn161_0) (.string ((rd_T86 l0 x27_1).f0))).trans q8; replace q2 := (cell_far (p := ⟨q0, 1, none⟩) (by first | (rw [add_block]; exact hn161_1) | (show (Addr.add _ _).block ≠ _; rw [add_block]; exact hn161_1) | exact hn161_1) (.int .i64 ((rd_T86 l0 x27_1).f1))).trans q2; replace q4 := (cell_far (p := ⟨q0, 1, none⟩) (by first | (rw [add_block]; exact hn161_1) | (show (Addr.add _ _).block ≠ _; rw [add_block]; exact hn161_1) | exact hn161_1) (.int .i64 ((rd_T86 l0 x27_1).f1))).trans q4; replace q5 := (cell_far (p := ⟨q0, 1, none⟩) (by first | (rw [add_block]; exact hn161_1) | (show (Addr.add _ _).block ≠ _; rw [add_block]; exact hn161_1) | exact hn161_1) (.int .i64 ((rd_T86 l0 x27_1).f1))).trans q5; replace q6 := (cell_far (p := ⟨q0, 1, none⟩) (by first | (rw [add_block]; exact hn161_1) | (show (Addr.add _ _).block ≠ _; rw [add_block]; exact hn161_1) | exact hn161_1) (.int .i64 ((rd_T86 l0 x27_1).f1))).trans q6; replace q7 := (cell_far (p := ⟨q0, 1, none⟩) (by first | (rw [add_block]; exact hn161_1) | (show (Addr.add _ _).block ≠ _; rw [add_block]; exact hn161_1) | exact hn161_1) (.int .i64 ((rd_T86 l0 x27_1).f1))).trans q7; replace q8 := (cell_far (p := ⟨q0, 1, none⟩) (by first | (rw [add_block]; exact hn161_1) | (show (Addr.add _ _).block ≠ _; rw [add_block]; exact hn161_1) | exact hn161_1) (.int .i64 ((rd_T86 l0 x27_1).f1))).trans q8; (try have hy161_0 := fun (n_ : Nat) => (show ((((w22.drewN n_).setCell ⟨q0, 0, none⟩ (.string ((rd_T86 l0 x27_1).f0))).setCell ⟨q0, 1, none⟩ (.int .i64 ((rd_T86 l0 x27_1).f1)))).cell? _ = some _ from q2)); (try have hy161_1 := fun (n_ : Nat) => (show ((((w22.drewN n_).setCell ⟨q0, 0, none⟩ (.string ((rd_T86 l0 x27_1).f0))).setCell ⟨q0, 1, none⟩ (.int .i64 ((rd_T86 l0 x27_1).f1)))).cell? _ = some _ from q4)); (try have hy161_2 := fun (n_ : Nat) => (show ((((w22.drewN n_).setCell ⟨q0, 0, none⟩ (.string ((rd_T86 l0 x27_1).f0))).setCell ⟨q0, 1, none⟩ (.int .i64 ((rd_T86 l0 x27_1).f1)))).cell? _ = some _ from q5)); (try have hy161_3 := fun (n_ : Nat) => (show ((((w22.drewN n_).setCell ⟨q0, 0, none⟩ (.string ((rd_T86 l0 x27_1).f0))).setCell ⟨q0, 1, none⟩ (.int .i64 ((rd_T86 l0 x27_1).f1)))).cell? _ = some _ from q6)); (try have hy161_4 := fun (n_ : Nat) => (show ((((w22.drewN n_).setCell ⟨q0, 0, none⟩ (.string ((rd_T86 l0 x27_1).f0))).setCell ⟨q0, 1, none⟩ (.int .i64 ((rd_T86 l0 x27_1).f1)))).cell? _ = some _ from q7)); (try have hy161_5 := fun (n_ : Nat) => (show ((((w22.drewN n_).setCell ⟨q0, 0, none⟩ (.string ((rd_T86 l0 x27_1).f0))).setCell ⟨q0, 1, none⟩ (.int .i64 ((rd_T86 l0 x27_1).f1)))).cell? _ = some _ from q8)); clear hn161_0; clear hn161_1; replace p161 := eq_true p161; replace q161 := eq_true q161)))
           go_ret
           exact ⟨by first | rfl | (simp [errW_none, errW_some] <;> rfl) | (simp [*, errW_none, errW_some] <;> rfl), bl HB⟩
         ·
          rw [if_neg c16] at H
          exact absurd H (by simp)
        ·
         rw [if_neg c15] at H
         exact absurd H (by simp)
       ·
        rw [if_neg c14] at H
        exact absurd H (by simp)
      ·
       rw [if_neg c13] at H
       have Y4 : decide (x27_1 < (l0.length : Int)) = false := decide_eq_false c13
       clear c13
       obtain rfl := Option.some.inj H
       go_wp2
       repeat (go_quiet (fail); try go_wp2)
       go_ret
       exact ⟨by first | rfl | (simp [errW_none, errW_some] <;> rfl) | (simp [*, errW_none, errW_some] <;> rfl), bl HB⟩
   ·
    rw [if_neg c7] at H
    have Y1 : ((l0.length : Int) == (q9.length : Int)) = false := beq_eq_false_iff_ne.mpr c7
    have Y2 : ((l0.length : Int) != (q9.length : Int)) = true := bne_iff_ne.mpr c7
    have Y3 : (l0.length == q9.length) = false := by first | simpa using c7 | (simp at c7 ⊢; omega)
    obtain rfl := Option.some.inj H
    go_enter Try.func37, Try.ntmps37
    go_wp2_with (first | ((with_reducible refine gate_dst (N := 3) rfl ?_); refine bx 3 #[.int .i64 j1, .slice j8 q9.length j9, .bool j2, .slice z0 j0.length z1] 26 ?_; intro q3 hg w26 hbox hb; have q1 := Qaa.mk (hbox); have z7 := Qaa.mk ((by rw [hg]; exact (below_size (bl HB)) : w.heap.size ≤ q3)); have z8 := Qaa.mk ((by rw [hg]; exact (below_size (bl HB)) : w.heap.size ≤ q3)); replace HB := bs HB hb; clear hb hbox hg; obtain ⟨Zq, Zr, Zs, Zt, Zu, Zv, Zw, Zx⟩ := cf4 q1) | (go_at_call 34; (with_reducible refine (Qac.calls k j1 _ _ q9 j2 _ _ j0 j6 _ ?side1 ?side2 ?side3 ?side4 A3.out).mono ?_); (case side1 => exact Cb z2 HB); (case side2 => exact z4.out); (case side3 => exact Cb z5 HB); (case side4 => exact z6.out); rintro e w28 ⟨rfl, hb⟩; replace q1 := Bb q1 hb; replace HB := bs HB hb; (try clear hb)) | (go_at_call 58; (with_reducible refine (Qaj.calls k _ _ l0 j7 _ ?side1 ?side2 A5.out).mono ?_); (case side1 => exact Cb Q8 HB); (case side2 => exact Qj.out); rintro e w29 ⟨rfl, hb⟩; replace q1 := Bb q1 hb; replace HB := bs HB hb; (try clear hb); obtain ⟨Zy, Zz, J0, J1, J2, J3, J4, J5⟩ := cf4 q1))
    repeat (go_quiet (first | ((with_reducible refine gate_dst (N := 3) rfl ?_); refine bx 3 #[.int .i64 j1, .slice j8 q9.length j9, .bool j2, .slice z0 j0.length z1] 26 ?_; intro q3 hg w26 hbox hb; have q1 := Qaa.mk (hbox); have z7 := Qaa.mk ((by rw [hg]; exact (below_size (bl HB)) : w.heap.size ≤ q3)); have z8 := Qaa.mk ((by rw [hg]; exact (below_size (bl HB)) : w.heap.size ≤ q3)); replace HB := bs HB hb; clear hb hbox hg; obtain ⟨Zq, Zr, Zs, Zt, Zu, Zv, Zw, Zx⟩ := cf4 q1) | (go_at_call 34; (with_reducible refine (Qac.calls k j1 _ _ q9 j2 _ _ j0 j6 _ ?side1 ?side2 ?side3 ?side4 A3.out).mono ?_); (case side1 => exact Cb z2 HB); (case side2 => exact z4.out); (case side3 => exact Cb z5 HB); (case side4 => exact z6.out); rintro e w28 ⟨rfl, hb⟩; replace q1 := Bb q1 hb; replace HB := bs HB hb; (try clear hb)) | (go_at_call 58; (with_reducible refine (Qaj.calls k _ _ l0 j7 _ ?side1 ?side2 A5.out).mono ?_); (case side1 => exact Cb Q8 HB); (case side2 => exact Qj.out); rintro e w29 ⟨rfl, hb⟩; have n0_ := Bb q1 hb; have n1_ := bs HB hb; clear q1; clear HB; have q1 := n0_; have HB := n1_; clear n0_ n1_; (try clear hb); (try clear hb2); (try clear hk); (try clear hi); have Zy : w29.cell? ⟨q3, 0, none⟩ = some (.int .i64 j1) := (blk_cell q1.out 0).trans rfl; have Zz : w29.cell? ⟨q3, 1, none⟩ = some (.slice j8 q9.length j9) := (blk_cell q1.out 1).trans rfl; have J0 : w29.cell? ⟨q3, 2, none⟩ = some (.bool j2) := (blk_cell q1.out 2).trans rfl; have J1 : w29.cell? ⟨q3, 3, none⟩ = some (.slice z0 j0.length z1) := (blk_cell q1.out 3).trans rfl; have J2 := blk_frozen q1.out 0; have J3 := blk_frozen q1.out 1; have J4 := blk_frozen q1.out 2; have J5 := blk_frozen q1.out 3)); try go_wp2_with (first | ((with_reducible refine gate_dst (N := 3) rfl ?_); refine bx 3 #[.int .i64 j1, .slice j8 q9.length j9, .bool j2, .slice z0 j0.length z1] 26 ?_; intro q3 hg w26 hbox hb; have q1 := Qaa.mk (hbox); have z7 := Qaa.mk ((by rw [hg]; exact (below_size (bl HB)) : w.heap.size ≤ q3)); have z8 := Qaa.mk ((by rw [hg]; exact (below_size (bl HB)) : w.heap.size ≤ q3)); replace HB := bs HB hb; clear hb hbox hg; obtain ⟨Zq, Zr, Zs, Zt, Zu, Zv, Zw, Zx⟩ := cf4 q1) | (go_at_call 34; (with_reducible refine (Qac.calls k j1 _ _ q9 j2 _ _ j0 j6 _ ?side1 ?side2 ?side3 ?side4 A3.out).mono ?_); (case side1 => exact Cb z2 HB); (case side2 => exact z4.out); (case side3 => exact Cb z5 HB); (case side4 => exact z6.out); rintro e w28 ⟨rfl, hb⟩; replace q1 := Bb q1 hb; replace HB := bs HB hb; (try clear hb)) | (go_at_call 58; (with_reducible refine (Qaj.calls k _ _ l0 j7 _ ?side1 ?side2 A5.out).mono ?_); (case side1 => exact Cb Q8 HB); (case side2 => exact Qj.out); rintro e w29 ⟨rfl, hb⟩; have n0_ := Bb q1 hb; have n1_ := bs HB hb; clear q1; clear HB; have q1 := n0_; have HB := n1_; clear n0_ n1_; (try clear hb); (try clear hb2); (try clear hk); (try clear hi); have Zy : w29.cell? ⟨q3, 0, none⟩ = some (.int .i64 j1) := (blk_cell q1.out 0).trans rfl; have Zz : w29.cell? ⟨q3, 1, none⟩ = some (.slice j8 q9.length j9) := (blk_cell q1.out 1).trans rfl; have J0 : w29.cell? ⟨q3, 2, none⟩ = some (.bool j2) := (blk_cell q1.out 2).trans rfl; have J1 : w29.cell? ⟨q3, 3, none⟩ = some (.slice z0 j0.length z1) := (blk_cell q1.out 3).trans rfl; have J2 := blk_frozen q1.out 0; have J3 := blk_frozen q1.out 1; have J4 := blk_frozen q1.out 2; have J5 := blk_frozen q1.out 3)))
    go_ret
    exact ⟨by first | rfl | (simp [errW_none, errW_some] <;> rfl) | (simp [*, errW_none, errW_some] <;> rfl), bl HB⟩
  ·
   rw [if_neg c6] at H
   have Jz : (j7 == 0) = false := beq_eq_false_iff_ne.mpr c6
   have Y0 : (j7 != 0) = true := bne_iff_ne.mpr c6
   obtain rfl := Option.some.inj H
   go_enter Try.func37, Try.ntmps37
   go_wp2_with (first | ((with_reducible refine gate_dst (N := 3) rfl ?_); refine bx 3 #[.int .i64 j1, .slice j8 q9.length j9, .bool j2, .slice z0 j0.length z1] 26 ?_; intro q3 hg w31 hbox hb; have q1 := Qaa.mk (hbox); have z7 := Qaa.mk ((by rw [hg]; exact (below_size (bl HB)) : w.heap.size ≤ q3)); have z8 := Qaa.mk ((by rw [hg]; exact (below_size (bl HB)) : w.heap.size ≤ q3)); replace HB := bs HB hb; clear hb hbox hg; obtain ⟨J6, J7, J8, J9, Ja, Jb, Jc, Jd⟩ := cf4 q1) | (go_at_call 34; (with_reducible refine (Qac.calls k j1 _ _ q9 j2 _ _ j0 j6 _ ?side1 ?side2 ?side3 ?side4 A3.out).mono ?_); (case side1 => exact Cb z2 HB); (case side2 => exact z4.out); (case side3 => exact Cb z5 HB); (case side4 => exact z6.out); rintro e w33 ⟨rfl, hb⟩; replace q1 := Bb q1 hb; replace HB := bs HB hb; (try clear hb)) | (go_at_call 58; (with_reducible refine (Qaj.calls k _ _ l0 j7 _ ?side1 ?side2 A5.out).mono ?_); (case side1 => exact Cb Q8 HB); (case side2 => exact Qj.out); rintro e w34 ⟨rfl, hb⟩; replace q1 := Bb q1 hb; replace HB := bs HB hb; (try clear hb)))
   repeat (go_quiet (first | ((with_reducible refine gate_dst (N := 3) rfl ?_); refine bx 3 #[.int .i64 j1, .slice j8 q9.length j9, .bool j2, .slice z0 j0.length z1] 26 ?_; intro q3 hg w31 hbox hb; have q1 := Qaa.mk (hbox); have z7 := Qaa.mk ((by rw [hg]; exact (below_size (bl HB)) : w.heap.size ≤ q3)); have z8 := Qaa.mk ((by rw [hg]; exact (below_size (bl HB)) : w.heap.size ≤ q3)); replace HB := bs HB hb; clear hb hbox hg; obtain ⟨J6, J7, J8, J9, Ja, Jb, Jc, Jd⟩ := cf4 q1) | (go_at_call 34; (with_reducible refine (Qac.calls k j1 _ _ q9 j2 _ _ j0 j6 _ ?side1 ?side2 ?side3 ?side4 A3.out).mono ?_); (case side1 => exact Cb z2 HB); (case side2 => exact z4.out); (case side3 => exact Cb z5 HB); (case side4 => exact z6.out); rintro e w33 ⟨rfl, hb⟩; replace q1 := Bb q1 hb; replace HB := bs HB hb; (try clear hb)) | (go_at_call 58; (with_reducible refine (Qaj.calls k _ _ l0 j7 _ ?side1 ?side2 A5.out).mono ?_); (case side1 => exact Cb Q8 HB); (case side2 => exact Qj.out); rintro e w34 ⟨rfl, hb⟩; have n0_ := Bb q1 hb; have n1_ := bs HB hb; clear q1; clear HB; have q1 := n0_; have HB := n1_; clear n0_ n1_; (try clear hb); (try clear hb2); (try clear hk); (try clear hi))); try go_wp2_with (first | ((with_reducible refine gate_dst (N := 3) rfl ?_); refine bx 3 #[.int .i64 j1, .slice j8 q9.length j9, .bool j2, .slice z0 j0.length z1] 26 ?_; intro q3 hg w31 hbox hb; have q1 := Qaa.mk (hbox); have z7 := Qaa.mk ((by rw [hg]; exact (below_size (bl HB)) : w.heap.size ≤ q3)); have z8 := Qaa.mk ((by rw [hg]; exact (below_size (bl HB)) : w.heap.size ≤ q3)); replace HB := bs HB hb; clear hb hbox hg; obtain ⟨J6, J7, J8, J9, Ja, Jb, Jc, Jd⟩ := cf4 q1) | (go_at_call 34; (with_reducible refine (Qac.calls k j1 _ _ q9 j2 _ _ j0 j6 _ ?side1 ?side2 ?side3 ?side4 A3.out).mono ?_); (case side1 => exact Cb z2 HB); (case side2 => exact z4.out); (case side3 => exact Cb z5 HB); (case side4 => exact z6.out); rintro e w33 ⟨rfl, hb⟩; replace q1 := Bb q1 hb; replace HB := bs HB hb; (try clear hb)) | (go_at_call 58; (with_reducible refine (Qaj.calls k _ _ l0 j7 _ ?side1 ?side2 A5.out).mono ?_); (case side1 => exact Cb Q8 HB); (case side2 => exact Qj.out); rintro e w34 ⟨rfl, hb⟩; have n0_ := Bb q1 hb; have n1_ := bs HB hb; clear q1; clear HB; have q1 := n0_; have HB := n1_; clear n0_ n1_; (try clear hb); (try clear hb2); (try clear hk); (try clear hi))))
   go_ret
   exact ⟨by first | rfl | (simp [errW_none, errW_some] <;> rfl) | (simp [*, errW_none, errW_some] <;> rfl), bl HB⟩
 ·
  rw [if_neg c4] at H
  have Jx : (j6 == 0) = false := beq_eq_false_iff_ne.mpr c4
  have Jy : (j6 != 0) = true := bne_iff_ne.mpr c4
  obtain rfl := Option.some.inj H
  go_enter Try.func37, Try.ntmps37
  go_wp2_with (first | ((with_reducible refine gate_dst (N := 3) rfl ?_); refine bx 3 #[.int .i64 j1, .slice j8 q9.length j9, .bool j2, .slice z0 j0.length z1] 26 ?_; intro q3 hg w35 hbox hb; have q1 := Qaa.mk (hbox); have z7 := Qaa.mk ((by rw [hg]; exact (below_size (bl HB)) : w.heap.size ≤ q3)); have z8 := Qaa.mk ((by rw [hg]; exact (below_size (bl HB)) : w.heap.size ≤ q3)); replace HB := bs HB hb; clear hb hbox hg; obtain ⟨Je, Jf, Jg, Jh, Ji, Jj, Jk, Jl⟩ := cf4 q1) | (go_at_call 34; (with_reducible refine (Qac.calls k j1 _ _ q9 j2 _ _ j0 j6 _ ?side1 ?side2 ?side3 ?side4 A3.out).mono ?_); (case side1 => exact Cb z2 HB); (case side2 => exact z4.out); (case side3 => exact Cb z5 HB); (case side4 => exact z6.out); rintro e w37 ⟨rfl, hb⟩; replace q1 := Bb q1 hb; replace HB := bs HB hb; (try clear hb)))
  repeat (go_quiet (first | ((with_reducible refine gate_dst (N := 3) rfl ?_); refine bx 3 #[.int .i64 j1, .slice j8 q9.length j9, .bool j2, .slice z0 j0.length z1] 26 ?_; intro q3 hg w35 hbox hb; have q1 := Qaa.mk (hbox); have z7 := Qaa.mk ((by rw [hg]; exact (below_size (bl HB)) : w.heap.size ≤ q3)); have z8 := Qaa.mk ((by rw [hg]; exact (below_size (bl HB)) : w.heap.size ≤ q3)); replace HB := bs HB hb; clear hb hbox hg; obtain ⟨Je, Jf, Jg, Jh, Ji, Jj, Jk, Jl⟩ := cf4 q1) | (go_at_call 34; (with_reducible refine (Qac.calls k j1 _ _ q9 j2 _ _ j0 j6 _ ?side1 ?side2 ?side3 ?side4 A3.out).mono ?_); (case side1 => exact Cb z2 HB); (case side2 => exact z4.out); (case side3 => exact Cb z5 HB); (case side4 => exact z6.out); rintro e w37 ⟨rfl, hb⟩; have n0_ := Bb q1 hb; have n1_ := bs HB hb; clear q1; clear HB; have q1 := n0_; have HB := n1_; clear n0_ n1_; (try clear hb); (try clear hb2); (try clear hk); (try clear hi))); try go_wp2_with (first | ((with_reducible refine gate_dst (N := 3) rfl ?_); refine bx 3 #[.int .i64 j1, .slice j8 q9.length j9, .bool j2, .slice z0 j0.length z1] 26 ?_; intro q3 hg w35 hbox hb; have q1 := Qaa.mk (hbox); have z7 := Qaa.mk ((by rw [hg]; exact (below_size (bl HB)) : w.heap.size ≤ q3)); have z8 := Qaa.mk ((by rw [hg]; exact (below_size (bl HB)) : w.heap.size ≤ q3)); replace HB := bs HB hb; clear hb hbox hg; obtain ⟨Je, Jf, Jg, Jh, Ji, Jj, Jk, Jl⟩ := cf4 q1) | (go_at_call 34; (with_reducible refine (Qac.calls k j1 _ _ q9 j2 _ _ j0 j6 _ ?side1 ?side2 ?side3 ?side4 A3.out).mono ?_); (case side1 => exact Cb z2 HB); (case side2 => exact z4.out); (case side3 => exact Cb z5 HB); (case side4 => exact z6.out); rintro e w37 ⟨rfl, hb⟩; have n0_ := Bb q1 hb; have n1_ := bs HB hb; clear q1; clear HB; have q1 := n0_; have HB := n1_; clear n0_ n1_; (try clear hb); (try clear hb2); (try clear hk); (try clear hi))))
  go_ret
  exact ⟨by first | rfl | (simp [errW_none, errW_some] <;> rfl) | (simp [*, errW_none, errW_some] <;> rfl), bl HB⟩
end Go.Proofs.Ytphnmaobpefoiaa.XA
end
section
namespace Go.Proofs.Ytphnmaobpefoiaa.XA
open Go.RowKit Go.Proofs.YtphnmaobpefoiaaXW Go.Proofs.YtphnmaobpefoiaaW.PrintWords Go.Proofs.YtphnmaobpefoiaaW.PrintLast Go.Proofs.YtphnmaobpefoiaaW.PrintMore
attribute [local go_sem] max2_int min2_int max_two min_two max_three min_three max_four min_four sleq
set_option linter.unusedVariables false
set_option linter.unusedSimpArgs false
def Qbq.f (l0 : List (S86)) : Option ((List (S86))) := (some (([] : List (S86)) : List (S86))).bind fun y807 => (if y807.length + l0.length < 5864062014805 then (some (y807 ++ l0)) else (none))
set_option maxHeartbeats 8000000 in
set_option maxRecDepth 100000 in
theorem Qbq.calls (A0 : Option Addr) (c0 : Nat) (l0 : List (S86)) (r : List (S86)) (w : World) (hr0 : Kd.C k86 w A0 l0.length l0) (hc0 : l0.length ≤ c0) (h : Qbq.f l0 = some r) :
  Calls Try.prog 38 #[.slice A0 l0.length c0] w fun e w' => ∃ v0_ : Value, e = .returned (v0_) ∧ Kd.R k86 86 w' w.heap.size (fun _ => True) v0_ r ∧ Below w.heap.size w w' := by
 have q2 := Qaa.mk hr0
 have q5 := Qaa.mk hc0
 clear hr0 hc0
 have HB := Qaa.mk (Below.refl w.heap.size w)
 have H : ((some (([] : List (S86)) : List (S86))).bind fun y807 => (if y807.length + l0.length < 5864062014805 then (some (y807 ++ l0)) else (none))) = some r := h
 clear h
 obtain ⟨y807, hy807⟩ : ∃ y_ : List (S86), y_ = (([] : List (S86))) := ⟨_, rfl⟩
 replace H : (if y807.length + l0.length < 5864062014805 then (some (y807 ++ l0)) else (none)) = some r := by first | (rw [hy807]; with_reducible exact H) | (have H2_ := (Option.bind_some _ _).symm.trans H; rw [hy807]; with_reducible exact H2_) | (have H2_ := (Option.bind_some _ _).symm.trans H; with_reducible exact H2_) | with_reducible exact H | (rw [hy807]; exact H) | exact H
 have Ny807 := Qaa.mk hy807
 clear hy807
 by_cases c2 : y807.length + l0.length < 5864062014805
 ·
  rw [if_pos c2] at H
  have LMc2 := Qaa.mk c2
  clear c2
  obtain ⟨y810, hy810⟩ : ∃ y_ : List (S86), y_ = (y807 ++ l0) := ⟨_, rfl⟩
  replace H : (some y810) = some r := by first | (rw [hy810]; with_reducible exact H) | (have H2_ := (Option.bind_some _ _).symm.trans H; rw [hy810]; with_reducible exact H2_) | (have H2_ := (Option.bind_some _ _).symm.trans H; with_reducible exact H2_) | with_reducible exact H | (rw [hy810]; exact H) | exact H
  have Ny810 := Qaa.mk hy810
  clear hy810
  obtain rfl := Option.some.inj H
  by_cases hA_ : A0 = none
  ·
   subst hA_
   have hz_ := C_none q2.out
   subst hz_
   have hnil_ : ∀ w_, (binOp .eql 22 (.slice none 0 c0) (.slice none 0 0)).run Try.prog w_ = .ok (.bool true) w_ := fun w_ => Lib.run_eql_slice_nil w_ 22 86 _ _ _ _ _ Try.underlying22
   simp only [List.length_nil]
   go_enter Try.func38, Try.ntmps38
   go_wp2
   go_ret
   refine ⟨.slice none 0 0, rfl, ?_, Below.refl _ _⟩
   rw [Ny810.out, Ny807.out]
   exact Kd.R_nil _ _ _ _ _
  obtain ⟨A0, rfl⟩ := Option.ne_none_iff_exists'.mp hA_
  clear hA_
  have hnil_ : ∀ w_, (binOp .eql 22 (.slice (some A0) l0.length c0) (.slice none 0 0)).run Try.prog w_ = .ok (.bool false) w_ := fun w_ => Lib.run_eql_slice_nil w_ 22 86 _ _ _ _ _ Try.underlying22
  go_enter Try.func38, Try.ntmps38
  go_wp2_with (first | ((with_reducible refine gate_dst (N := 5) rfl ?_); refine Kd.R_lit k86 _ 86 ?hg (N := 5) ?hd (xs := ([] : List (S86))) (inner := []) (ok := fun _ => True) (okp := fun _ => True) ?hr ?hp (fun _ hk => hk) trivial (Below.refl _ _) (Nat.le_refl _) (by simp) ?_; (case hd => rfl); (case hg => rfl); (case hr => first | (go_simp; done) | (go_simp; rfl)); (case hp => exact (Reps.none _ _)); intro q3 w3 ho4 hb hg_ hnew_; clear hg_ hnew_; (first | rw [← Ny807.out] at ho4 | (simp only [Int.reduceToNat] at ho4; rw [← Ny807.out] at ho4)); have q0 := Qaa.mk (Kd.R_lower ho4 (below_size (bl HB))); replace HB := bs HB hb; clear hb ho4) | ((with_reducible refine gate_builtin (b := .append) (xs := #[.tmp 5, .tmp 6]) rfl ?_); at_builtin; refine Kd.R_append_rows k86 (w0 := w) w.heap.size rfl (.tmp 5) (.tmp 6) 22 86 (.agg #[(.string ⟨#[]⟩), (.int .i64 0)]) 24 rfl Try.underlying22 info86 rfl (by decide) (by omega) q3 y807 l0 _ _ _ (fun _ => True) (fun _ => False) rfl rfl ?aO ?aR (fun _ _ h => h) (fun _ h => h.elim) ?aF ?aB ?aS ?aL ?_; (case aR => exact Cb q2 HB); (case aB => exact (bl HB)); (case aF => exact (fun _ _ => trivial)); (case aO => exact (R_u q0.out)); (case aS => exact (below_size (bl HB))); (case aL => have := LMc2.out; omega); intro q4 w5 ho hb hg hat; rw [← Ny810.out] at ho; have q1 := Qaa.mk (ho); replace HB := Qaa.mk (hb); clear q0; clear ho hb hg hat))
  go_ret
  exact ⟨_, by first | rfl | (simp [errW_none, errW_some] <;> rfl) | (simp [*, errW_none, errW_some] <;> rfl), by apply R_u; exact q1.out, bl HB⟩
 ·
  rw [if_neg c2] at H
  exact absurd H (by simp)
end Go.Proofs.Ytphnmaobpefoiaa.XA
end
section
namespace Go.Proofs.Ytphnmaobpefoiaa.XA
open Go.RowKit Go.Proofs.YtphnmaobpefoiaaXW Go.Proofs.YtphnmaobpefoiaaW.PrintWords Go.Proofs.YtphnmaobpefoiaaW.PrintLast Go.Proofs.YtphnmaobpefoiaaW.PrintMore
attribute [local go_sem] max2_int min2_int max_two min_two max_three min_three max_four min_four sleq
set_option linter.unusedVariables false
set_option linter.unusedSimpArgs false
def Qbf.l0 : Nat → Int → List (S41) → List (S39) → Int → Int → Option ((List (S41)))
 | 0, _, _, _, _, _ => none
 | k + 1, x1, x5, x9, x10, x11 => if x11 < x10 then (if 0 ≤ x11 then (if x11 < (x9.length : Int) then ((Qat.f ((rd_T39 x9 x11).f0) ((rd_T39 x9 x11).f1) ((rd_T39 x9 x11).f2) ((rd_T39 x9 x11).f3) ((rd_T39 x9 x11).f4) ((rd_T39 x9 x11).f5) x1).bind fun j8 => (if x5.length < 4398046511104 then (Qbf.l0 k x1 (x5 ++ [(⟨j8.1, j8.2.1, j8.2.2⟩ : S41)]) x9 x10 (wrap64 (x11 + 1))) else (none))) else (none)) else (none)) else (some x5)
def Qbf.f (k : Nat) (j6 : Int) (q0 : List (S39)) (j7 : Bool) (q4 : List Int) (a1 : Int) : Option ((List (S41))) := Qbf.l0 k a1 ([] : List (S41)) q0 (q0.length : Int) 0
set_option maxHeartbeats 8000000 in
set_option maxRecDepth 100000 in
theorem Qbf.calls (k : Nat) (j6 : Int) (j9 : Option Addr) (z0 : Nat) (q0 : List (S39)) (j7 : Bool) (z1 : Option Addr) (z2 : Nat) (q4 : List Int) (a1 : Int) (r : List (S41)) (w : World) (z5 : Kd.C k39 w j9 q0.length q0) (z6 : q0.length ≤ z0) (z7 : Kd.C (Kd.int .i64) w z1 q4.length q4) (z8 : q4.length ≤ z2) (h : Qbf.f k j6 q0 j7 q4 a1 = some r) :
  Calls Try.prog 39 #[.agg #[.int .i64 j6, .slice j9 q0.length z0, .bool j7, .slice z1 q4.length z2], .int .i64 a1] w fun e w' => ∃ v0_ : Value, e = .returned (v0_) ∧ Kd.R k41 41 w' w.heap.size (fun _ => True) v0_ r ∧ Below w.heap.size w w' := by
 have hu26 := Try.underlying26
 have hu39 := Try.underlying39
 have Qm := Qaa.mk z5
 have Z1 := Qaa.mk z6
 clear z5 z6
 have Z2 := Qaa.mk z7
 have Z3 := Qaa.mk z8
 clear z7 z8
 have HB := Qaa.mk (Below.refl w.heap.size w)
 have H : (Qbf.l0 k a1 ([] : List (S41)) q0 (q0.length : Int) 0) = some r := h
 clear h
 have H' := Qaa.mk H
 clear H
 go_enter Try.func39, Try.ntmps39
 go_wp2_with (first | ((with_reducible refine gate_dst (N := 2) rfl ?_); refine bx 2 #[.int .i64 j6, .slice j9 q0.length z0, .bool j7, .slice z1 q4.length z2] 26 ?_; intro q5 hg w3 hbox hb; have q1 := Qaa.mk (hbox); have Z4 := Qaa.mk ((by rw [hg]; exact (below_size (bl HB)) : w.heap.size ≤ q5)); have Z5 := Qaa.mk ((by rw [hg]; exact (below_size (bl HB)) : w.heap.size ≤ q5)); replace HB := bs HB hb; clear hb hbox hg; obtain ⟨Q4, Q5, Q6, Q7, Q8, Q9, Qa, Qb⟩ := cf4 q1))
 go_loopg [5, 11] k (fun kq v5 v11 w' => ∃ (x5_1 : List (S41)) (x11_1 : Int), v11 = .int .i64 x11_1 ∧ Qaa (Qbf.l0 kq a1 x5_1 q0 (q0.length : Int) x11_1 = some r) ∧ Qaa (kq ≤ k) ∧ Qaa (Kd.R k41 41 w' w.heap.size (fun _ => True) v5 x5_1) ∧ Qaa (w'.heap[q5]? = some (.cells #[.int .i64 j6, (.slice j9 q0.length z0), .bool j7, (.slice z1 q4.length z2)] 26 (0, 0))) ∧ Qaa (Below w.heap.size w w'))
 case atStart => exact ⟨(([] : List (S41))), (0), (by first | rfl | (simp; done) | (simp [*]; done)), H', ⟨Nat.le_refl _⟩, ⟨by first | exact Kd.R_nil _ _ _ _ _ | exact Kd.N_nil _ _ _ _ _ | exact Kd.V_nil _ _ _ _ _ | exact Kd.Q_nil _ _ _ _ _ | exact Kd.S_nil _ _ _ _ _⟩, ⟨by apply blk_u; exact q1.out⟩, ⟨bl HB⟩⟩
 case round =>
  clear H'
  try clear p2
  try clear c3
  try clear Q4
  try clear Q5
  try clear Q6
  try clear Q7
  try clear Q8
  try clear Q9
  try clear Qa
  try clear Qb
  obtain ⟨x5_1, x11_1, rfl, HA, HK1, q2, q1, HB⟩ := hrel
  cases gk with
  | zero => exact absurd HA.out (by simp [Qbf.l0])
  | succ k1 =>
   have H := HA.out
   clear HA
   simp only [Qbf.l0] at H
   by_cases c5 : x11_1 < (q0.length : Int)
   ·
    rw [if_pos c5] at H
    have Qo : decide (x11_1 < (q0.length : Int)) = true := decide_eq_true c5
    clear c5
    by_cases c6 : 0 ≤ x11_1
    ·
     rw [if_pos c6] at H
     have Za : decide (0 ≤ x11_1) = true := decide_eq_true c6
     clear c6
     by_cases c7 : x11_1 < (q0.length : Int)
     ·
      rw [if_pos c7] at H
      have Zb : decide (x11_1 < (q0.length : Int)) = true := decide_eq_true c7
      clear c7
      replace H := Option.bind_eq_some_iff.mp H
      obtain ⟨⟨q6, q7, q8⟩, A80, H⟩ := H
      replace H : (if x5_1.length < 4398046511104 then (Qbf.l0 k1 a1 (x5_1 ++ [(⟨q6, q7, q8⟩ : S41)]) q0 (q0.length : Int) (wrap64 (x11_1 + 1))) else (none)) = some r := H
      have A8 := Qaa.mk A80
      clear A80
      by_cases c9 : x5_1.length < 4398046511104
      ·
       rw [if_pos c9] at H
       have LMc9 := Qaa.mk c9
       clear c9
       obtain ⟨y819, hy819⟩ : ∃ y_ : List (S41), y_ = (x5_1 ++ [(⟨q6, q7, q8⟩ : S41)]) := ⟨_, rfl⟩
       replace H : (Qbf.l0 k1 a1 y819 q0 (q0.length : Int) (wrap64 (x11_1 + 1))) = some r := by first | (rw [hy819]; with_reducible exact H) | (have H2_ := (Option.bind_some _ _).symm.trans H; rw [hy819]; with_reducible exact H2_) | (have H2_ := (Option.bind_some _ _).symm.trans H; with_reducible exact H2_) | with_reducible exact H | (rw [hy819]; exact H) | exact H
       have Ny819 := Qaa.mk hy819
       clear hy819
       have H' := Qaa.mk H
       clear H
       have p814 : 0 ≤ (x11_1 : Int) := of_decide_eq_true (by first | (with_reducible assumption) | assumption)
       have q814 : x11_1 < (q0.length : Int) := of_decide_eq_true (by first | (with_reducible assumption) | assumption)
       obtain ⟨ad814, Qc, Qd, Qe, Qf, Qg, Qh, Qi, Qj, Qk, Ql, e814, q9, j0, j1, j2, j3, j4, hl814_1, hi814_1, hl814_2, hi814_2, hl814_3, hi814_3, hl814_4, hi814_4, hl814_5, hi814_5⟩ := at_T39 Qm.out x11_1 p814 q814
       cases e814
       replace q9 := (HB.out.cell (World.block_lt_of_cell? w _ q9)).trans q9
       replace j0 := (HB.out.cell (World.block_lt_of_cell? w _ j0)).trans j0
       replace j1 := (HB.out.cell (World.block_lt_of_cell? w _ j1)).trans j1
       replace j2 := (HB.out.cell (World.block_lt_of_cell? w _ j2)).trans j2
       replace j3 := (HB.out.cell (World.block_lt_of_cell? w _ j3)).trans j3
       replace j4 := (HB.out.cell (World.block_lt_of_cell? w _ j4)).trans j4
       have z9 := Qaa.mk hi814_1
       have y5 := Qaa.mk hl814_1
       clear hi814_1 hl814_1
       have y6 := Qaa.mk hi814_2
       have y7 := Qaa.mk hl814_2
       clear hi814_2 hl814_2
       have y8 := Qaa.mk hi814_3
       have y9 := Qaa.mk hl814_3
       clear hi814_3 hl814_3
       have Q0 := Qaa.mk hi814_4
       have Q1 := Qaa.mk hl814_4
       clear hi814_4 hl814_4
       have Q2 := Qaa.mk hi814_5
       have Q3 := Qaa.mk hl814_5
       clear hi814_5 hl814_5
       replace p814 := eq_true p814
       replace q814 := eq_true q814
       go_wp2_with (first | ((with_reducible refine gate_dst (N := 7) rfl ?_); refine bx 7 #[.int .i64 0, .slice none 0 0, .slice none 0 0, .slice none 0 0, .slice none 0 0, .slice none 0 0] 39 ?_; intro j5 hg w10 hbox hb; have q3 := Qaa.mk (hbox); have Z6 := Qaa.mk ((by rw [hg]; exact (below_size (bl HB)) : w.heap.size ≤ j5)); have Z7 := Qaa.mk ((by rw [hg]; exact (below_size (bl HB)) : w.heap.size ≤ j5)); have z3 := Qaa.mk ((by rw [hg]; exact Nat.ne_of_lt (blk_lt (Ub q1)) : q5 ≠ j5)); have z4 := Qaa.mk ((by rw [hg]; exact Nat.ne_of_gt (blk_lt (Ub q1)) : j5 ≠ q5)); replace q2 := Rb q2 hb; replace q1 := Bb q1 hb; replace HB := bs HB hb; clear hb hbox hg; have Z8 := z4.out; have Z9 := z3.out; obtain ⟨Qp, Qq, Qr, Qs, Qt, Qu, Qv, Qw, Qx, Qy, Qz, Z0⟩ := cf6 q3) | ((with_reducible refine gate_callee (f := 26) rfl ?_); refine gL (some 18) Try.func26 #[.agg #[.int .i64 ((rd_T39 q0 x11_1).f0), .slice Qc ((rd_T39 q0 x11_1).f1).length Qd, .slice Qe ((rd_T39 q0 x11_1).f2).length Qf, .slice Qg ((rd_T39 q0 x11_1).f3).length Qh, .slice Qi ((rd_T39 q0 x11_1).f4).length Qj, .slice Qk ((rd_T39 q0 x11_1).f5).length Ql], .int .i64 a1] ?_; (with_reducible refine (Qat.calls ((rd_T39 q0 x11_1).f0) _ _ ((rd_T39 q0 x11_1).f1) _ _ ((rd_T39 q0 x11_1).f2) _ _ ((rd_T39 q0 x11_1).f3) _ _ ((rd_T39 q0 x11_1).f4) _ _ ((rd_T39 q0 x11_1).f5) a1 q6 q7 q8 _ ?side1 ?side2 ?side3 ?side4 ?side5 ?side6 ?side7 ?side8 ?side9 ?side10 A8.out).mono ?_); (case side1 => exact Kd.C_below z9.out (bl HB)); (case side2 => exact y5.out); (case side3 => exact Kd.C_below y6.out (bl HB)); (case side4 => exact y7.out); (case side5 => exact Kd.C_below y8.out (bl HB)); (case side6 => exact y9.out); (case side7 => exact Kd.C_below Q0.out (bl HB)); (case side8 => exact Q1.out); (case side9 => exact Kd.C_below Q2.out (bl HB)); (case side10 => exact Q3.out); rintro e w13 ⟨rfl, hb⟩; refine ⟨_, rfl, ?_⟩; replace q2 := Qaa.mk (Kd.R_below (Rf q2 q3) hb); replace q1 := Bb q1 hb; replace q3 := Qaa.mk (blk_below (Uf6 q3) hb); replace HB := bs HB hb; (try clear hb)) | ((with_reducible refine gate_builtin (b := .append) (xs := #[.tmp 15, .tmp 19]) rfl ?_); at_builtin; refine Kd.R_append k41 (w0 := w) w.heap.size rfl (.tmp 15) (.tmp 19) 75 41 (.agg #[(.int .i64 0), (.int .i64 0), (.string ⟨#[]⟩)]) 32 rfl Try.underlying75 info41 rfl (by decide) (by omega) u5 x5_1 (⟨q6, q7, q8⟩ : S41) [.int .i64 q6, .int .i64 q7, .string q8] (fun _ => True) (fun _ => False) rfl rfl ?aP (fun _ hk => hk.elim) ?aF ?aO ?aB ?aS ?aL ?_; (case aP => exact k41_mkM _ _ _ (⟨q6, q7, q8⟩ : S41)); (case aB => exact (bl HB)); (case aF => exact (fun _ _ => trivial)); (case aO => exact (R_u q2.out)); (case aS => exact (below_size (bl HB))); (case aL => have := LMc9.out; omega); intro Zc w14 ho hb hg hat; rw [← Ny819.out] at ho; have Qn := Qaa.mk (ho); replace q1 := Qaa.mk (blk_grown (Ub q1) hg (Kd.R_ne q2.out q1.out (by decide))); replace q3 := Qaa.mk (blk_grown (Ub q3) hg (Kd.R_ne q2.out q3.out (by decide))); replace HB := Qaa.mk (hb); clear q2; clear ho hb hg hat))
       go_roundg k1
       case measure => have := HK1.out; omega
       case rel => exact ⟨(y819), (wrap64 (x11_1 + 1)), (by first | rfl | (simp; done) | (simp [*]; done)), H', ⟨by have := HK1.out; omega⟩, ⟨by apply R_u; exact Qn.out⟩, ⟨by apply blk_u; exact q1.out⟩, ⟨bl HB⟩⟩
      ·
       rw [if_neg c9] at H
       exact absurd H (by simp)
     ·
      rw [if_neg c7] at H
      exact absurd H (by simp)
    ·
     rw [if_neg c6] at H
     exact absurd H (by simp)
   ·
    rw [if_neg c5] at H
    have Qo : decide (x11_1 < (q0.length : Int)) = false := decide_eq_false c5
    clear c5
    obtain rfl := Option.some.inj H
    go_wp2
    go_ret
    exact ⟨_, by first | rfl | (simp [errW_none, errW_some] <;> rfl) | (simp [*, errW_none, errW_some] <;> rfl), by apply R_u; exact q2.out, bl HB⟩
end Go.Proofs.Ytphnmaobpefoiaa.XA
end
section
namespace Go.Proofs.Ytphnmaobpefoiaa.XA
open Go.RowKit Go.Proofs.YtphnmaobpefoiaaXW Go.Proofs.YtphnmaobpefoiaaW.PrintWords Go.Proofs.YtphnmaobpefoiaaW.PrintLast Go.Proofs.YtphnmaobpefoiaaW.PrintMore
attribute [local go_sem] max2_int min2_int max_two min_two max_three min_three max_four min_four sleq
set_option linter.unusedVariables false
set_option linter.unusedSimpArgs false
def Qan.l0 : Nat → List Int → Int → Int → Int → List (S39) → Bool → List Int → List (S86) → List (S89) → Option ((List (S86)) × (List (S89)) × Int)
 | 0, _, _, _, _, _, _, _, _, _ => none
 | k + 1, x21, x22, x23, Q7, Q8, Q9, Qa, Qb, Q1 => if x23 < x22 then (if 0 ≤ x23 then (if x23 < (x21.length : Int) then ((Qbf.f k Q7 Q8 Q9 Qa (rd x21 x23)).bind fun z5 => (if Q1.length < 5864062014805 then (Qan.l0 k x21 x22 (wrap64 (x23 + 1)) Q7 Q8 Q9 Qa Qb (Q1 ++ [(⟨z5⟩ : S89)])) else (none))) else (none)) else (none)) else (some (Qb, Q1, 0))
def Qan.f (k : Nat) (l0 : List (S86)) (q8 : Int) (q4 : List (S39)) (q9 : Bool) (q5 : List Int) : Option ((List (S86)) × (List (S89)) × Int) := (Qbb.f k l0 q8 q4 q9 q5).bind fun j8 => (if j8 = 0 then ((Qbq.f l0).bind fun q7 => ((Qao.f k q8 q4 q9 q5).bind fun q6 => (Qan.l0 k q6 (q6.length : Int) 0 q8 q4 q9 q5 q7 ([] : List (S89))))) else (some (([] : List (S86)), ([] : List (S89)), j8)))
def Qan.T8 : Bool × List (List Nat × List Nat) := (true, [([], []), ([0], [0]), ([], []), ([], []), ([2, 3], [2, 3]), ([4], [4]), ([5], [5]), ([1, 6, 4], [1, 6]), ([0, 1, 2, 3, 4, 5, 6, 7], []), ([8, 7, 7, 0, 1, 2, 3, 4, 5, 6, 7], [7, 8])])
def Qan.B8 : List Nat := [0, 1, 0, 0, 12, 28, 60, 127, 255, 511]
theorem Qan.tab8 : rtab .any (opsOf Try.f15 8) = Qan.T8 := by kernel_rfl
theorem Qan.bits8 : waitsOk Qan.T8.2 Qan.B8 = true := by kernel_rfl
set_option maxHeartbeats 8000000 in
set_option maxRecDepth 100000 in
theorem Qan.calls (k : Nat) (A0 : Option Addr) (c0 : Nat) (l0 : List (S86)) (q8 : Int) (z6 : Option Addr) (z7 : Nat) (q4 : List (S39)) (q9 : Bool) (z8 : Option Addr) (z9 : Nat) (q5 : List Int) (r1 : List (S86)) (r2 : List (S89)) (r3 : Int) (w : World) (hr0 : Kd.C k86 w A0 l0.length l0) (hc0 : l0.length ≤ c0) (Qi : Kd.C k39 w z6 q4.length q4) (Qj : q4.length ≤ z7) (Qk : Kd.C (Kd.int .i64) w z8 q5.length q5) (Ql : q5.length ≤ z9) (h : Qan.f k l0 q8 q4 q9 q5 = some (r1, r2, r3)) :
  Calls Try.prog 15 #[.slice A0 l0.length c0, .agg #[.int .i64 q8, .slice z6 q4.length z7, .bool q9, .slice z8 q5.length z9]] w fun e w' => ∃ v0_ v1_ : Value, e = .returned (.tuple #[.agg #[v0_, v1_], .int .i64 r3]) ∧ Kd.R k86 86 w' w.heap.size (fun _ => True) v0_ r1 ∧ Kd.S k89 89 w' w.heap.size (fun _ => True) v1_ r2 ∧ Below w.heap.size w w' := by
 have hu26 := Try.underlying26
 have hu54 := Try.underlying54
 have hu89 := Try.underlying89
 have Za := Qaa.mk hr0
 have Zb := Qaa.mk hc0
 clear hr0 hc0
 have Q2 := Qaa.mk Qi
 have Q3 := Qaa.mk Qj
 clear Qi Qj
 have Q4 := Qaa.mk Qk
 have Q5 := Qaa.mk Ql
 clear Qk Ql
 have HB := Qaa.mk (Below.refl w.heap.size w)
 have H : ((Qbb.f k l0 q8 q4 q9 q5).bind fun j8 => (if j8 = 0 then ((Qbq.f l0).bind fun q7 => ((Qao.f k q8 q4 q9 q5).bind fun q6 => (Qan.l0 k q6 (q6.length : Int) 0 q8 q4 q9 q5 q7 ([] : List (S89))))) else (some (([] : List (S86)), ([] : List (S89)), j8)))) = some (r1, r2, r3) := h
 clear h
 replace H := Option.bind_eq_some_iff.mp H
 obtain ⟨j8, A30, H⟩ := H
 replace H : (if j8 = 0 then ((Qbq.f l0).bind fun q7 => ((Qao.f k q8 q4 q9 q5).bind fun q6 => (Qan.l0 k q6 (q6.length : Int) 0 q8 q4 q9 q5 q7 ([] : List (S89))))) else (some (([] : List (S86)), ([] : List (S89)), j8))) = some (r1, r2, r3) := H
 have A3 := Qaa.mk A30
 clear A30
 by_cases c4 : j8 = 0
 ·
  rw [if_pos c4] at H
  have Zc : (j8 == 0) = true := beq_iff_eq.mpr c4
  have Zd : (j8 != 0) = false := bne_eq_false_iff_eq.mpr c4
  clear c4
  replace H := Option.bind_eq_some_iff.mp H
  obtain ⟨q7, A50, H⟩ := H
  replace H : ((Qao.f k q8 q4 q9 q5).bind fun q6 => (Qan.l0 k q6 (q6.length : Int) 0 q8 q4 q9 q5 q7 ([] : List (S89)))) = some (r1, r2, r3) := H
  have A5 := Qaa.mk A50
  clear A50
  replace H := Option.bind_eq_some_iff.mp H
  obtain ⟨q6, A60, H⟩ := H
  replace H : (Qan.l0 k q6 (q6.length : Int) 0 q8 q4 q9 q5 q7 ([] : List (S89))) = some (r1, r2, r3) := H
  have A6 := Qaa.mk A60
  clear A60
  have H' := Qaa.mk H
  clear H
  go_enter Try.func15, Try.ntmps15
  go_wp2_with (first | ((with_reducible refine gate_dst (N := 3) rfl ?_); refine bx 3 #[.int .i64 q8, .slice z6 q4.length z7, .bool q9, .slice z8 q5.length z9] 26 ?_; intro j3 hg w7 hbox hb; have q0 := Qaa.mk (hbox); have Qm := Qaa.mk ((by rw [hg]; exact (below_size (bl HB)) : w.heap.size ≤ j3)); have Zf := Qaa.mk ((by rw [hg]; exact (below_size (bl HB)) : w.heap.size ≤ j3)); replace HB := bs HB hb; clear hb hbox hg) | ((with_reducible refine gate_dst (N := 4) rfl ?_); refine bx 4 #[.slice none 0 0, .slice none 0 0] 54 ?_; intro j1 hg w8 hbox hb; have q1 := Qaa.mk (hbox); have Qn := Qaa.mk ((by rw [hg]; exact (below_size (bl HB)) : w.heap.size ≤ j1)); have Zg := Qaa.mk ((by rw [hg]; exact (below_size (bl HB)) : w.heap.size ≤ j1)); have z1 := Qaa.mk ((by rw [hg]; exact Nat.ne_of_lt (blk_lt (Ub q0)) : j3 ≠ j1)); have z2 := Qaa.mk ((by rw [hg]; exact Nat.ne_of_gt (blk_lt (Ub q0)) : j1 ≠ j3)); replace q0 := Bb q0 hb; replace HB := bs HB hb; clear hb hbox hg; have Jl := z1.out; have Jm := z2.out; obtain ⟨Qq, Qr, Qs, Qt, Qu, Qv, Qw, Qx⟩ := cf4 q0) | ((with_reducible refine gate_callee (f := 37) rfl ?_); refine gL (some 12) Try.func37 #[.slice A0 l0.length c0, .agg #[.int .i64 q8, .slice z6 q4.length z7, .bool q9, .slice z8 q5.length z9]] ?_; (with_reducible refine (Qbb.calls k _ _ l0 q8 _ _ q4 q9 _ _ q5 j8 _ ?side1 ?side2 ?side3 ?side4 ?side5 ?side6 A3.out).mono ?_); (case side1 => exact Cb Za HB); (case side2 => exact Zb.out); (case side3 => exact Cb Q2 HB); (case side4 => exact Q3.out); (case side5 => exact Cb Q4 HB); (case side6 => exact Q5.out); rintro e w11 ⟨rfl, hb⟩; refine ⟨_, rfl, ?_⟩; replace q0 := Bb q0 hb; replace q1 := Bb q1 hb; replace HB := bs HB hb; (try clear hb)) | ((with_reducible refine gate_callee (f := 38) rfl ?_); refine gL (some 18) Try.func38 #[.slice A0 l0.length c0] ?_; (with_reducible refine (Qbq.calls _ _ l0 q7 _ ?side1 ?side2 A5.out).mono ?_); (case side1 => exact Cb Za HB); (case side2 => exact Zb.out); rintro e w12 ⟨Jn, rfl, ho0, hb⟩; refine ⟨_, rfl, ?_⟩; have j9 := Qaa.mk (Kd.R_lower ho0 (below_size (bl HB))); replace q0 := Bb q0 hb; replace q1 := Bb q1 hb; replace HB := bs HB hb; (try clear hb); (try clear ho0); obtain ⟨j6, j7, eo13⟩ := Kd.R_slice j9.out; subst eo13) | ((with_reducible refine gate_dst (N := 7) rfl ?_); refine bx 7 #[.slice none 0 0, .slice none 0 0] 54 ?_; intro j0 hg w14 hbox hb; have q2 := Qaa.mk (hbox); have Zh := Qaa.mk ((by rw [hg]; exact (below_size (bl HB)) : w.heap.size ≤ j0)); have J6 := Qaa.mk ((by rw [hg]; exact (below_size (bl HB)) : w.heap.size ≤ j0)); have z3 := Qaa.mk ((by rw [hg]; exact Nat.ne_of_lt (blk_lt (Ub q0)) : j3 ≠ j0)); have y9 := Qaa.mk ((by rw [hg]; exact Nat.ne_of_gt (blk_lt (Ub q0)) : j0 ≠ j3)); have z4 := Qaa.mk ((by rw [hg]; exact Nat.ne_of_lt (blk_lt (Ub q1)) : j1 ≠ j0)); have Q0 := Qaa.mk ((by rw [hg]; exact Nat.ne_of_gt (blk_lt (Ub q1)) : j0 ≠ j1)); replace j9 := Rb j9 hb; replace q0 := Bb q0 hb; replace q1 := Bb q1 hb; replace HB := bs HB hb; clear hb hbox hg; have J7 := y9.out; have J8 := z3.out; have J9 := Q0.out; have Ja := z4.out; obtain ⟨Qy, Qz, Z0, Z1⟩ := cf2 q2) | ((with_reducible refine gate_store (t := 54) (p := 7) rfl ?_); refine store_event (t := 54) (p := 7) (v := ?vo_w18) (w1 := ((w14.setCell ⟨j0, 0, none⟩ (.slice j6 q7.length j7)).setCell ⟨j0, 1, none⟩ (.slice none 0 0))) ?hg ?ho ?hn ?hr ?_; (case ho => rfl); (case hg => rfl); (case hn => rfl); (case hr => first | (go_simp; done) | (go_simp; rfl)); intro w18 hw; replace j9 : Qaa (Kd.R k86 86 w18 w.heap.size (fun _ => True) (.slice j6 q7.length j7) q7) := ⟨(by rw [hw]; exact (by apply R_u; exact Kd.R_mono (Kd.R_far (p := ⟨j0, 1, none⟩) (Kd.R_far (p := ⟨j0, 0, none⟩) (Kd.R_types j9.out q2.out (by decide)) (fun _ hk => hk.2) (.slice j6 q7.length j7)) (fun _ hk => hk.2) (.slice none 0 0)) (fun _ hk => trivial)))⟩; replace q0 := hB hw (Ub q0); replace q1 := hB hw (Ub q1); replace q2 : Qaa (w18.heap[j0]? = some (.cells #[.slice j6 q7.length j7, .slice none 0 0] 54 (0, 0))) := ⟨(by rw [hw]; exact (by apply blk_u; refine blk_put (cs := #[.slice j6 q7.length j7, .slice none 0 0]) ?_ 1 _ rfl; apply blk_u; refine blk_put (cs := #[.slice none 0 0, .slice none 0 0]) ?_ 0 _ rfl; apply blk_u; exact q2.out))⟩; replace HB : Qaa (Below w.heap.size w w18) := ⟨(by rw [hw]; exact (bl HB))⟩; clear hw; obtain ⟨Z2, Z3, Z4, Z5, Z6, Z7, Z8, Z9⟩ := cf4 q0) | ((with_reducible refine gate_callee (f := 22) rfl ?_); refine gL (some 21) Try.func22 #[.agg #[.int .i64 q8, .slice z6 q4.length z7, .bool q9, .slice z8 q5.length z9]] ?_; (with_reducible refine (Qao.calls k q8 _ _ q4 q9 (fun k_ => k_ < w.heap.size) _ _ q5 q6 _ ?side1 ?side2 ?side3 A6.out).mono ?_); (case side1 => exact Cb Q2 HB); (case side2 => exact Q3.out); (case side3 => exact Kd.V_mk Q5.out (Kd.F_below (Kd.C_F (Kd.heap_int .i64) Q4.out) (bl HB))); rintro e w20 ⟨Jo, rfl, ho0, hb⟩; refine ⟨_, rfl, ?_⟩; have Qo := Qaa.mk (Kd.V_lower (Kd.V_mono (ok' := fun k_ => some k_ ≠ (.slice j6 q7.length j7 : Value).ownBlock ∧ k_ ≠ j3 ∧ k_ ≠ j1 ∧ k_ ≠ j0) ho0 (fun k_ hk_ => ⟨Or.elim hk_ (fun hs_ => fun e_ => Nat.not_le.2 hs_ (Kd.R_base j9.out k_ e_.symm)) (fun hn_ => (Kd.fresh' (Kd.R_lt (R_u j9.out)) k_ hn_)), Or.elim hk_ (fun hs_ => fun e_ => Nat.not_le.2 hs_ (by rw [e_]; exact Qm.out)) (fun hn_ => (Kd.freshB (Ub q0) k_ hn_)), Or.elim hk_ (fun hs_ => fun e_ => Nat.not_le.2 hs_ (by rw [e_]; exact Qn.out)) (fun hn_ => (Kd.freshB (Ub q1) k_ hn_)), Or.elim hk_ (fun hs_ => fun e_ => Nat.not_le.2 hs_ (by rw [e_]; exact Zh.out)) (fun hn_ => (Kd.freshB (Ub q2) k_ hn_))⟩)) (below_size (bl HB))); replace j9 := Rb j9 hb; replace q0 := Bb q0 hb; replace q1 := Bb q1 hb; replace q2 := Bb q2 hb; replace HB := bs HB hb; (try clear hb); (try clear ho0); obtain ⟨Zj, Zk, eo21⟩ := Kd.V_slice Qo.out; subst eo21))
  go_loopg [23] k (fun kq v23 w' => ∃ (x23_1 : Int) (j2 : List (S89)) (j5 : Value), v23 = .int .i64 x23_1 ∧ Qaa (Qan.l0 kq q6 (q6.length : Int) x23_1 q8 q4 q9 q5 q7 j2 = some (r1, r2, r3)) ∧ Qaa (kq ≤ k) ∧ Qaa (Kd.V (Kd.int .i64) 3 w' w.heap.size (fun k_ => some k_ ≠ ((.slice j6 q7.length j7) : Value).ownBlock ∧ some k_ ≠ (j5 : Value).ownBlock ∧ k_ ≠ j3 ∧ k_ ≠ j1 ∧ k_ ≠ j0) (.slice Zj q6.length Zk) q6) ∧ Qaa (Kd.R k86 86 w' w.heap.size (fun _ => True) (.slice j6 q7.length j7) q7) ∧ Qaa (Kd.S k89 89 w' w.heap.size (fun _ => True) j5 j2) ∧ Qaa (w'.heap[j3]? = some (.cells #[.int .i64 q8, (.slice z6 q4.length z7), .bool q9, (.slice z8 q5.length z9)] 26 (0, 0))) ∧ Qaa (w'.heap[j1]? = some (.cells #[(.slice none 0 0), (.slice none 0 0)] 54 (0, 0))) ∧ Qaa (w'.heap[j0]? = some (.cells #[(.slice j6 q7.length j7), j5] 54 (0, 0))) ∧ Qaa (Below w.heap.size w w'))
  case atStart => exact ⟨(0), (([] : List (S89))), (.slice none 0 0), (by first | rfl | (simp; done) | (simp [*]; done)), H', ⟨Nat.le_refl _⟩, ⟨by apply V_u; exact Kd.V_mono Qo.out (fun _ hk => ⟨hk.1, ⟨(by simp [Value.ownBlock]), ⟨hk.2.1, ⟨hk.2.2.1, hk.2.2.2⟩⟩⟩⟩)⟩, ⟨by apply R_u; exact j9.out⟩, ⟨by first | exact Kd.S_nil _ _ _ _ _ | exact Kd.N_nil _ _ _ _ _ | exact Kd.V_nil _ _ _ _ _ | exact Kd.Q_nil _ _ _ _ _ | exact Kd.R_nil _ _ _ _ _⟩, ⟨by apply blk_u; exact q0.out⟩, ⟨by apply blk_u; exact q1.out⟩, ⟨by apply blk_u; exact q2.out⟩, ⟨bl HB⟩⟩
  case round =>
   clear H'
   try clear c1
   try clear c2
   try clear p2
   try clear c3
   try clear c4
   try clear Zc
   try clear Zd
   try clear c9
   try clear c15
   try clear c16
   try clear Qq
   try clear Qr
   try clear Qs
   try clear Qt
   try clear Qy
   try clear Qz
   try clear Z2
   try clear Z3
   try clear Z4
   try clear Z5
   try clear Qu
   try clear Qv
   try clear Qw
   try clear Qx
   try clear Z0
   try clear Z1
   try clear Z6
   try clear Z7
   try clear Z8
   try clear Z9
   obtain ⟨x23_1, j2, j5, rfl, HA, HK1, z0, j4, q3, q0, q1, q2, HB⟩ := hrel
   cases gk with
   | zero => exact absurd HA.out (by simp [Qan.l0])
   | succ k1 =>
    have H := HA.out
    clear HA
    simp only [Qan.l0] at H
    by_cases c22 : x23_1 < (q6.length : Int)
    ·
     rw [if_pos c22] at H
     have Zi : decide (x23_1 < (q6.length : Int)) = true := decide_eq_true c22
     clear c22
     by_cases c23 : 0 ≤ x23_1
     ·
      rw [if_pos c23] at H
      have Jb : decide (0 ≤ x23_1) = true := decide_eq_true c23
      clear c23
      by_cases c24 : x23_1 < (q6.length : Int)
      ·
       rw [if_pos c24] at H
       have Jc : decide (x23_1 < (q6.length : Int)) = true := decide_eq_true c24
       clear c24
       replace H := Option.bind_eq_some_iff.mp H
       obtain ⟨z5, Ze, H⟩ := H
       replace H : (if j2.length < 5864062014805 then (Qan.l0 k1 q6 (q6.length : Int) (wrap64 (x23_1 + 1)) q8 q4 q9 q5 q7 (j2 ++ [(⟨z5⟩ : S89)])) else (none)) = some (r1, r2, r3) := H
       have A25 := Qaa.mk Ze
       clear Ze
       by_cases c26 : j2.length < 5864062014805
       ·
        rw [if_pos c26] at H
        have LMc26 := Qaa.mk c26
        clear c26
        obtain ⟨y836, hy836⟩ : ∃ y_ : List (S89), y_ = (j2 ++ [(⟨z5⟩ : S89)]) := ⟨_, rfl⟩
        replace H : (Qan.l0 k1 q6 (q6.length : Int) (wrap64 (x23_1 + 1)) q8 q4 q9 q5 q7 y836) = some (r1, r2, r3) := by first | (rw [hy836]; with_reducible exact H) | (have H2_ := (Option.bind_some _ _).symm.trans H; rw [hy836]; with_reducible exact H2_) | (have H2_ := (Option.bind_some _ _).symm.trans H; with_reducible exact H2_) | with_reducible exact H | (rw [hy836]; exact H) | exact H
        have Ny836 := Qaa.mk hy836
        clear hy836
        have H' := Qaa.mk H
        clear H
        have p832 : 0 ≤ (x23_1 : Int) := of_decide_eq_true (by first | (with_reducible assumption) | assumption)
        have q832 : x23_1 < (q6.length : Int) := of_decide_eq_true (by first | (with_reducible assumption) | assumption)
        obtain ⟨ad832, e832, Zl⟩ := Kd.at_int (Kd.V_reads' z0.out).2.2 x23_1 p832 q832
        cases e832
        replace p832 := eq_true p832
        replace q832 := eq_true q832
        try go_wp2
        replace z0 := Qaa.mk (Kd.V_drew z0.out)
        replace j4 := Qaa.mk (Kd.R_drew j4.out)
        replace q3 := Qaa.mk (Kd.S_drew q3.out)
        replace q0 := Qaa.mk (blk_drew q0.out)
        replace q1 := Qaa.mk (blk_drew q1.out)
        replace q2 := Qaa.mk (blk_drew q2.out)
        replace HB := Qaa.mk (below_drew1 HB.out)
        refine start_ (n := 10) (S := fun w' => w'.cell? ⟨j0, 0, none⟩ = some (.slice j6 q7.length j7) ∧ w'.cell? ⟨j0, 1, none⟩ = some (j5) ∧ w'.cell? ⟨j3, 0, none⟩ = some (.int .i64 q8) ∧ w'.cell? ⟨j3, 1, none⟩ = some (.slice z6 q4.length z7) ∧ w'.cell? ⟨j3, 2, none⟩ = some (.bool q9) ∧ w'.cell? ⟨j3, 3, none⟩ = some (.slice z8 q5.length z9)) (ds := [9]) #[false, false, false, false, false, false, false, false, false, false] (by kernel_rfl) rfl rfl ⟨(blk_cell q2.out 0).trans rfl, (blk_cell q2.out 1).trans rfl, (blk_cell q0.out 0).trans rfl, (blk_cell q0.out 1).trans rfl, (blk_cell q0.out 2).trans rfl, (blk_cell q0.out 3).trans rfl⟩ (fun hHeld => ?_); refine with_tabW Qan.tab8 Qan.bits8 (fun HT_ HW_ => ?_)
        generalize wr.drew = w27 at z0 j4 q3 q0 q1 q2 HB hHeld ⊢
        refine pure_ (i := 0) (N := some 27) (v := ?_) (a' := ?_) #[true, false, false, false, false, false, false, false, false, false] rfl rfl (any_of HT_.out (by kernel_rfl)) (fun _ _ _ h => h) (Or.inl ⟨by rfl, ?_⟩) ?_ ?_
        rotate_left
        ·
         intro w'
         go_simp
         with_reducible rfl
        rotate_left
        ·
         simp only [Act.put, List.setIfInBounds_toArray, List.set_cons_zero, List.set_cons_succ, i64_w, i32_w]
         rfl
        refine pure_ (i := 3) (N := some 30) (v := ?_) (a' := ?_) #[true, false, false, true, false, false, false, false, false, false] rfl rfl (any_of HT_.out (by kernel_rfl)) (fun _ _ _ h => h) (Or.inl ⟨by rfl, ?_⟩) ?_ ?_
        rotate_left
        ·
         intro w'
         go_simp
         with_reducible rfl
        rotate_left
        ·
         simp only [Act.put, List.setIfInBounds_toArray, List.set_cons_zero, List.set_cons_succ, i64_w, i32_w]
         rfl
        refine take_ (i := 1) (N := some 28) (v := ?_) (a' := ?_) #[true, true, false, true, false, false, false, false, false, false] rfl rfl (take_ofW HT_.out HW_.out (by kernel_rfl)) (fun _ _ _ h => h) (Or.inl ⟨by rfl, ?_⟩) hHeld ?_ ?_
        rotate_left
        ·
         rintro w' ⟨s0, s1, s2, s3, s4, s5⟩
         go_simp
         with_reducible rfl
        rotate_left
        ·
         simp only [Act.put, List.setIfInBounds_toArray, List.set_cons_zero, List.set_cons_succ, i64_w, i32_w]
         rfl
        refine take_ (i := 2) (N := some 29) (v := ?_) (a' := ?_) #[true, true, true, true, false, false, false, false, false, false] rfl rfl (take_ofW HT_.out HW_.out (by kernel_rfl)) (fun _ _ _ h => h) (Or.inl ⟨by rfl, ?_⟩) hHeld ?_ ?_
        rotate_left
        ·
         rintro w' ⟨s0, s1, s2, s3, s4, s5⟩
         go_simp
         with_reducible rfl
        rotate_left
        ·
         simp only [Act.put, List.setIfInBounds_toArray, List.set_cons_zero, List.set_cons_succ, i64_w, i32_w]
         rfl
        refine one_ (i := 4) (N := some 31) #[true, true, true, true, true, false, false, false, false, false] rfl rfl (one_of HT_.out (by kernel_rfl)) (by decide) (fun K hK => ?_)
        refine goes_ Try.func39 (by kernel_rfl) rfl #[.agg #[.int .i64 q8, .slice z6 q4.length z7, .bool q9, .slice z8 q5.length z9], .int .i64 (rd q6 x23_1)] (by rfl) rfl rfl (by (try simp only [List.map_toArray, List.map_cons, List.map_nil]); first | done | rfl | (simp only [List.length_drop, List.length_take]; rfl)) ?_
        with_reducible refine (Qbf.calls k1 q8 _ _ q4 q9 _ _ q5 (rd q6 x23_1) z5 _ ?side1 ?side2 ?side3 ?side4 A25.out).mono ?_
        (case side1 => exact Cb Q2 HB)
        (case side2 => exact Q3.out)
        (case side3 => exact Cb Q4 HB)
        (case side4 => exact Q5.out)
        rintro e w28 ⟨Jp, rfl, ho0, hb⟩
        refine ⟨_, rfl, ?_⟩
        have Q6 := Qaa.mk (Kd.R_lower ho0 (below_size (bl HB)))
        replace z0 := Qaa.mk (Kd.V_elder' (V_u z0.out) (Kd.R_base ho0) hb)
        replace j4 := Rb j4 hb
        replace q3 := Qaa.mk (Kd.S_elder' (by (with_reducible repeat (first | apply Kd.S_alloc | apply Kd.S_drewN | apply Kd.S_drew)); exact q3.out) (Kd.R_base ho0) hb)
        replace q0 := Bb q0 hb
        replace q1 := Bb q1 hb
        replace q2 := Bb q2 hb
        replace HB := bs HB hb
        (try clear hb)
        (try clear hb2)
        (try clear hk)
        (try clear hi)
        (try clear ho0)
        obtain ⟨Qe, Qf, eo29⟩ := Kd.R_slice Q6.out
        (first | subst eo29 | (injection eo29 with f1_ f2_ f3_; have f4_ := f1_.symm; have f5_ := f3_.symm; clear f1_ f2_ f3_; subst f4_; subst f5_))
        refine hK.out _ _ ⟨(blk_cell q2.out 0).trans rfl, (blk_cell q2.out 1).trans rfl, (blk_cell q0.out 0).trans rfl, (blk_cell q0.out 1).trans rfl, (blk_cell q0.out 2).trans rfl, (blk_cell q0.out 3).trans rfl⟩ (fun hHeld => ?_)
        clear hK K
        refine norm_ (a' := ?_) ?_ ?_
        rotate_left
        ·
         show Act.put _ (some 31) _ = _
         simp only [Act.put, List.setIfInBounds_toArray, List.set_cons_zero, List.set_cons_succ, i64_w, i32_w]
         rfl
        refine pure_ (i := 5) (N := some 32) (v := ?_) (a' := ?_) #[true, true, true, true, true, true, false, false, false, false] rfl rfl (any_of HT_.out (by kernel_rfl)) (fun _ _ _ h => h) (Or.inl ⟨by rfl, ?_⟩) ?_ ?_
        rotate_left
        ·
         intro w'
         go_simp
         with_reducible rfl
        rotate_left
        ·
         simp only [Act.put, List.setIfInBounds_toArray, List.set_cons_zero, List.set_cons_succ, i64_w, i32_w]
         rfl
        refine one_ (i := 6) (N := some 33) #[true, true, true, true, true, true, true, false, false, false] rfl rfl (one_of HT_.out (by kernel_rfl)) (by decide) (fun K hK => ?_)
        refine value_ (w1 := ?_) (v := ?_) (by rfl) rfl ?_ ?_
        rotate_left 2
        ·
         go_simp
         constructor
         ·
          rfl
         ·
          rfl
        refine hK.out _ _ ⟨(blk_cell (blk_alloc q2.out _) 0).trans rfl, (blk_cell (blk_alloc q2.out _) 1).trans rfl, (blk_cell (blk_alloc q0.out _) 0).trans rfl, (blk_cell (blk_alloc q0.out _) 1).trans rfl, (blk_cell (blk_alloc q0.out _) 2).trans rfl, (blk_cell (blk_alloc q0.out _) 3).trans rfl⟩ (fun hHeld => ?_)
        clear hK K
        refine norm_ (a' := ?_) ?_ ?_
        rotate_left
        ·
         show Act.put _ (some 33) _ = _
         simp only [Act.put, List.setIfInBounds_toArray, List.set_cons_zero, List.set_cons_succ, i64_w, i32_w]
         rfl
        refine one_ (i := 7) (N := some 34) #[true, true, true, true, true, true, true, true, false, false] rfl rfl (one_of HT_.out (by kernel_rfl)) (by decide) (fun K hK => ?_)
        refine Kd.S_append_step k89 (w0 := w) w.heap.size (by rfl) (.tmp 28) (.tmp 33) 52 89 (.agg #[(.slice none 0 0)]) 24 rfl Try.underlying52 info89 rfl (by decide) (by omega) j5 j2 (⟨z5⟩ : S89) [.slice Qe z5.length Qf] (fun _ => True) (fun k_ => some k_ = (.slice Qe z5.length Qf : Value).ownBlock) rfl rfl ?aP (fun k_ hk_ => ((Kd.R_mono (ok' := fun k_ => ((fun _ => True)) k_ ∧ some k_ ≠ (j5 : Value).ownBlock) (Kd.R_apart' (Q6.out) (Kd.S_typed q3.out) (by decide)) (fun k_ hk => ⟨trivial, hk.2⟩))).1 k_ hk_.symm) ?aF ?aO ?aB ?aS ?aL ?_
        (case aP => exact k89_mkM _ _ _ (⟨z5⟩ : S89) (Kd.R_mono (Kd.R_tight rfl (Kd.R_mono (ok' := fun k_ => ((fun _ => True)) k_ ∧ some k_ ≠ (j5 : Value).ownBlock) (Kd.R_apart' (Q6.out) (Kd.S_typed q3.out) (by decide)) (fun k_ hk => ⟨trivial, hk.2⟩))) (fun _ h_ => h_)))
        (case aB => exact (bl HB))
        (case aF => exact (fun _ _ => trivial))
        (case aO => exact (by (with_reducible repeat (first | apply Kd.S_alloc | apply Kd.S_drewN | apply Kd.S_drew)); exact Kd.S_mono q3.out (fun k_ hk => ⟨trivial, fun e_ => hk.2 e_⟩)))
        (case aS => exact (below_size (bl HB)))
        (case aL => have := LMc26.out; omega)
        intro Jq w30 ho hb hg hat
        rw [← Ny836.out] at ho
        have Qp := Qaa.mk (ho)
        replace z0 := Qaa.mk (Kd.V_afterv (ok := (fun k_ => some k_ ≠ (.slice j6 q7.length j7 : Value).ownBlock ∧ some k_ ≠ (.slice Qe z5.length Qf : Value).ownBlock ∧ k_ ≠ j3 ∧ k_ ≠ j1 ∧ k_ ≠ j0)) (by apply V_u; exact Vm z0.out) hg hat)
        replace j4 := Qaa.mk (Kd.R_over' (R_u j4.out) (Kd.S_typed (by (with_reducible repeat (first | apply Kd.S_alloc | apply Kd.S_drewN | apply Kd.S_drew)); exact q3.out)) (by decide) hg)
        replace q0 := Qaa.mk (blk_grown (Ub q0) hg (Kd.S_ne q3.out q0.out (by decide)))
        replace q1 := Qaa.mk (blk_grown (Ub q1) hg (Kd.S_ne q3.out q1.out (by decide)))
        replace q2 := Qaa.mk (blk_grown (Ub q2) hg (Kd.S_ne q3.out q2.out (by decide)))
        replace HB := Qaa.mk (hb)
        clear q3
        clear Q6
        clear ho hb hg hat
        obtain ⟨Qc, Qd, eo31⟩ := Kd.S_slice Qp.out
        (first | subst eo31 | (injection eo31 with f1_ f2_ f3_; have f4_ := f1_.symm; have f5_ := f3_.symm; clear f1_ f2_ f3_; subst f4_; subst f5_))
        refine hK.out _ _ ⟨(blk_cell q2.out 0).trans rfl, (blk_cell q2.out 1).trans rfl, (blk_cell q0.out 0).trans rfl, (blk_cell q0.out 1).trans rfl, (blk_cell q0.out 2).trans rfl, (blk_cell q0.out 3).trans rfl⟩ (fun hHeld => ?_)
        clear hK K
        refine norm_ (a' := ?_) ?_ ?_
        rotate_left
        ·
         show Act.put _ (some 34) _ = _
         simp only [Act.put, List.setIfInBounds_toArray, List.set_cons_zero, List.set_cons_succ, i64_w, i32_w]
         rfl
        refine pure_ (i := 8) (N := some 35) (v := ?_) (a' := ?_) #[true, true, true, true, true, true, true, true, true, false] rfl rfl (any_of HT_.out (by kernel_rfl)) (fun _ _ _ h => h) (Or.inl ⟨by rfl, ?_⟩) ?_ ?_
        rotate_left
        ·
         intro w'
         go_simp
         with_reducible rfl
        rotate_left
        ·
         simp only [Act.put, List.setIfInBounds_toArray, List.set_cons_zero, List.set_cons_succ, i64_w, i32_w]
         rfl
        refine last_ (i := 9) (N := none) #[true, true, true, true, true, true, true, true, true, true] rfl rfl (one_of HT_.out (by kernel_rfl)) (by decide) (fun K hK => ?_)
        have hs32 : w30.cell? ⟨j0, 1, none⟩ = some (j5) := (blk_cell q2.out 1).trans rfl
        have hfs32 := blk_frozen q2.out 1
        have hns32_0 := z3.out
        have hns32_1 := z4.out
        have hms32_0 := y9.out
        have hms32_1 := Q0.out
        refine skip_ (w1 := ?_) (by rfl) rfl ?_ ?_
        rotate_left
        ·
         go_simp
         rfl
        refine hK.out _ _ ?_
        clear hK K
        refine done_ (done_of HT_.out (by kernel_rfl)) ?_
        try go_wp2
        go_roundg k1
        case measure => have := HK1.out; omega
        case rel => exact ⟨(wrap64 (x23_1 + 1)), (y836), (.slice Qc y836.length Qd), (by first | rfl | (simp; done) | (simp [*]; done)), H', ⟨by have := HK1.out; omega⟩, ⟨by apply V_u; exact Vm (Kd.V_far (p := ⟨j0, 1, none⟩) (Kd.V_mono z0.out (fun k_ hk => (⟨hk, hk.1.2.2.2.2⟩ : _ ∧ k_ ≠ j0))) (fun _ hk => hk.2) (.slice Qc y836.length Qd))⟩, ⟨by apply R_u; exact Kd.R_mono (Kd.R_far (p := ⟨j0, 1, none⟩) (Kd.R_types j4.out q2.out (by decide)) (fun _ hk => hk.2) (.slice Qc y836.length Qd)) (fun _ hk => trivial)⟩, ⟨by (with_reducible repeat (first | apply Kd.S_alloc | apply Kd.S_drewN | apply Kd.S_drew)); exact Kd.S_mono (Kd.S_far (p := ⟨j0, 1, none⟩) (Kd.S_types Qp.out q2.out (by decide)) (fun _ hk => hk.2) (.slice Qc y836.length Qd)) (fun _ hk => trivial)⟩, ⟨by apply blk_u; refine blk_far ?_ z3.out _; apply blk_u; exact q0.out⟩, ⟨by apply blk_u; refine blk_far ?_ z4.out _; apply blk_u; exact q1.out⟩, ⟨by apply blk_u; refine blk_put (cs := #[.slice j6 q7.length j7, j5]) ?_ 1 _ rfl; apply blk_u; exact q2.out⟩, ⟨bl HB⟩⟩
       ·
        rw [if_neg c26] at H
        exact absurd H (by simp)
      ·
       rw [if_neg c24] at H
       exact absurd H (by simp)
     ·
      rw [if_neg c23] at H
      exact absurd H (by simp)
    ·
     rw [if_neg c22] at H
     have Zi : decide (x23_1 < (q6.length : Int)) = false := decide_eq_false c22
     clear c22
     simp only [Option.some.injEq, Prod.mk.injEq] at H
     obtain ⟨rfl, rfl, rfl⟩ := H
     have Jd := y9.out
     have Je := z3.out
     have Jf := Q0.out
     have Jg := z4.out
     obtain ⟨Zm, Zn, Zo, Zp⟩ := cf2 q2
     have Jh := z2.out
     have Ji := z1.out
     obtain ⟨Zq, Zr, Zs, Zt⟩ := cf2 q1
     obtain ⟨Qg, Qh, eo38⟩ := Kd.S_slice q3.out
     subst eo38
     go_wp2
     refine bodyPost_ret (results_ct rfl _ _ j1 54 #[.slice j6 q7.length j7, .slice Qg j2.length Qh] (0, 0) _ rfl (by apply blk_u; refine blk_put (cs := #[.slice j6 q7.length j7, .slice none 0 0]) ?_ 1 _ rfl; apply blk_u; refine blk_put (cs := #[.slice none 0 0, .slice none 0 0]) ?_ 0 _ rfl; apply blk_u; exact q1.out) Try.underlying54 rfl (by kernel_rfl)) rfl ?_
     exact ⟨_, _, by first | rfl | (simp [errW_none, errW_some] <;> rfl) | (simp [*, errW_none, errW_some] <;> rfl), by apply R_u; exact Kd.R_mono (Kd.R_far (p := ⟨j1, 1, none⟩) (Kd.R_far (p := ⟨j1, 0, none⟩) (Kd.R_types j4.out q1.out (by decide)) (fun _ hk => hk.2) (.slice j6 q7.length j7)) (fun _ hk => hk.2) (.slice Qg j2.length Qh)) (fun _ hk => trivial), by (with_reducible repeat (first | apply Kd.S_alloc | apply Kd.S_drewN | apply Kd.S_drew)); exact Kd.S_mono (Kd.S_far (p := ⟨j1, 1, none⟩) (Kd.S_far (p := ⟨j1, 0, none⟩) (Kd.S_types q3.out q1.out (by decide)) (fun _ hk => hk.2) (.slice j6 q7.length j7)) (fun _ hk => hk.2) (.slice Qg j2.length Qh)) (fun _ hk => trivial), bl HB⟩
 ·
  rw [if_neg c4] at H
  have Zc : (j8 == 0) = false := beq_eq_false_iff_ne.mpr c4
  have Zd : (j8 != 0) = true := bne_iff_ne.mpr c4
  simp only [Option.some.injEq, Prod.mk.injEq] at H
  obtain ⟨rfl, rfl, rfl⟩ := H
  go_enter Try.func15, Try.ntmps15
  go_wp2_with (first | ((with_reducible refine gate_dst (N := 3) rfl ?_); refine bx 3 #[.int .i64 q8, .slice z6 q4.length z7, .bool q9, .slice z8 q5.length z9] 26 ?_; intro j3 hg w39 hbox hb; have q0 := Qaa.mk (hbox); have Qm := Qaa.mk ((by rw [hg]; exact (below_size (bl HB)) : w.heap.size ≤ j3)); have Zf := Qaa.mk ((by rw [hg]; exact (below_size (bl HB)) : w.heap.size ≤ j3)); replace HB := bs HB hb; clear hb hbox hg) | ((with_reducible refine gate_dst (N := 4) rfl ?_); refine bx 4 #[.slice none 0 0, .slice none 0 0] 54 ?_; intro j1 hg w40 hbox hb; have q1 := Qaa.mk (hbox); have Qn := Qaa.mk ((by rw [hg]; exact (below_size (bl HB)) : w.heap.size ≤ j1)); have Zg := Qaa.mk ((by rw [hg]; exact (below_size (bl HB)) : w.heap.size ≤ j1)); have z1 := Qaa.mk ((by rw [hg]; exact Nat.ne_of_lt (blk_lt (Ub q0)) : j3 ≠ j1)); have z2 := Qaa.mk ((by rw [hg]; exact Nat.ne_of_gt (blk_lt (Ub q0)) : j1 ≠ j3)); replace q0 := Bb q0 hb; replace HB := bs HB hb; clear hb hbox hg; have Jj := z1.out; have Jk := z2.out; obtain ⟨Zu, Zv, Zw, Zx, Zy, Zz, J0, J1⟩ := cf4 q0) | ((with_reducible refine gate_callee (f := 37) rfl ?_); refine gL (some 12) Try.func37 #[.slice A0 l0.length c0, .agg #[.int .i64 q8, .slice z6 q4.length z7, .bool q9, .slice z8 q5.length z9]] ?_; (with_reducible refine (Qbb.calls k _ _ l0 q8 _ _ q4 q9 _ _ q5 j8 _ ?side1 ?side2 ?side3 ?side4 ?side5 ?side6 A3.out).mono ?_); (case side1 => exact Cb Za HB); (case side2 => exact Zb.out); (case side3 => exact Cb Q2 HB); (case side4 => exact Q3.out); (case side5 => exact Cb Q4 HB); (case side6 => exact Q5.out); rintro e w43 ⟨rfl, hb⟩; refine ⟨_, rfl, ?_⟩; replace q0 := Bb q0 hb; replace q1 := Bb q1 hb; replace HB := bs HB hb; (try clear hb); obtain ⟨J2, J3, J4, J5⟩ := cf2 q1))
  refine bodyPost_ret (results_ct rfl _ _ j1 54 #[.slice none 0 0, .slice none 0 0] (0, 0) _ rfl (by apply blk_u; refine blk_put (cs := #[.slice none 0 0, .slice none 0 0]) ?_ 1 _ rfl; apply blk_u; refine blk_put (cs := #[.slice none 0 0, .slice none 0 0]) ?_ 0 _ rfl; apply blk_u; exact q1.out) Try.underlying54 rfl (by kernel_rfl)) rfl ?_
  exact ⟨_, _, by first | rfl | (simp [errW_none, errW_some] <;> rfl) | (simp [*, errW_none, errW_some] <;> rfl), by first | exact Kd.R_nil _ _ _ _ _ | exact Kd.N_nil _ _ _ _ _ | exact Kd.V_nil _ _ _ _ _ | exact Kd.Q_nil _ _ _ _ _ | exact Kd.S_nil _ _ _ _ _, by first | exact Kd.S_nil _ _ _ _ _ | exact Kd.N_nil _ _ _ _ _ | exact Kd.V_nil _ _ _ _ _ | exact Kd.Q_nil _ _ _ _ _ | exact Kd.R_nil _ _ _ _ _, bl HB⟩
end Go.Proofs.Ytphnmaobpefoiaa.XA
end
section
namespace Go.Proofs.Ytphnmaobpefoiaa.XA
open Go.RowKit Go.Proofs.YtphnmaobpefoiaaXW Go.Proofs.YtphnmaobpefoiaaW.PrintWords Go.Proofs.YtphnmaobpefoiaaW.PrintLast Go.Proofs.YtphnmaobpefoiaaW.PrintMore
attribute [local go_sem] max2_int min2_int max_two min_two max_three min_three max_four min_four sleq
set_option linter.unusedVariables false
set_option linter.unusedSimpArgs false
theorem eqA86 (d : Nat) (w : World) (x0 y0 : ByteArray) (x1 y1 : Int) :
  (Op.equalIn (d + 2) 86 (.agg #[.string x0, .int .i64 x1]) (.agg #[.string y0, .int .i64 y1])).run Try.prog w = .ok (x0.toList == y0.toList && (x1 == y1)) w := by
 refine eqA_of Try.underlying86 (by kernel_rfl) ?_
 refine eqf_cons (by rfl) (by go_simp; rfl) (by go_simp; rfl) (by go_simp) ?_
 exact eqf_last (by rfl) (by go_simp; rfl) (by go_simp; rfl) (by go_simp)
end Go.Proofs.Ytphnmaobpefoiaa.XA
end
section
namespace Go.Proofs.Ytphnmaobpefoiaa.XA
open Go.RowKit Go.Proofs.YtphnmaobpefoiaaXW Go.Proofs.YtphnmaobpefoiaaW.PrintWords Go.Proofs.YtphnmaobpefoiaaW.PrintLast Go.Proofs.YtphnmaobpefoiaaW.PrintMore
attribute [local go_sem] max2_int min2_int max_two min_two max_three min_three max_four min_four sleq
set_option linter.unusedVariables false
set_option linter.unusedSimpArgs false
attribute [local go_sem high] eqA86
def Qap.l0 : Nat → List (S86) → List (S86) → Int → Option (Bool)
 | 0, _, _, _ => none
 | k + 1, x0, x1, x5 => if x5 < (x0.length : Int) then (if 0 ≤ x5 then (if x5 < (x1.length : Int) then (if (!((((rd_T86 x0 x5).f0).toList) == (((rd_T86 x1 x5).f0).toList)) || (!(((rd_T86 x0 x5).f1) == ((rd_T86 x1 x5).f1)))) = true then (some false) else (Qap.l0 k x0 x1 (wrap64 (x5 + 1)))) else (none)) else (none)) else (some true)
def Qap.f (k : Nat) (l0 : List (S86)) (l1 : List (S86)) : Option (Bool) := if (l0.length : Int) = (l1.length : Int) then (Qap.l0 k l0 l1 0) else (some false)
set_option maxHeartbeats 8000000 in
set_option maxRecDepth 100000 in
theorem Qap.calls (k : Nat) (A0 : Option Addr) (c0 : Nat) (l0 : List (S86)) (A1 : Option Addr) (c1 : Nat) (l1 : List (S86)) (r : Bool) (w : World) (hr0 : Kd.C k86 w A0 l0.length l0) (hc0 : l0.length ≤ c0) (hr1 : Kd.C k86 w A1 l1.length l1) (hc1 : l1.length ≤ c1) (h : Qap.f k l0 l1 = some r) :
  Calls Try.prog 40 #[.slice A0 l0.length c0, .slice A1 l1.length c1] w fun e w' => e = .returned (.bool r) ∧ Drawn0 w w' := by
 have hu86 := Try.underlying86
 have q7 := Qaa.mk hr0
 have j3 := Qaa.mk hc0
 clear hr0 hc0
 have q8 := Qaa.mk hr1
 have j4 := Qaa.mk hc1
 clear hr1 hc1
 have H : (if (l0.length : Int) = (l1.length : Int) then (Qap.l0 k l0 l1 0) else (some false)) = some r := h
 clear h
 by_cases c3 : (l0.length : Int) = (l1.length : Int)
 ·
  rw [if_pos c3] at H
  have q4 : ((l0.length : Int) == (l1.length : Int)) = true := beq_iff_eq.mpr c3
  have q5 : ((l0.length : Int) != (l1.length : Int)) = false := bne_eq_false_iff_eq.mpr c3
  have q6 : (l0.length == l1.length) = true := by first | simpa using c3 | (simp at c3 ⊢; omega)
  clear c3
  have H' := Qaa.mk H
  clear H
  go_enter Try.func40, Try.ntmps40
  go_wp2
  repeat (go_quiet (fail); try go_wp2)
  go_loopg [5] k (fun kq v5 w' => ∃ (x5_1 : Int), v5 = .int .i64 x5_1 ∧ Qaa (Qap.l0 kq l0 l1 x5_1 = some r) ∧ Qaa (kq ≤ k) ∧ Drawn0 w w')
  case atStart => exact ⟨(0), (by first | rfl | (simp; done) | (simp [*]; done)), H', ⟨Nat.le_refl _⟩, by repeat (first | exact Drawn0.refl _ | apply Drawn0.step)⟩
  case round =>
   clear H'
   try clear c1
   try clear p2
   try clear c3
   try clear q4
   try clear q5
   try clear q6
   obtain ⟨x5_1, rfl, HA, HK1, ⟨m1, rfl⟩⟩ := hrel
   cases gk with
   | zero => exact absurd HA.out (by simp [Qap.l0])
   | succ k1 =>
    have H := HA.out
    clear HA
    simp only [Qap.l0] at H
    by_cases c4 : x5_1 < (l0.length : Int)
    ·
     rw [if_pos c4] at H
     have q9 : decide (x5_1 < (l0.length : Int)) = true := decide_eq_true c4
     clear c4
     by_cases c5 : 0 ≤ x5_1
     ·
      rw [if_pos c5] at H
      have j1 : decide (0 ≤ x5_1) = true := decide_eq_true c5
      clear c5
      by_cases c6 : x5_1 < (l1.length : Int)
      ·
       rw [if_pos c6] at H
       have j2 : decide (x5_1 < (l1.length : Int)) = true := decide_eq_true c6
       clear c6
       by_cases c7 : (!((((rd_T86 l0 x5_1).f0).toList) == (((rd_T86 l1 x5_1).f0).toList)) || (!(((rd_T86 l0 x5_1).f1) == ((rd_T86 l1 x5_1).f1)))) = true
       ·
        rw [if_pos c7] at H
        have j0 : (!((((rd_T86 l0 x5_1).f0).toList) == (((rd_T86 l1 x5_1).f0).toList)) || (!(((rd_T86 l0 x5_1).f1) == ((rd_T86 l1 x5_1).f1)))) = true := c7
        clear c7
        obtain rfl := Option.some.inj H
        have p839 : 0 ≤ (x5_1 : Int) := of_decide_eq_true (by first | (with_reducible assumption) | assumption)
        have q839 : x5_1 < (l0.length : Int) := of_decide_eq_true (by first | (with_reducible assumption) | assumption)
        obtain ⟨ad839, e839, q0, q1⟩ := at_T86 q7.out x5_1 p839 q839
        cases e839
        replace p839 := eq_true p839
        replace q839 := eq_true q839
        have p840 : 0 ≤ (x5_1 : Int) := of_decide_eq_true (by first | (with_reducible assumption) | assumption)
        have q840 : x5_1 < (l1.length : Int) := of_decide_eq_true (by first | (with_reducible assumption) | assumption)
        obtain ⟨ad840, e840, q2, q3⟩ := at_T86 q8.out x5_1 p840 q840
        cases e840
        replace p840 := eq_true p840
        replace q840 := eq_true q840
        go_wp2
        repeat (go_quiet (fail); try go_wp2)
        go_ret
        exact ⟨by first | rfl | (simp; done) | (simp [*]; done), by repeat (first | exact Drawn0.refl _ | apply Drawn0.step)⟩
       ·
        rw [if_neg c7] at H
        have j0 : (!((((rd_T86 l0 x5_1).f0).toList) == (((rd_T86 l1 x5_1).f0).toList)) || (!(((rd_T86 l0 x5_1).f1) == ((rd_T86 l1 x5_1).f1)))) = false := by simpa using c7
        clear c7
        have H' := Qaa.mk H
        clear H
        have p839 : 0 ≤ (x5_1 : Int) := of_decide_eq_true (by first | (with_reducible assumption) | assumption)
        have q839 : x5_1 < (l0.length : Int) := of_decide_eq_true (by first | (with_reducible assumption) | assumption)
        obtain ⟨ad839, e839, q0, q1⟩ := at_T86 q7.out x5_1 p839 q839
        cases e839
        replace p839 := eq_true p839
        replace q839 := eq_true q839
        have p840 : 0 ≤ (x5_1 : Int) := of_decide_eq_true (by first | (with_reducible assumption) | assumption)
        have q840 : x5_1 < (l1.length : Int) := of_decide_eq_true (by first | (with_reducible assumption) | assumption)
        obtain ⟨ad840, e840, q2, q3⟩ := at_T86 q8.out x5_1 p840 q840
        cases e840
        replace p840 := eq_true p840
        replace q840 := eq_true q840
        go_wp2
        repeat (go_quiet (fail); try go_wp2)
        go_roundg k1
        case measure => have := HK1.out; omega
        case rel => exact ⟨(wrap64 (x5_1 + 1)), (by first | rfl | (simp; done) | (simp [*]; done)), H', ⟨by have := HK1.out; omega⟩, by repeat (first | exact Drawn0.refl _ | apply Drawn0.step)⟩
      ·
       rw [if_neg c6] at H
       exact absurd H (by simp)
     ·
      rw [if_neg c5] at H
      exact absurd H (by simp)
    ·
     rw [if_neg c4] at H
     have q9 : decide (x5_1 < (l0.length : Int)) = false := decide_eq_false c4
     clear c4
     obtain rfl := Option.some.inj H
     go_wp2
     repeat (go_quiet (fail); try go_wp2)
     go_ret
     exact ⟨by first | rfl | (simp; done) | (simp [*]; done), by repeat (first | exact Drawn0.refl _ | apply Drawn0.step)⟩
 ·
  rw [if_neg c3] at H
  have q4 : ((l0.length : Int) == (l1.length : Int)) = false := beq_eq_false_iff_ne.mpr c3
  have q5 : ((l0.length : Int) != (l1.length : Int)) = true := bne_iff_ne.mpr c3
  have q6 : (l0.length == l1.length) = false := by first | simpa using c3 | (simp at c3 ⊢; omega)
  obtain rfl := Option.some.inj H
  go_enter Try.func40, Try.ntmps40
  go_wp2
  repeat (go_quiet (fail); try go_wp2)
  go_ret
  exact ⟨by first | rfl | (simp; done) | (simp [*]; done), by repeat (first | exact Drawn0.refl _ | apply Drawn0.step)⟩
end Go.Proofs.Ytphnmaobpefoiaa.XA
end
section
namespace Go.Proofs.Ytphnmaobpefoiaa.XA
open Go.RowKit Go.Proofs.YtphnmaobpefoiaaXW Go.Proofs.YtphnmaobpefoiaaW.PrintWords Go.Proofs.YtphnmaobpefoiaaW.PrintLast Go.Proofs.YtphnmaobpefoiaaW.PrintMore
attribute [local go_sem] max2_int min2_int max_two min_two max_three min_three max_four min_four sleq
set_option linter.unusedVariables false
set_option linter.unusedSimpArgs false
attribute [local go_sem high] eqA41
def Qav.l0 : Nat → Int → List (S41) → List (S41) → Option (Bool)
 | 0, _, _, _ => none
 | k + 1, x5, j8, j9 => if x5 < (j8.length : Int) then (if 0 ≤ x5 then (if x5 < (j9.length : Int) then (if (!(((rd_T41 j8 x5).f0) == ((rd_T41 j9 x5).f0)) || (!(((rd_T41 j8 x5).f1) == ((rd_T41 j9 x5).f1)) || (!((((rd_T41 j8 x5).f2).toList) == (((rd_T41 j9 x5).f2).toList))))) = true then (some false) else (Qav.l0 k (wrap64 (x5 + 1)) j8 j9)) else (none)) else (none)) else (some true)
def Qav.f (k : Nat) (q2 : List (S41)) (q4 : List (S41)) : Option (Bool) := if (q2.length : Int) = (q4.length : Int) then (Qav.l0 k 0 q2 q4) else (some false)
set_option maxHeartbeats 8000000 in
set_option maxRecDepth 100000 in
theorem Qav.calls (k : Nat) (q8 : Option Addr) (q9 : Nat) (q2 : List (S41)) (j0 : Option Addr) (j1 : Nat) (q4 : List (S41)) (r : Bool) (w : World) (y5 : Kd.C k41 w q8 q2.length q2) (y6 : q2.length ≤ q9) (y7 : Kd.C k41 w j0 q4.length q4) (y8 : q4.length ≤ j1) (h : Qav.f k q2 q4 = some r) :
  Calls Try.prog 41 #[.agg #[.slice q8 q2.length q9], .agg #[.slice j0 q4.length j1]] w fun e w' => e = .returned (.bool r) ∧ Below w.heap.size w w' := by
 have hu89 := Try.underlying89
 have hu41 := Try.underlying41
 have y9 := Qaa.mk y5
 have Qk := Qaa.mk y6
 clear y5 y6
 have Q0 := Qaa.mk y7
 have Ql := Qaa.mk y8
 clear y7 y8
 have HB := Qaa.mk (Below.refl w.heap.size w)
 have H : (if (q2.length : Int) = (q4.length : Int) then (Qav.l0 k 0 q2 q4) else (some false)) = some r := h
 clear h
 by_cases c3 : (q2.length : Int) = (q4.length : Int)
 ·
  rw [if_pos c3] at H
  have Q3 : ((q2.length : Int) == (q4.length : Int)) = true := beq_iff_eq.mpr c3
  have Q4 : ((q2.length : Int) != (q4.length : Int)) = false := bne_eq_false_iff_eq.mpr c3
  have Q5 : (q2.length == q4.length) = true := by first | simpa using c3 | (simp at c3 ⊢; omega)
  clear c3
  have H' := Qaa.mk H
  clear H
  go_enter Try.func41, Try.ntmps41
  go_wp2_with (first | ((with_reducible refine gate_dst (N := 2) rfl ?_); refine bx 2 #[.slice q8 q2.length q9] 89 ?_; intro q1 hg w4 hbox hb; have q0 := Qaa.mk (hbox); have z0 := Qaa.mk ((by rw [hg]; exact (below_size (bl HB)) : w.heap.size ≤ q1)); have z1 := Qaa.mk ((by rw [hg]; exact (below_size (bl HB)) : w.heap.size ≤ q1)); replace HB := bs HB hb; clear hb hbox hg) | ((with_reducible refine gate_dst (N := 3) rfl ?_); refine bx 3 #[.slice j0 q4.length j1] 89 ?_; intro q3 hg w5 hbox hb; have q7 := Qaa.mk (hbox); have z2 := Qaa.mk ((by rw [hg]; exact (below_size (bl HB)) : w.heap.size ≤ q3)); have z3 := Qaa.mk ((by rw [hg]; exact (below_size (bl HB)) : w.heap.size ≤ q3)); have q5 := Qaa.mk ((by rw [hg]; exact Nat.ne_of_lt (blk_lt (Ub q0)) : q1 ≠ q3)); have q6 := Qaa.mk ((by rw [hg]; exact Nat.ne_of_gt (blk_lt (Ub q0)) : q3 ≠ q1)); replace q0 := Bb q0 hb; replace HB := bs HB hb; clear hb hbox hg; have Q6 := q5.out; have Q7 := q6.out; have z4 : w5.cell? ⟨q1, 0, none⟩ = some (.slice q8 q2.length q9) := (blk_cell q0.out 0).trans rfl; have z5 := blk_frozen q0.out 0; have z6 : w5.cell? ⟨q3, 0, none⟩ = some (.slice j0 q4.length j1) := (blk_cell q7.out 0).trans rfl; have z7 := blk_frozen q7.out 0))
  repeat (go_quiet (first | ((with_reducible refine gate_dst (N := 2) rfl ?_); refine bx 2 #[.slice q8 q2.length q9] 89 ?_; intro q1 hg w4 hbox hb; have q0 := Qaa.mk (hbox); have z0 := Qaa.mk ((by rw [hg]; exact (below_size (bl HB)) : w.heap.size ≤ q1)); have z1 := Qaa.mk ((by rw [hg]; exact (below_size (bl HB)) : w.heap.size ≤ q1)); replace HB := bs HB hb; clear hb hbox hg) | ((with_reducible refine gate_dst (N := 3) rfl ?_); refine bx 3 #[.slice j0 q4.length j1] 89 ?_; intro q3 hg w5 hbox hb; have n0_ := Bb q0 hb; have n1_ := bs HB hb; have n2_ := Qaa.mk (hbox); have n3_ := Qaa.mk ((by rw [hg]; exact (below_size (bl HB)) : w.heap.size ≤ q3)); have n4_ := Qaa.mk ((by rw [hg]; exact (below_size (bl HB)) : w.heap.size ≤ q3)); have n5_ := Qaa.mk ((by rw [hg]; exact Nat.ne_of_lt (blk_lt (Ub q0)) : q1 ≠ q3)); have n6_ := Qaa.mk ((by rw [hg]; exact Nat.ne_of_gt (blk_lt (Ub q0)) : q3 ≠ q1)); clear q0; clear HB; have q0 := n0_; have HB := n1_; have q7 := n2_; have z2 := n3_; have z3 := n4_; have q5 := n5_; have q6 := n6_; clear n0_ n1_ n2_ n3_ n4_ n5_ n6_; clear hb hbox hg; have Q6 := q5.out; have Q7 := q6.out; have z4 : w5.cell? ⟨q1, 0, none⟩ = some (.slice q8 q2.length q9) := (blk_cell q0.out 0).trans rfl; have z5 := blk_frozen q0.out 0; have z6 : w5.cell? ⟨q3, 0, none⟩ = some (.slice j0 q4.length j1) := (blk_cell q7.out 0).trans rfl; have z7 := blk_frozen q7.out 0)); try go_wp2_with (first | ((with_reducible refine gate_dst (N := 2) rfl ?_); refine bx 2 #[.slice q8 q2.length q9] 89 ?_; intro q1 hg w4 hbox hb; have q0 := Qaa.mk (hbox); have z0 := Qaa.mk ((by rw [hg]; exact (below_size (bl HB)) : w.heap.size ≤ q1)); have z1 := Qaa.mk ((by rw [hg]; exact (below_size (bl HB)) : w.heap.size ≤ q1)); replace HB := bs HB hb; clear hb hbox hg) | ((with_reducible refine gate_dst (N := 3) rfl ?_); refine bx 3 #[.slice j0 q4.length j1] 89 ?_; intro q3 hg w5 hbox hb; have n0_ := Bb q0 hb; have n1_ := bs HB hb; have n2_ := Qaa.mk (hbox); have n3_ := Qaa.mk ((by rw [hg]; exact (below_size (bl HB)) : w.heap.size ≤ q3)); have n4_ := Qaa.mk ((by rw [hg]; exact (below_size (bl HB)) : w.heap.size ≤ q3)); have n5_ := Qaa.mk ((by rw [hg]; exact Nat.ne_of_lt (blk_lt (Ub q0)) : q1 ≠ q3)); have n6_ := Qaa.mk ((by rw [hg]; exact Nat.ne_of_gt (blk_lt (Ub q0)) : q3 ≠ q1)); clear q0; clear HB; have q0 := n0_; have HB := n1_; have q7 := n2_; have z2 := n3_; have z3 := n4_; have q5 := n5_; have q6 := n6_; clear n0_ n1_ n2_ n3_ n4_ n5_ n6_; clear hb hbox hg; have Q6 := q5.out; have Q7 := q6.out; have z4 : w5.cell? ⟨q1, 0, none⟩ = some (.slice q8 q2.length q9) := (blk_cell q0.out 0).trans rfl; have z5 := blk_frozen q0.out 0; have z6 : w5.cell? ⟨q3, 0, none⟩ = some (.slice j0 q4.length j1) := (blk_cell q7.out 0).trans rfl; have z7 := blk_frozen q7.out 0)))
  go_loopg [5] k (fun kq v5 w' => ∃ (x5_1 : Int), v5 = .int .i64 x5_1 ∧ Qaa (Qav.l0 kq x5_1 q2 q4 = some r) ∧ Qaa (kq ≤ k) ∧ Qaa (w'.heap[q1]? = some (.cells #[(.slice q8 q2.length q9)] 89 (0, 0))) ∧ Qaa (w'.heap[q3]? = some (.cells #[(.slice j0 q4.length j1)] 89 (0, 0))) ∧ Qaa (Below w.heap.size w w'))
  case atStart => exact ⟨(0), (by first | rfl | (simp; done) | (simp [*]; done)), H', ⟨Nat.le_refl _⟩, ⟨by apply blk_u; exact q0.out⟩, ⟨by apply blk_u; exact q7.out⟩, ⟨bl HB⟩⟩
  case round =>
   clear H'
   try clear c1
   try clear p2
   try clear c3
   try clear Q3
   try clear Q4
   try clear Q5
   try clear c4
   try clear c6
   try clear z4
   try clear z6
   try clear z5
   try clear z7
   obtain ⟨x5_1, rfl, HA, HK1, q0, q7, HB⟩ := hrel
   cases gk with
   | zero => exact absurd HA.out (by simp [Qav.l0])
   | succ k1 =>
    have H := HA.out
    clear HA
    simp only [Qav.l0] at H
    by_cases c9 : x5_1 < (q2.length : Int)
    ·
     rw [if_pos c9] at H
     have Q9 : decide (x5_1 < (q2.length : Int)) = true := decide_eq_true c9
     clear c9
     by_cases c10 : 0 ≤ x5_1
     ·
      rw [if_pos c10] at H
      have Qm : decide (0 ≤ x5_1) = true := decide_eq_true c10
      clear c10
      by_cases c11 : x5_1 < (q4.length : Int)
      ·
       rw [if_pos c11] at H
       have Qn : decide (x5_1 < (q4.length : Int)) = true := decide_eq_true c11
       clear c11
       by_cases c12 : (!(((rd_T41 q2 x5_1).f0) == ((rd_T41 q4 x5_1).f0)) || (!(((rd_T41 q2 x5_1).f1) == ((rd_T41 q4 x5_1).f1)) || (!((((rd_T41 q2 x5_1).f2).toList) == (((rd_T41 q4 x5_1).f2).toList))))) = true
       ·
        rw [if_pos c12] at H
        have Q8 : (!(((rd_T41 q2 x5_1).f0) == ((rd_T41 q4 x5_1).f0)) || (!(((rd_T41 q2 x5_1).f1) == ((rd_T41 q4 x5_1).f1)) || (!((((rd_T41 q2 x5_1).f2).toList) == (((rd_T41 q4 x5_1).f2).toList))))) = true := c12
        clear c12
        obtain rfl := Option.some.inj H
        have Qo := q5.out
        have Qp := q6.out
        have Qa : wr.cell? ⟨q1, 0, none⟩ = some (.slice q8 q2.length q9) := (blk_cell q0.out 0).trans rfl
        have Qb := blk_frozen q0.out 0
        have p843 : 0 ≤ (x5_1 : Int) := of_decide_eq_true (by first | (with_reducible assumption) | assumption)
        have q843 : x5_1 < (q2.length : Int) := of_decide_eq_true (by first | (with_reducible assumption) | assumption)
        obtain ⟨ad843, e843, j2, j3, j4⟩ := at_T41 y9.out x5_1 p843 q843
        cases e843
        replace j2 := (HB.out.cell (World.block_lt_of_cell? w _ j2)).trans j2
        replace j3 := (HB.out.cell (World.block_lt_of_cell? w _ j3)).trans j3
        replace j4 := (HB.out.cell (World.block_lt_of_cell? w _ j4)).trans j4
        replace p843 := eq_true p843
        replace q843 := eq_true q843
        have Qc : wr.cell? ⟨q3, 0, none⟩ = some (.slice j0 q4.length j1) := (blk_cell q7.out 0).trans rfl
        have Qd := blk_frozen q7.out 0
        have p844 : 0 ≤ (x5_1 : Int) := of_decide_eq_true (by first | (with_reducible assumption) | assumption)
        have q844 : x5_1 < (q4.length : Int) := of_decide_eq_true (by first | (with_reducible assumption) | assumption)
        obtain ⟨ad844, e844, j5, j6, j7⟩ := at_T41 Q0.out x5_1 p844 q844
        cases e844
        replace j5 := (HB.out.cell (World.block_lt_of_cell? w _ j5)).trans j5
        replace j6 := (HB.out.cell (World.block_lt_of_cell? w _ j6)).trans j6
        replace j7 := (HB.out.cell (World.block_lt_of_cell? w _ j7)).trans j7
        replace p844 := eq_true p844
        replace q844 := eq_true q844
        go_wp2
        repeat (go_quiet (fail); try go_wp2)
        go_ret
        exact ⟨by first | rfl | (simp [errW_none, errW_some] <;> rfl) | (simp [*, errW_none, errW_some] <;> rfl), bl HB⟩
       ·
        rw [if_neg c12] at H
        have Q8 : (!(((rd_T41 q2 x5_1).f0) == ((rd_T41 q4 x5_1).f0)) || (!(((rd_T41 q2 x5_1).f1) == ((rd_T41 q4 x5_1).f1)) || (!((((rd_T41 q2 x5_1).f2).toList) == (((rd_T41 q4 x5_1).f2).toList))))) = false := by simpa using c12
        clear c12
        have H' := Qaa.mk H
        clear H
        have Qq := q5.out
        have Qr := q6.out
        have Qe : wr.cell? ⟨q1, 0, none⟩ = some (.slice q8 q2.length q9) := (blk_cell q0.out 0).trans rfl
        have Qf := blk_frozen q0.out 0
        have p843 : 0 ≤ (x5_1 : Int) := of_decide_eq_true (by first | (with_reducible assumption) | assumption)
        have q843 : x5_1 < (q2.length : Int) := of_decide_eq_true (by first | (with_reducible assumption) | assumption)
        obtain ⟨ad843, e843, j2, j3, j4⟩ := at_T41 y9.out x5_1 p843 q843
        cases e843
        replace j2 := (HB.out.cell (World.block_lt_of_cell? w _ j2)).trans j2
        replace j3 := (HB.out.cell (World.block_lt_of_cell? w _ j3)).trans j3
        replace j4 := (HB.out.cell (World.block_lt_of_cell? w _ j4)).trans j4
        replace p843 := eq_true p843
        replace q843 := eq_true q843
        have Qg : wr.cell? ⟨q3, 0, none⟩ = some (.slice j0 q4.length j1) := (blk_cell q7.out 0).trans rfl
        have Qh := blk_frozen q7.out 0
        have p844 : 0 ≤ (x5_1 : Int) := of_decide_eq_true (by first | (with_reducible assumption) | assumption)
        have q844 : x5_1 < (q4.length : Int) := of_decide_eq_true (by first | (with_reducible assumption) | assumption)
        obtain ⟨ad844, e844, j5, j6, j7⟩ := at_T41 Q0.out x5_1 p844 q844
        cases e844
        replace j5 := (HB.out.cell (World.block_lt_of_cell? w _ j5)).trans j5
        replace j6 := (HB.out.cell (World.block_lt_of_cell? w _ j6)).trans j6
        replace j7 := (HB.out.cell (World.block_lt_of_cell? w _ j7)).trans j7
        replace p844 := eq_true p844
        replace q844 := eq_true q844
        go_wp2
        repeat (go_quiet (fail); try go_wp2)
        go_roundg k1
        case measure => have := HK1.out; omega
        case rel => exact ⟨(wrap64 (x5_1 + 1)), (by first | rfl | (simp; done) | (simp [*]; done)), H', ⟨by have := HK1.out; omega⟩, ⟨by apply blk_u; exact q0.out⟩, ⟨by apply blk_u; exact q7.out⟩, ⟨bl HB⟩⟩
      ·
       rw [if_neg c11] at H
       exact absurd H (by simp)
     ·
      rw [if_neg c10] at H
      exact absurd H (by simp)
    ·
     rw [if_neg c9] at H
     have Q9 : decide (x5_1 < (q2.length : Int)) = false := decide_eq_false c9
     clear c9
     obtain rfl := Option.some.inj H
     have Qs := q5.out
     have Qt := q6.out
     have Qi : wr.cell? ⟨q1, 0, none⟩ = some (.slice q8 q2.length q9) := (blk_cell q0.out 0).trans rfl
     have Qj := blk_frozen q0.out 0
     go_wp2
     repeat (go_quiet (fail); try go_wp2)
     go_ret
     exact ⟨by first | rfl | (simp [errW_none, errW_some] <;> rfl) | (simp [*, errW_none, errW_some] <;> rfl), bl HB⟩
 ·
  rw [if_neg c3] at H
  have Q3 : ((q2.length : Int) == (q4.length : Int)) = false := beq_eq_false_iff_ne.mpr c3
  have Q4 : ((q2.length : Int) != (q4.length : Int)) = true := bne_iff_ne.mpr c3
  have Q5 : (q2.length == q4.length) = false := by first | simpa using c3 | (simp at c3 ⊢; omega)
  obtain rfl := Option.some.inj H
  go_enter Try.func41, Try.ntmps41
  go_wp2_with (first | ((with_reducible refine gate_dst (N := 2) rfl ?_); refine bx 2 #[.slice q8 q2.length q9] 89 ?_; intro q1 hg w21 hbox hb; have q0 := Qaa.mk (hbox); have z0 := Qaa.mk ((by rw [hg]; exact (below_size (bl HB)) : w.heap.size ≤ q1)); have z1 := Qaa.mk ((by rw [hg]; exact (below_size (bl HB)) : w.heap.size ≤ q1)); replace HB := bs HB hb; clear hb hbox hg) | ((with_reducible refine gate_dst (N := 3) rfl ?_); refine bx 3 #[.slice j0 q4.length j1] 89 ?_; intro q3 hg w22 hbox hb; have q7 := Qaa.mk (hbox); have z2 := Qaa.mk ((by rw [hg]; exact (below_size (bl HB)) : w.heap.size ≤ q3)); have z3 := Qaa.mk ((by rw [hg]; exact (below_size (bl HB)) : w.heap.size ≤ q3)); have q5 := Qaa.mk ((by rw [hg]; exact Nat.ne_of_lt (blk_lt (Ub q0)) : q1 ≠ q3)); have q6 := Qaa.mk ((by rw [hg]; exact Nat.ne_of_gt (blk_lt (Ub q0)) : q3 ≠ q1)); replace q0 := Bb q0 hb; replace HB := bs HB hb; clear hb hbox hg; have Q1 := q5.out; have Q2 := q6.out; have z8 : w22.cell? ⟨q1, 0, none⟩ = some (.slice q8 q2.length q9) := (blk_cell q0.out 0).trans rfl; have z9 := blk_frozen q0.out 0; have y3 : w22.cell? ⟨q3, 0, none⟩ = some (.slice j0 q4.length j1) := (blk_cell q7.out 0).trans rfl; have y4 := blk_frozen q7.out 0))
  repeat (go_quiet (first | ((with_reducible refine gate_dst (N := 2) rfl ?_); refine bx 2 #[.slice q8 q2.length q9] 89 ?_; intro q1 hg w21 hbox hb; have q0 := Qaa.mk (hbox); have z0 := Qaa.mk ((by rw [hg]; exact (below_size (bl HB)) : w.heap.size ≤ q1)); have z1 := Qaa.mk ((by rw [hg]; exact (below_size (bl HB)) : w.heap.size ≤ q1)); replace HB := bs HB hb; clear hb hbox hg) | ((with_reducible refine gate_dst (N := 3) rfl ?_); refine bx 3 #[.slice j0 q4.length j1] 89 ?_; intro q3 hg w22 hbox hb; have n0_ := Bb q0 hb; have n1_ := bs HB hb; have n2_ := Qaa.mk (hbox); have n3_ := Qaa.mk ((by rw [hg]; exact (below_size (bl HB)) : w.heap.size ≤ q3)); have n4_ := Qaa.mk ((by rw [hg]; exact (below_size (bl HB)) : w.heap.size ≤ q3)); have n5_ := Qaa.mk ((by rw [hg]; exact Nat.ne_of_lt (blk_lt (Ub q0)) : q1 ≠ q3)); have n6_ := Qaa.mk ((by rw [hg]; exact Nat.ne_of_gt (blk_lt (Ub q0)) : q3 ≠ q1)); clear q0; clear HB; have q0 := n0_; have HB := n1_; have q7 := n2_; have z2 := n3_; have z3 := n4_; have q5 := n5_; have q6 := n6_; clear n0_ n1_ n2_ n3_ n4_ n5_ n6_; clear hb hbox hg; have Q1 := q5.out; have Q2 := q6.out; have z8 : w22.cell? ⟨q1, 0, none⟩ = some (.slice q8 q2.length q9) := (blk_cell q0.out 0).trans rfl; have z9 := blk_frozen q0.out 0; have y3 : w22.cell? ⟨q3, 0, none⟩ = some (.slice j0 q4.length j1) := (blk_cell q7.out 0).trans rfl; have y4 := blk_frozen q7.out 0)); try go_wp2_with (first | ((with_reducible refine gate_dst (N := 2) rfl ?_); refine bx 2 #[.slice q8 q2.length q9] 89 ?_; intro q1 hg w21 hbox hb; have q0 := Qaa.mk (hbox); have z0 := Qaa.mk ((by rw [hg]; exact (below_size (bl HB)) : w.heap.size ≤ q1)); have z1 := Qaa.mk ((by rw [hg]; exact (below_size (bl HB)) : w.heap.size ≤ q1)); replace HB := bs HB hb; clear hb hbox hg) | ((with_reducible refine gate_dst (N := 3) rfl ?_); refine bx 3 #[.slice j0 q4.length j1] 89 ?_; intro q3 hg w22 hbox hb; have n0_ := Bb q0 hb; have n1_ := bs HB hb; have n2_ := Qaa.mk (hbox); have n3_ := Qaa.mk ((by rw [hg]; exact (below_size (bl HB)) : w.heap.size ≤ q3)); have n4_ := Qaa.mk ((by rw [hg]; exact (below_size (bl HB)) : w.heap.size ≤ q3)); have n5_ := Qaa.mk ((by rw [hg]; exact Nat.ne_of_lt (blk_lt (Ub q0)) : q1 ≠ q3)); have n6_ := Qaa.mk ((by rw [hg]; exact Nat.ne_of_gt (blk_lt (Ub q0)) : q3 ≠ q1)); clear q0; clear HB; have q0 := n0_; have HB := n1_; have q7 := n2_; have z2 := n3_; have z3 := n4_; have q5 := n5_; have q6 := n6_; clear n0_ n1_ n2_ n3_ n4_ n5_ n6_; clear hb hbox hg; have Q1 := q5.out; have Q2 := q6.out; have z8 : w22.cell? ⟨q1, 0, none⟩ = some (.slice q8 q2.length q9) := (blk_cell q0.out 0).trans rfl; have z9 := blk_frozen q0.out 0; have y3 : w22.cell? ⟨q3, 0, none⟩ = some (.slice j0 q4.length j1) := (blk_cell q7.out 0).trans rfl; have y4 := blk_frozen q7.out 0)))
  go_ret
  exact ⟨by first | rfl | (simp [errW_none, errW_some] <;> rfl) | (simp [*, errW_none, errW_some] <;> rfl), bl HB⟩
end Go.Proofs.Ytphnmaobpefoiaa.XA
end
section
namespace Go.Proofs.Ytphnmaobpefoiaa.XA
open Go.RowKit Go.Proofs.YtphnmaobpefoiaaXW Go.Proofs.YtphnmaobpefoiaaW.PrintWords Go.Proofs.YtphnmaobpefoiaaW.PrintLast Go.Proofs.YtphnmaobpefoiaaW.PrintMore
attribute [local go_sem] max2_int min2_int max_two min_two max_three min_three max_four min_four sleq
set_option linter.unusedVariables false
set_option linter.unusedSimpArgs false
mutual
def Qae.j0 : Nat → Bool → List (S86) → List (S89) → List (S86) → List (S89) → Option (Bool)
 | 0, _, _, _, _, _ => none
 | k + 1, x20, z7, j3, z8, j4 => if x20 = true then (some false) else (Qae.l0 k 0 z7 j3 z8 j4)
def Qae.l0 : Nat → Int → List (S86) → List (S89) → List (S86) → List (S89) → Option (Bool)
 | 0, _, _, _, _, _ => none
 | k + 1, x5, z7, j3, z8, j4 => if x5 < (j3.length : Int) then (if 0 ≤ x5 then (if x5 < (j4.length : Int) then ((Qav.f k ((rd_T89 j3 x5).f0) ((rd_T89 j4 x5).f0)).bind fun Qb => (if Qb = true then (Qae.l0 k (wrap64 (x5 + 1)) z7 j3 z8 j4) else (some false))) else (none)) else (none)) else (some true)
end
def Qae.f (k : Nat) (q4 : List (S86)) (q1 : List (S89)) (q5 : List (S86)) (q2 : List (S89)) : Option (Bool) := (Qap.f k q4 q5).bind fun z9 => (if z9 = true then (Qae.j0 k ((q1.length : Int) != (q2.length : Int)) q4 q1 q5 q2) else (Qae.j0 k true q4 q1 q5 q2))
def Qae.T6 : Bool × List (List Nat × List Nat) := (true, [([], []), ([0], [0]), ([], []), ([1, 2], [1, 2]), ([3], [3]), ([], []), ([5], [5]), ([], []), ([6, 7], [6, 7]), ([8], [8]), ([4, 9], [4, 9]), ([10], [10])])
def Qae.B6 : List Nat := [0, 1, 0, 7, 15, 0, 32, 0, 224, 480, 1023, 2047]
theorem Qae.tab6 : rtab .any (opsOf Try.f16 6) = Qae.T6 := by kernel_rfl
theorem Qae.bits6 : waitsOk Qae.T6.2 Qae.B6 = true := by kernel_rfl
set_option maxHeartbeats 8000000 in
set_option maxRecDepth 100000 in
theorem Qae.calls (k : Nat) (j7 : Option Addr) (j8 : Nat) (q4 : List (S86)) (y7 : Option Addr) (z5 : Nat) (q1 : List (S89)) (j9 : Option Addr) (z0 : Nat) (q5 : List (S86)) (y8 : Option Addr) (z6 : Nat) (q2 : List (S89)) (r : Bool) (w : World) (Qg : Kd.C k86 w j7 q4.length q4) (Qh : q4.length ≤ j8) (Qi : Kd.C k89 w y7 q1.length q1) (Qj : q1.length ≤ z5) (Qk : Kd.C k86 w j9 q5.length q5) (Ql : q5.length ≤ z0) (Qm : Kd.C k89 w y8 q2.length q2) (Qn : q2.length ≤ z6) (h : Qae.f k q4 q1 q5 q2 = some r) :
  Calls Try.prog 16 #[.agg #[.slice j7 q4.length j8, .slice y7 q1.length z5], .agg #[.slice j9 q5.length z0, .slice y8 q2.length z6]] w fun e w' => e = .returned (.bool r) ∧ Below w.heap.size w w' := by
 have hu54 := Try.underlying54
 have hu89 := Try.underlying89
 have Qo := Qaa.mk Qg
 have Qp := Qaa.mk Qh
 clear Qg Qh
 have Qq := Qaa.mk Qi
 have Z9 := Qaa.mk Qj
 clear Qi Qj
 have Qr := Qaa.mk Qk
 have Qs := Qaa.mk Ql
 clear Qk Ql
 have Qt := Qaa.mk Qm
 have Za := Qaa.mk Qn
 clear Qm Qn
 have HB := Qaa.mk (Below.refl w.heap.size w)
 have H : ((Qap.f k q4 q5).bind fun z9 => (if z9 = true then (Qae.j0 k ((q1.length : Int) != (q2.length : Int)) q4 q1 q5 q2) else (Qae.j0 k true q4 q1 q5 q2))) = some r := h
 clear h
 have Qu := Qaa.mk H
 clear H
 go_enter Try.func16, Try.ntmps16
 go_upto_region 1 with (first | ((with_reducible refine gate_dst (N := 2) rfl ?_); (try (refine gate_guard (by rfl) ?_; dsimp only)); refine bx 2 #[.slice j7 q4.length j8, .slice y7 q1.length z5] 54 ?_; intro q8 hg w4 hbox hb; have q0 := Qaa.mk (hbox); have Zb := Qaa.mk ((by rw [hg]; exact (below_size (bl HB)) : w.heap.size ≤ q8)); have Zc := Qaa.mk ((by rw [hg]; exact (below_size (bl HB)) : w.heap.size ≤ q8)); replace HB := bs HB hb; clear hb hbox hg) | ((with_reducible refine gate_dst (N := 3) rfl ?_); (try (refine gate_guard (by rfl) ?_; dsimp only)); refine bx 3 #[.slice j9 q5.length z0, .slice y8 q2.length z6] 54 ?_; intro q9 hg w5 hbox hb; have q3 := Qaa.mk (hbox); have Zd := Qaa.mk ((by rw [hg]; exact (below_size (bl HB)) : w.heap.size ≤ q9)); have Ze := Qaa.mk ((by rw [hg]; exact (below_size (bl HB)) : w.heap.size ≤ q9)); have j1 := Qaa.mk ((by rw [hg]; exact Nat.ne_of_lt (blk_lt (Ub q0)) : q8 ≠ q9)); have j2 := Qaa.mk ((by rw [hg]; exact Nat.ne_of_gt (blk_lt (Ub q0)) : q9 ≠ q8)); replace q0 := Bb q0 hb; replace HB := bs HB hb; clear hb hbox hg))
 (try simp only [Act.put, List.setIfInBounds_toArray, List.set_cons_zero, List.set_cons_succ])
 go_cut [20] (fun v20 wc => ∃ (kq : Nat) (x20_2 : Bool), v20 = .bool x20_2 ∧ Qaa (Qae.j0 kq x20_2 q4 q1 q5 q2 = some r) ∧ Qaa (kq ≤ k) ∧ Qaa (wc.heap[q8]? = some (.cells #[(.slice j7 q4.length j8), (.slice y7 q1.length z5)] 54 (0, 0))) ∧ Qaa (wc.heap[q9]? = some (.cells #[(.slice j9 q5.length z0), (.slice y8 q2.length z6)] 54 (0, 0))) ∧ Qaa (Below w.heap.size w wc))
 case first =>
  have H := Qu.out
  clear Qu
  replace H := Option.bind_eq_some_iff.mp H
  obtain ⟨z9, A60, H⟩ := H
  replace H : (if z9 = true then (Qae.j0 k ((q1.length : Int) != (q2.length : Int)) q4 q1 q5 q2) else (Qae.j0 k true q4 q1 q5 q2)) = some r := H
  have A6 := Qaa.mk A60
  clear A60
  by_cases c7 : z9 = true
  ·
   subst c7
   have H1 : (Qae.j0 k ((q1.length : Int) != (q2.length : Int)) q4 q1 q5 q2) = some r := by rw [if_pos rfl] at H; exact H
   clear H
   have H := H1
   clear H1
   have H' := Qaa.mk H
   clear H
   have Zp := j1.out
   have Zq := j2.out
   obtain ⟨Qc, Qd, Qe, Qf⟩ := cf2 q0
   obtain ⟨y9, Q0, Q1, Q2⟩ := cf2 q3
   go_wp2_with (first | ((with_reducible refine gate_callee (f := 40) rfl ?_); refine gL (some 10) Try.func40 #[.slice j7 q4.length j8, .slice j9 q5.length z0] ?_; (with_reducible refine (Qap.calls k _ _ q4 _ _ q5 true _ ?side1 ?side2 ?side3 ?side4 A6.out).mono ?_); (case side1 => exact Cb Qo HB); (case side2 => exact Qp.out); (case side3 => exact Cb Qr HB); (case side4 => exact Qs.out); rintro e w' ⟨rfl, ⟨nd, rfl⟩⟩; refine ⟨_, rfl, ?_⟩))
   go_meet
   case rel => exact ⟨_, (((q1.length : Int) != (q2.length : Int))), (by first | rfl | (simp; done) | (simp [*]; done)), H', ⟨by first | omega | exact Nat.le_refl _⟩, ⟨by apply blk_u; exact q0.out⟩, ⟨by apply blk_u; exact q3.out⟩, ⟨bl HB⟩⟩
  ·
   replace c7 := Bool.eq_false_iff.mpr c7
   subst c7
   have H1 : (Qae.j0 k true q4 q1 q5 q2) = some r := by rw [if_neg (show ¬ (false = true) by decide)] at H; exact H
   clear H
   have H := H1
   clear H1
   have H' := Qaa.mk H
   clear H
   have Zf := j1.out
   have Zg := j2.out
   obtain ⟨Q3, Q4, Q5, Q6⟩ := cf2 q0
   obtain ⟨Q7, Q8, Q9, Qa⟩ := cf2 q3
   go_wp2_with (first | ((with_reducible refine gate_callee (f := 40) rfl ?_); refine gL (some 10) Try.func40 #[.slice j7 q4.length j8, .slice j9 q5.length z0] ?_; (with_reducible refine (Qap.calls k _ _ q4 _ _ q5 false _ ?side1 ?side2 ?side3 ?side4 A6.out).mono ?_); (case side1 => exact Cb Qo HB); (case side2 => exact Qp.out); (case side3 => exact Cb Qr HB); (case side4 => exact Qs.out); rintro e w' ⟨rfl, ⟨nd, rfl⟩⟩; refine ⟨_, rfl, ?_⟩))
   go_meet
   case rel => exact ⟨_, (true), (by first | rfl | (simp; done) | (simp [*]; done)), H', ⟨by first | omega | exact Nat.le_refl _⟩, ⟨by apply blk_u; exact q0.out⟩, ⟨by apply blk_u; exact q3.out⟩, ⟨bl HB⟩⟩
 case rest =>
  clear Qu
  try clear c1
  try clear p2
  try clear c4
  try clear c7
  try clear c8
  try clear c11
  try clear y9
  try clear Q0
  try clear Q3
  try clear Q4
  try clear Q7
  try clear Q8
  try clear Qc
  try clear Qd
  try clear Q1
  try clear Q2
  try clear Q5
  try clear Q6
  try clear Q9
  try clear Qa
  try clear Qe
  try clear Qf
  obtain ⟨kq, x20_2, rfl, HA, HJ2, q0, q3, HB⟩ := hcut
  cases kq with
  | zero => exact absurd HA.out (by simp [Qae.j0])
  | succ kj2 =>
   have H := HA.out
   clear HA
   simp only [Qae.j0] at H
   by_cases c14 : x20_2 = true
   ·
    subst c14
    have H1 : (some false) = some r := by rw [if_pos rfl] at H; exact H
    clear H
    have H := H1
    clear H1
    obtain rfl := Option.some.inj H
    go_wp2
    go_ret
    exact ⟨by first | rfl | (simp [errW_none, errW_some] <;> rfl) | (simp [*, errW_none, errW_some] <;> rfl), bl HB⟩
   ·
    replace c14 := Bool.eq_false_iff.mpr c14
    subst c14
    have H1 : (Qae.l0 kj2 0 q4 q1 q5 q2) = some r := by rw [if_neg (show ¬ (false = true) by decide)] at H; exact H
    clear H
    have H := H1
    clear H1
    have H' := Qaa.mk H
    clear H
    go_wp2
    go_loopg [5] kj2 (fun kq v5 w' => ∃ (x5_2 : Int), v5 = .int .i64 x5_2 ∧ Qaa (Qae.l0 kq x5_2 q4 q1 q5 q2 = some r) ∧ Qaa (kq ≤ kj2) ∧ Qaa (w'.heap[q8]? = some (.cells #[(.slice j7 q4.length j8), (.slice y7 q1.length z5)] 54 (0, 0))) ∧ Qaa (w'.heap[q9]? = some (.cells #[(.slice j9 q5.length z0), (.slice y8 q2.length z6)] 54 (0, 0))) ∧ Qaa (Below w.heap.size w w'))
    case atStart => exact ⟨(0), (by first | rfl | (simp; done) | (simp [*]; done)), H', ⟨Nat.le_refl _⟩, ⟨by apply blk_u; exact q0.out⟩, ⟨by apply blk_u; exact q3.out⟩, ⟨bl HB⟩⟩
    case round =>
     clear H'
     try clear c1
     try clear p2
     try clear c4
     try clear c7
     try clear c8
     try clear c11
     try clear c14
     try clear y9
     try clear Q0
     try clear Q3
     try clear Q4
     try clear Q7
     try clear Q8
     try clear Qc
     try clear Qd
     try clear Q1
     try clear Q2
     try clear Q5
     try clear Q6
     try clear Q9
     try clear Qa
     try clear Qe
     try clear Qf
     try clear p2
     obtain ⟨x5_2, rfl, HA, HK2, q0, q3, HB⟩ := hrel
     cases gk with
     | zero => exact absurd HA.out (by simp [Qae.l0])
     | succ k2 =>
      have H := HA.out
      clear HA
      simp only [Qae.l0] at H
      by_cases c15 : x5_2 < (q1.length : Int)
      ·
       rw [if_pos c15] at H
       have Qw : decide (x5_2 < (q1.length : Int)) = true := decide_eq_true c15
       clear c15
       by_cases c16 : 0 ≤ x5_2
       ·
        rw [if_pos c16] at H
        have Zh : decide (0 ≤ x5_2) = true := decide_eq_true c16
        clear c16
        by_cases c17 : x5_2 < (q2.length : Int)
        ·
         rw [if_pos c17] at H
         have Zi : decide (x5_2 < (q2.length : Int)) = true := decide_eq_true c17
         clear c17
         replace H := Option.bind_eq_some_iff.mp H
         obtain ⟨Qb, Qv, H⟩ := H
         replace H : (if Qb = true then (Qae.l0 k2 (wrap64 (x5_2 + 1)) q4 q1 q5 q2) else (some false)) = some r := H
         have A18 := Qaa.mk Qv
         clear Qv
         by_cases c19 : Qb = true
         ·
          subst c19
          have H1 : (Qae.l0 k2 (wrap64 (x5_2 + 1)) q4 q1 q5 q2) = some r := by rw [if_pos rfl] at H; exact H
          clear H
          have H := H1
          clear H1
          have H' := Qaa.mk H
          clear H
          have Zj := j1.out
          have Zk := j2.out
          obtain ⟨Qx, Qy, Qz, Z0⟩ := cf2 q0
          try go_wp2
          replace q0 := Qaa.mk (blk_drew q0.out)
          replace q3 := Qaa.mk (blk_drew q3.out)
          replace HB := Qaa.mk (below_drew1 HB.out)
          have p848 : 0 ≤ (x5_2 : Int) := of_decide_eq_true (by first | (with_reducible assumption) | assumption)
          have q848 : x5_2 < (q1.length : Int) := of_decide_eq_true (by first | (with_reducible assumption) | assumption)
          obtain ⟨ad848, z1, z2, e848, q6, hl848_0, hi848_0⟩ := at_T89 Qq.out x5_2 p848 q848
          have hw848_0 := q6
          cases e848
          replace q6 := (HB.out.cell (World.block_lt_of_cell? w _ q6)).trans q6
          have j5 := Qaa.mk hi848_0
          have y5 := Qaa.mk hl848_0
          clear hi848_0 hl848_0
          replace p848 := eq_true p848
          replace q848 := eq_true q848
          have p849 : 0 ≤ (x5_2 : Int) := of_decide_eq_true (by first | (with_reducible assumption) | assumption)
          have q849 : x5_2 < (q2.length : Int) := of_decide_eq_true (by first | (with_reducible assumption) | assumption)
          obtain ⟨ad849, z3, z4, e849, q7, hl849_0, hi849_0⟩ := at_T89 Qt.out x5_2 p849 q849
          have hw849_0 := q7
          cases e849
          replace q7 := (HB.out.cell (World.block_lt_of_cell? w _ q7)).trans q7
          have j6 := Qaa.mk hi849_0
          have y6 := Qaa.mk hl849_0
          clear hi849_0 hl849_0
          replace p849 := eq_true p849
          replace q849 := eq_true q849
          refine start_ (n := 12) (S := fun w' => w'.cell? ⟨q8, 0, none⟩ = some (.slice j7 q4.length j8) ∧ w'.cell? ⟨q8, 1, none⟩ = some (.slice (some ad848) q1.length z5) ∧ w'.cell? ⟨q9, 0, none⟩ = some (.slice j9 q5.length z0) ∧ w'.cell? ⟨q9, 1, none⟩ = some (.slice (some ad849) q2.length z6) ∧ w'.cell? (ad848.add (x5_2).toNat) = some (.slice z1 ((rd_T89 q1 x5_2).f0).length z2) ∧ w'.cell? (ad849.add (x5_2).toNat) = some (.slice z3 ((rd_T89 q2 x5_2).f0).length z4)) (ds := []) #[false, false, false, false, false, false, false, false, false, false, false, false] (by kernel_rfl) rfl rfl ⟨(blk_cell q0.out 0).trans rfl, (blk_cell q0.out 1).trans rfl, (blk_cell q3.out 0).trans rfl, (blk_cell q3.out 1).trans rfl, ((HB.out.cell (World.block_lt_of_cell? w _ hw848_0)).trans hw848_0), ((HB.out.cell (World.block_lt_of_cell? w _ hw849_0)).trans hw849_0)⟩ (fun hHeld => ?_); refine with_tabW Qae.tab6 Qae.bits6 (fun HT_ HW_ => ?_)
          generalize wr.drew = w22 at q0 q3 HB j5 j6 q6 q7 hHeld ⊢
          refine pure_ (i := 0) (N := some 28) (v := ?_) (a' := ?_) #[true, false, false, false, false, false, false, false, false, false, false, false] rfl rfl (any_of HT_.out (by kernel_rfl)) (fun _ _ _ h => h) (Or.inl ⟨by rfl, ?_⟩) ?_ ?_
          rotate_left
          ·
           intro w'
           go_simp
           with_reducible rfl
          rotate_left
          ·
           simp only [Act.put, List.setIfInBounds_toArray, List.set_cons_zero, List.set_cons_succ, i64_w, i32_w]
           rfl
          refine pure_ (i := 2) (N := some 30) (v := ?_) (a' := ?_) #[true, false, true, false, false, false, false, false, false, false, false, false] rfl rfl (any_of HT_.out (by kernel_rfl)) (fun _ _ _ h => h) (Or.inl ⟨by rfl, ?_⟩) ?_ ?_
          rotate_left
          ·
           intro w'
           go_simp
           with_reducible rfl
          rotate_left
          ·
           simp only [Act.put, List.setIfInBounds_toArray, List.set_cons_zero, List.set_cons_succ, i64_w, i32_w]
           rfl
          refine pure_ (i := 5) (N := some 33) (v := ?_) (a' := ?_) #[true, false, true, false, false, true, false, false, false, false, false, false] rfl rfl (any_of HT_.out (by kernel_rfl)) (fun _ _ _ h => h) (Or.inl ⟨by rfl, ?_⟩) ?_ ?_
          rotate_left
          ·
           intro w'
           go_simp
           with_reducible rfl
          rotate_left
          ·
           simp only [Act.put, List.setIfInBounds_toArray, List.set_cons_zero, List.set_cons_succ, i64_w, i32_w]
           rfl
          refine pure_ (i := 7) (N := some 35) (v := ?_) (a' := ?_) #[true, false, true, false, false, true, false, true, false, false, false, false] rfl rfl (any_of HT_.out (by kernel_rfl)) (fun _ _ _ h => h) (Or.inl ⟨by rfl, ?_⟩) ?_ ?_
          rotate_left
          ·
           intro w'
           go_simp
           with_reducible rfl
          rotate_left
          ·
           simp only [Act.put, List.setIfInBounds_toArray, List.set_cons_zero, List.set_cons_succ, i64_w, i32_w]
           rfl
          refine take_ (i := 1) (N := some 29) (v := ?_) (a' := ?_) #[true, true, true, false, false, true, false, true, false, false, false, false] rfl rfl (take_ofW HT_.out HW_.out (by kernel_rfl)) (fun _ _ _ h => h) (Or.inl ⟨by rfl, ?_⟩) hHeld ?_ ?_
          rotate_left
          ·
           rintro w' ⟨s0, s1, s2, s3, s4, s5⟩
           go_simp
           with_reducible rfl
          rotate_left
          ·
           simp only [Act.put, List.setIfInBounds_toArray, List.set_cons_zero, List.set_cons_succ, i64_w, i32_w]
           rfl
          refine pure_ (i := 3) (N := some 31) (v := ?_) (a' := ?_) #[true, true, true, true, false, true, false, true, false, false, false, false] rfl rfl (any_of HT_.out (by kernel_rfl)) (fun _ _ _ h => h) (Or.inl ⟨by rfl, ?_⟩) ?_ ?_
          rotate_left
          ·
           intro w'
           go_simp
           with_reducible rfl
          rotate_left
          ·
           simp only [Act.put, List.setIfInBounds_toArray, List.set_cons_zero, List.set_cons_succ, i64_w, i32_w]
           rfl
          refine take_ (i := 4) (N := some 32) (v := ?_) (a' := ?_) #[true, true, true, true, true, true, false, true, false, false, false, false] rfl rfl (take_ofW HT_.out HW_.out (by kernel_rfl)) (fun _ _ _ h => h) (Or.inl ⟨by rfl, ?_⟩) hHeld ?_ ?_
          rotate_left
          ·
           rintro w' ⟨s0, s1, s2, s3, s4, s5⟩
           go_simp
           with_reducible rfl
          rotate_left
          ·
           simp only [Act.put, List.setIfInBounds_toArray, List.set_cons_zero, List.set_cons_succ, i64_w, i32_w]
           rfl
          refine take_ (i := 6) (N := some 34) (v := ?_) (a' := ?_) #[true, true, true, true, true, true, true, true, false, false, false, false] rfl rfl (take_ofW HT_.out HW_.out (by kernel_rfl)) (fun _ _ _ h => h) (Or.inl ⟨by rfl, ?_⟩) hHeld ?_ ?_
          rotate_left
          ·
           rintro w' ⟨s0, s1, s2, s3, s4, s5⟩
           go_simp
           with_reducible rfl
          rotate_left
          ·
           simp only [Act.put, List.setIfInBounds_toArray, List.set_cons_zero, List.set_cons_succ, i64_w, i32_w]
           rfl
          refine pure_ (i := 8) (N := some 36) (v := ?_) (a' := ?_) #[true, true, true, true, true, true, true, true, true, false, false, false] rfl rfl (any_of HT_.out (by kernel_rfl)) (fun _ _ _ h => h) (Or.inl ⟨by rfl, ?_⟩) ?_ ?_
          rotate_left
          ·
           intro w'
           go_simp
           with_reducible rfl
          rotate_left
          ·
           simp only [Act.put, List.setIfInBounds_toArray, List.set_cons_zero, List.set_cons_succ, i64_w, i32_w]
           rfl
          refine take_ (i := 9) (N := some 37) (v := ?_) (a' := ?_) #[true, true, true, true, true, true, true, true, true, true, false, false] rfl rfl (take_ofW HT_.out HW_.out (by kernel_rfl)) (fun _ _ _ h => h) (Or.inl ⟨by rfl, ?_⟩) hHeld ?_ ?_
          rotate_left
          ·
           rintro w' ⟨s0, s1, s2, s3, s4, s5⟩
           go_simp
           with_reducible rfl
          rotate_left
          ·
           simp only [Act.put, List.setIfInBounds_toArray, List.set_cons_zero, List.set_cons_succ, i64_w, i32_w]
           rfl
          refine one_ (i := 10) (N := some 38) #[true, true, true, true, true, true, true, true, true, true, true, false] rfl rfl (one_of HT_.out (by kernel_rfl)) (by decide) (fun K hK => ?_)
          refine goes_ Try.func41 (by kernel_rfl) rfl #[.agg #[.slice z1 ((rd_T89 q1 x5_2).f0).length z2], .agg #[.slice z3 ((rd_T89 q2 x5_2).f0).length z4]] (by rfl) rfl rfl (by (try simp only [List.map_toArray, List.map_cons, List.map_nil]); first | done | rfl | (simp only [List.length_drop, List.length_take]; rfl)) ?_
          with_reducible refine (Qav.calls k2 _ _ ((rd_T89 q1 x5_2).f0) _ _ ((rd_T89 q2 x5_2).f0) true _ ?side1 ?side2 ?side3 ?side4 A18.out).mono ?_
          (case side1 => exact Cb j5 HB)
          (case side2 => exact y5.out)
          (case side3 => exact Cb j6 HB)
          (case side4 => exact y6.out)
          rintro e w23 ⟨rfl, hb⟩
          refine ⟨_, rfl, ?_⟩
          replace q0 := Bb q0 hb
          replace q3 := Bb q3 hb
          replace HB := bs HB hb
          (try clear hb)
          (try clear hb2)
          (try clear hk)
          (try clear hi)
          refine hK.out _ _ ⟨(blk_cell q0.out 0).trans rfl, (blk_cell q0.out 1).trans rfl, (blk_cell q3.out 0).trans rfl, (blk_cell q3.out 1).trans rfl, ((HB.out.cell (World.block_lt_of_cell? w _ hw848_0)).trans hw848_0), ((HB.out.cell (World.block_lt_of_cell? w _ hw849_0)).trans hw849_0)⟩ (fun hHeld => ?_)
          clear hK K
          refine norm_ (a' := ?_) ?_ ?_
          rotate_left
          ·
           show Act.put _ (some 38) _ = _
           simp only [Act.put, List.setIfInBounds_toArray, List.set_cons_zero, List.set_cons_succ, i64_w, i32_w]
           rfl
          refine pure_ (i := 11) (N := some 39) (v := ?_) (a' := ?_) #[true, true, true, true, true, true, true, true, true, true, true, true] rfl rfl (any_of HT_.out (by kernel_rfl)) (fun _ _ _ h => h) (Or.inl ⟨by rfl, ?_⟩) ?_ ?_
          rotate_left
          ·
           intro w'
           go_simp
           with_reducible rfl
          rotate_left
          ·
           simp only [Act.put, List.setIfInBounds_toArray, List.set_cons_zero, List.set_cons_succ, i64_w, i32_w]
           rfl
          refine done_ (done_of HT_.out (by kernel_rfl)) ?_
          try go_wp2
          go_roundg k2
          case measure => have := HJ2.out; have := HK2.out; omega
          case rel => exact ⟨(wrap64 (x5_2 + 1)), (by first | rfl | (simp; done) | (simp [*]; done)), H', ⟨by have := HJ2.out; have := HK2.out; omega⟩, ⟨by apply blk_u; exact q0.out⟩, ⟨by apply blk_u; exact q3.out⟩, ⟨bl HB⟩⟩
         ·
          replace c19 := Bool.eq_false_iff.mpr c19
          subst c19
          have H1 : (some false) = some r := by rw [if_neg (show ¬ (false = true) by decide)] at H; exact H
          clear H
          have H := H1
          clear H1
          obtain rfl := Option.some.inj H
          have Zl := j1.out
          have Zm := j2.out
          obtain ⟨Z1, Z2, Z3, Z4⟩ := cf2 q0
          try go_wp2
          replace q0 := Qaa.mk (blk_drew q0.out)
          replace q3 := Qaa.mk (blk_drew q3.out)
          replace HB := Qaa.mk (below_drew1 HB.out)
          have p848 : 0 ≤ (x5_2 : Int) := of_decide_eq_true (by first | (with_reducible assumption) | assumption)
          have q848 : x5_2 < (q1.length : Int) := of_decide_eq_true (by first | (with_reducible assumption) | assumption)
          obtain ⟨ad848, z1, z2, e848, q6, hl848_0, hi848_0⟩ := at_T89 Qq.out x5_2 p848 q848
          have hw848_0 := q6
          cases e848
          replace q6 := (HB.out.cell (World.block_lt_of_cell? w _ q6)).trans q6
          have j5 := Qaa.mk hi848_0
          have y5 := Qaa.mk hl848_0
          clear hi848_0 hl848_0
          replace p848 := eq_true p848
          replace q848 := eq_true q848
          have p849 : 0 ≤ (x5_2 : Int) := of_decide_eq_true (by first | (with_reducible assumption) | assumption)
          have q849 : x5_2 < (q2.length : Int) := of_decide_eq_true (by first | (with_reducible assumption) | assumption)
          obtain ⟨ad849, z3, z4, e849, q7, hl849_0, hi849_0⟩ := at_T89 Qt.out x5_2 p849 q849
          have hw849_0 := q7
          cases e849
          replace q7 := (HB.out.cell (World.block_lt_of_cell? w _ q7)).trans q7
          have j6 := Qaa.mk hi849_0
          have y6 := Qaa.mk hl849_0
          clear hi849_0 hl849_0
          replace p849 := eq_true p849
          replace q849 := eq_true q849
          refine start_ (n := 12) (S := fun w' => w'.cell? ⟨q8, 0, none⟩ = some (.slice j7 q4.length j8) ∧ w'.cell? ⟨q8, 1, none⟩ = some (.slice (some ad848) q1.length z5) ∧ w'.cell? ⟨q9, 0, none⟩ = some (.slice j9 q5.length z0) ∧ w'.cell? ⟨q9, 1, none⟩ = some (.slice (some ad849) q2.length z6) ∧ w'.cell? (ad848.add (x5_2).toNat) = some (.slice z1 ((rd_T89 q1 x5_2).f0).length z2) ∧ w'.cell? (ad849.add (x5_2).toNat) = some (.slice z3 ((rd_T89 q2 x5_2).f0).length z4)) (ds := []) #[false, false, false, false, false, false, false, false, false, false, false, false] (by kernel_rfl) rfl rfl ⟨(blk_cell q0.out 0).trans rfl, (blk_cell q0.out 1).trans rfl, (blk_cell q3.out 0).trans rfl, (blk_cell q3.out 1).trans rfl, ((HB.out.cell (World.block_lt_of_cell? w _ hw848_0)).trans hw848_0), ((HB.out.cell (World.block_lt_of_cell? w _ hw849_0)).trans hw849_0)⟩ (fun hHeld => ?_); refine with_tabW Qae.tab6 Qae.bits6 (fun HT_ HW_ => ?_)
          generalize wr.drew = w26 at q0 q3 HB j5 j6 q6 q7 hHeld ⊢
          refine pure_ (i := 0) (N := some 28) (v := ?_) (a' := ?_) #[true, false, false, false, false, false, false, false, false, false, false, false] rfl rfl (any_of HT_.out (by kernel_rfl)) (fun _ _ _ h => h) (Or.inl ⟨by rfl, ?_⟩) ?_ ?_
          rotate_left
          ·
           intro w'
           go_simp
           with_reducible rfl
          rotate_left
          ·
           simp only [Act.put, List.setIfInBounds_toArray, List.set_cons_zero, List.set_cons_succ, i64_w, i32_w]
           rfl
          refine pure_ (i := 2) (N := some 30) (v := ?_) (a' := ?_) #[true, false, true, false, false, false, false, false, false, false, false, false] rfl rfl (any_of HT_.out (by kernel_rfl)) (fun _ _ _ h => h) (Or.inl ⟨by rfl, ?_⟩) ?_ ?_
          rotate_left
          ·
           intro w'
           go_simp
           with_reducible rfl
          rotate_left
          ·
           simp only [Act.put, List.setIfInBounds_toArray, List.set_cons_zero, List.set_cons_succ, i64_w, i32_w]
           rfl
          refine pure_ (i := 5) (N := some 33) (v := ?_) (a' := ?_) #[true, false, true, false, false, true, false, false, false, false, false, false] rfl rfl (any_of HT_.out (by kernel_rfl)) (fun _ _ _ h => h) (Or.inl ⟨by rfl, ?_⟩) ?_ ?_
          rotate_left
          ·
           intro w'
           go_simp
           with_reducible rfl
          rotate_left
          ·
           simp only [Act.put, List.setIfInBounds_toArray, List.set_cons_zero, List.set_cons_succ, i64_w, i32_w]
           rfl
          refine pure_ (i := 7) (N := some 35) (v := ?_) (a' := ?_) #[true, false, true, false, false, true, false, true, false, false, false, false] rfl rfl (any_of HT_.out (by kernel_rfl)) (fun _ _ _ h => h) (Or.inl ⟨by rfl, ?_⟩) ?_ ?_
          rotate_left
          ·
           intro w'
           go_simp
           with_reducible rfl
          rotate_left
          ·
           simp only [Act.put, List.setIfInBounds_toArray, List.set_cons_zero, List.set_cons_succ, i64_w, i32_w]
           rfl
          refine take_ (i := 1) (N := some 29) (v := ?_) (a' := ?_) #[true, true, true, false, false, true, false, true, false, false, false, false] rfl rfl (take_ofW HT_.out HW_.out (by kernel_rfl)) (fun _ _ _ h => h) (Or.inl ⟨by rfl, ?_⟩) hHeld ?_ ?_
          rotate_left
          ·
           rintro w' ⟨s0, s1, s2, s3, s4, s5⟩
           go_simp
           with_reducible rfl
          rotate_left
          ·
           simp only [Act.put, List.setIfInBounds_toArray, List.set_cons_zero, List.set_cons_succ, i64_w, i32_w]
           rfl
          refine pure_ (i := 3) (N := some 31) (v := ?_) (a' := ?_) #[true, true, true, true, false, true, false, true, false, false, false, false] rfl rfl (any_of HT_.out (by kernel_rfl)) (fun _ _ _ h => h) (Or.inl ⟨by rfl, ?_⟩) ?_ ?_
          rotate_left
          ·
           intro w'
           go_simp
           with_reducible rfl
          rotate_left
          ·
           simp only [Act.put, List.setIfInBounds_toArray, List.set_cons_zero, List.set_cons_succ, i64_w, i32_w]
           rfl
          refine take_ (i := 4) (N := some 32) (v := ?_) (a' := ?_) #[true, true, true, true, true, true, false, true, false, false, false, false] rfl rfl (take_ofW HT_.out HW_.out (by kernel_rfl)) (fun _ _ _ h => h) (Or.inl ⟨by rfl, ?_⟩) hHeld ?_ ?_
          rotate_left
          ·
           rintro w' ⟨s0, s1, s2, s3, s4, s5⟩
           go_simp
           with_reducible rfl
          rotate_left
          ·
           simp only [Act.put, List.setIfInBounds_toArray, List.set_cons_zero, List.set_cons_succ, i64_w, i32_w]
           rfl
          refine take_ (i := 6) (N := some 34) (v := ?_) (a' := ?_) #[true, true, true, true, true, true, true, true, false, false, false, false] rfl rfl (take_ofW HT_.out HW_.out (by kernel_rfl)) (fun _ _ _ h => h) (Or.inl ⟨by rfl, ?_⟩) hHeld ?_ ?_
          rotate_left
          ·
           rintro w' ⟨s0, s1, s2, s3, s4, s5⟩
           go_simp
           with_reducible rfl
          rotate_left
          ·
           simp only [Act.put, List.setIfInBounds_toArray, List.set_cons_zero, List.set_cons_succ, i64_w, i32_w]
           rfl
          refine pure_ (i := 8) (N := some 36) (v := ?_) (a' := ?_) #[true, true, true, true, true, true, true, true, true, false, false, false] rfl rfl (any_of HT_.out (by kernel_rfl)) (fun _ _ _ h => h) (Or.inl ⟨by rfl, ?_⟩) ?_ ?_
          rotate_left
          ·
           intro w'
           go_simp
           with_reducible rfl
          rotate_left
          ·
           simp only [Act.put, List.setIfInBounds_toArray, List.set_cons_zero, List.set_cons_succ, i64_w, i32_w]
           rfl
          refine take_ (i := 9) (N := some 37) (v := ?_) (a' := ?_) #[true, true, true, true, true, true, true, true, true, true, false, false] rfl rfl (take_ofW HT_.out HW_.out (by kernel_rfl)) (fun _ _ _ h => h) (Or.inl ⟨by rfl, ?_⟩) hHeld ?_ ?_
          rotate_left
          ·
           rintro w' ⟨s0, s1, s2, s3, s4, s5⟩
           go_simp
           with_reducible rfl
          rotate_left
          ·
           simp only [Act.put, List.setIfInBounds_toArray, List.set_cons_zero, List.set_cons_succ, i64_w, i32_w]
           rfl
          refine one_ (i := 10) (N := some 38) #[true, true, true, true, true, true, true, true, true, true, true, false] rfl rfl (one_of HT_.out (by kernel_rfl)) (by decide) (fun K hK => ?_)
          refine goes_ Try.func41 (by kernel_rfl) rfl #[.agg #[.slice z1 ((rd_T89 q1 x5_2).f0).length z2], .agg #[.slice z3 ((rd_T89 q2 x5_2).f0).length z4]] (by rfl) rfl rfl (by (try simp only [List.map_toArray, List.map_cons, List.map_nil]); first | done | rfl | (simp only [List.length_drop, List.length_take]; rfl)) ?_
          with_reducible refine (Qav.calls k2 _ _ ((rd_T89 q1 x5_2).f0) _ _ ((rd_T89 q2 x5_2).f0) false _ ?side1 ?side2 ?side3 ?side4 A18.out).mono ?_
          (case side1 => exact Cb j5 HB)
          (case side2 => exact y5.out)
          (case side3 => exact Cb j6 HB)
          (case side4 => exact y6.out)
          rintro e w27 ⟨rfl, hb⟩
          refine ⟨_, rfl, ?_⟩
          replace q0 := Bb q0 hb
          replace q3 := Bb q3 hb
          replace HB := bs HB hb
          (try clear hb)
          (try clear hb2)
          (try clear hk)
          (try clear hi)
          refine hK.out _ _ ⟨(blk_cell q0.out 0).trans rfl, (blk_cell q0.out 1).trans rfl, (blk_cell q3.out 0).trans rfl, (blk_cell q3.out 1).trans rfl, ((HB.out.cell (World.block_lt_of_cell? w _ hw848_0)).trans hw848_0), ((HB.out.cell (World.block_lt_of_cell? w _ hw849_0)).trans hw849_0)⟩ (fun hHeld => ?_)
          clear hK K
          refine norm_ (a' := ?_) ?_ ?_
          rotate_left
          ·
           show Act.put _ (some 38) _ = _
           simp only [Act.put, List.setIfInBounds_toArray, List.set_cons_zero, List.set_cons_succ, i64_w, i32_w]
           rfl
          refine pure_ (i := 11) (N := some 39) (v := ?_) (a' := ?_) #[true, true, true, true, true, true, true, true, true, true, true, true] rfl rfl (any_of HT_.out (by kernel_rfl)) (fun _ _ _ h => h) (Or.inl ⟨by rfl, ?_⟩) ?_ ?_
          rotate_left
          ·
           intro w'
           go_simp
           with_reducible rfl
          rotate_left
          ·
           simp only [Act.put, List.setIfInBounds_toArray, List.set_cons_zero, List.set_cons_succ, i64_w, i32_w]
           rfl
          refine done_ (done_of HT_.out (by kernel_rfl)) ?_
          try go_wp2
          go_ret
          exact ⟨by first | rfl | (simp [errW_none, errW_some] <;> rfl) | (simp [*, errW_none, errW_some] <;> rfl), bl HB⟩
        ·
         rw [if_neg c17] at H
         exact absurd H (by simp)
       ·
        rw [if_neg c16] at H
        exact absurd H (by simp)
      ·
       rw [if_neg c15] at H
       have Qw : decide (x5_2 < (q1.length : Int)) = false := decide_eq_false c15
       clear c15
       obtain rfl := Option.some.inj H
       have Zn := j1.out
       have Zo := j2.out
       obtain ⟨Z5, Z6, Z7, Z8⟩ := cf2 q0
       go_wp2
       go_ret
       exact ⟨by first | rfl | (simp [errW_none, errW_some] <;> rfl) | (simp [*, errW_none, errW_some] <;> rfl), bl HB⟩
end Go.Proofs.Ytphnmaobpefoiaa.XA
end
section
namespace Go.Proofs.Ytphnmaobpefoiaa.XA
open Go.RowKit Go.Sort Go.Proofs.YtphnmaobpefoiaaXW Go.Proofs.YtphnmaobpefoiaaW.PrintWords Go.Proofs.YtphnmaobpefoiaaW.PrintLast Go.Proofs.YtphnmaobpefoiaaW.PrintMore
theorem rd89 (l : List S89) (i : Nat) (h : i < l.length) : rd_T89 l (i : Int) = l[i] := by
  simp [rd_T89, List.getD_eq_getElem?_getD, h]
theorem add_w (a b : Nat) (h : a + b ≤ 1000) : wrap64 ((a : Int) + (b : Int)) = ((a + b : Nat) : Int) := by rw [w_in _ (by omega) (by omega)]; simp
theorem step_w (i : Nat) (h : i < 1000000) : wrap64 ((i : Int) + 1) = ((i + 1 : Nat) : Int) := by rw [w_in _ (by omega) (by omega)]; simp
theorem Sliced_ok {r : Nat} {cols : List S39} {wh : Bool} {pk : List Int} (h : BatchOk r cols wh pk) (a n : Nat) (ha : a ≤ (pick r wh pk).length) (hn : n ≤ 1000) (k : Nat) (hk : 30000 ≤ k) :
    Qaw.f k (r : Int) cols wh pk (a : Int) (n : Int) = some (((((pick r wh pk).drop a).take n).length : Int), selB cols (((pick r wh pk).drop a).take n), true, [], 0) := by
  obtain ⟨hl, hin⟩ := pick_in h
  unfold Qaw.f
  rw [batch_ok h k (by omega)]
  simp only [Option.bind_some, if_true]
  rw [picked_f h.le cols wh pk k (by omega)]
  simp only [Option.bind_some]
  rw [in_f]
  simp only [Option.bind_some]
  rw [if_pos (by simp; omega), in_f]
  simp only [Option.bind_some]
  have hm : mn (wrap64 ((a : Int) + (n : Int))) ((pick r wh pk).length : Int) = ((min (a + n) (pick r wh pk).length : Nat) : Int) := by
    rw [w_in _ (by omega) (by omega)]
    unfold mn
    split <;> omega
  rw [if_pos (by simp; omega), if_pos (by omega), hm, if_pos (by omega), if_pos (by omega)]
  have e : ((pick r wh pk).take ((min (a + n) (pick r wh pk).length : Nat) : Int).toNat).drop (a : Int).toNat = ((pick r wh pk).drop a).take n := by
    rw [Int.toNat_natCast, Int.toNat_natCast, List.drop_take]
    rcases Nat.le_total (a + n) (pick r wh pk).length with h1 | h1
    · rw [Nat.min_eq_left h1, Nat.add_sub_cancel_left]
    · rw [Nat.min_eq_right h1, List.take_of_length_le (by simp), List.take_of_length_le (by simp; omega)]
  rw [e, some_f h (by simp; omega) (fun x hx => hin x (List.mem_of_mem_drop (List.mem_of_mem_take hx))) k (by omega)]
  rfl
theorem Packed_ok {r : Nat} {cols : List S39} {wh : Bool} {pk : List Int} (h : BatchOk r cols wh pk) (k : Nat) (hk : 30000 ≤ k) :
    Qbo.f k (r : Int) cols wh pk = some (((pick r wh pk).length : Int), selB cols (pick r wh pk), true, [], 0) := by
  obtain ⟨hl, hin⟩ := pick_in h
  unfold Qbo.f
  rw [batch_ok h k (by omega)]
  simp only [Option.bind_some, if_true]
  rw [picked_f h.le cols wh pk k (by omega)]
  simp only [Option.bind_some]
  rw [some_f h hl hin k (by omega)]
  rfl
theorem Sliced_ev (r : Int) (cols : List S39) (wh : Bool) (pk : List Int) (n : Int) (k : Nat) (hk : 30000 ≤ k) :
    (∃ c, c ≠ 0 ∧ Qaw.f k r cols wh pk 0 n = some (0, [], false, [], c)) ∨ ∃ q m : Nat, r = (q : Int) ∧ n = (m : Int) ∧ m ≤ 1000 ∧ BatchOk q cols wh pk := by
  obtain ⟨c, h1, h2⟩ := batch_ev r cols wh pk k (by omega)
  by_cases h0 : c = 0
  · obtain ⟨hr, hb⟩ := h2.1 h0
    obtain ⟨q, rfl⟩ : ∃ q : Nat, r = q := ⟨r.toNat, by omega⟩
    by_cases hn : 0 ≤ n ∧ n ≤ 1000
    · exact .inr ⟨q, n.toNat, rfl, by omega, by omega, by simpa using hb⟩
    · refine .inl ⟨1, by decide, ?_⟩
      have hb : BatchOk q cols wh pk := by simpa using hb
      unfold Qaw.f
      rw [batch_ok hb k (by omega)]
      simp only [Option.bind_some, if_true]
      rw [picked_f hb.le cols wh pk k (by omega)]
      simp only [Option.bind_some]
      rw [in_f]
      simp only [Option.bind_some]
      rw [if_pos (by simp), in_f]
      simp only [Option.bind_some]
      rw [if_neg (by simpa using hn)]
  · refine .inl ⟨c, h0, ?_⟩
    unfold Qaw.f
    rw [h1]
    simp only [Option.bind_some]
    rw [if_neg h0]
section
variable {p q : Nat} {cx cy : List S39} {kx ky : List Int}
abbrev joinV (v u : S39) (kx ky : List Int) : S39 := selV (hasV v && hasV u) v.f0 (takeV v kx ++ takeV u ky)
theorem app3 (hkx : kx.length ≤ 1000) (hky : ky.length ≤ 1000) (hsum : kx.length + ky.length ≤ 1000) (hin : ∀ x ∈ ky, 0 ≤ x ∧ x < q) (v u : S39) (hv : VV v p) (hu : VV u q) (wy : Bool) (pky : List Int) (qi n : Int) (x80 x81 : Int) (acc : List S39) (hacc : acc.length ≤ 1000) (w : Bool) (kk : Nat) (hkk : 5000 ≤ kk) (d : Nat) : ∀ i, i + d = ky.length →
    Qad.l3 (kk + d + 1) kx ky (takeV v kx ++ takeV u (ky.take i)) cx x80 x81 ky (ky.length : Int) (i : Int) qi cy wy pky n acc w v.f0 v.f1 v.f2 v.f3 v.f4 v.f5 u.f0 u.f1 u.f2 u.f3 u.f4 u.f5 =
      Qad.l1 kk kx ky cx x80 (wrap64 (x81 + 1)) qi cy wy pky n (acc ++ [joinV v u kx ky]) w := by
  induction d with
  | zero =>
    intro i hi
    simp only [Qad.l3]
    have htl : (takeV v kx ++ takeV u ky).length ≤ 1000 := by simp [takeV]; omega
    obtain ⟨h1, h2⟩ := of_sel (c := hasV v && hasV u) (a := v.f0) (fun h => hv.has (by simp only [Bool.and_eq_true] at h; exact h.1)) htl kk hkk
    rw [if_neg (by omega), List.take_of_length_le (by omega), h1, hasD_f]
    simp only [Option.bind_some]
    cases hc : hasV v with
    | true =>
      have h3 : hasD v.f4 v.f5 = true := hc
      rw [h3, if_pos rfl, hasD_f]
      simp only [Option.bind_some]
      cases hd : hasV u with
      | true =>
        have h4 : hasD u.f4 u.f5 = true := hd
        rw [h4, if_pos rfl, h2 (by rw [hc, hd]; rfl)]
        simp only [Option.bind_some]
        rw [if_pos (by omega)]
        try simp only [joinV, hc, hd]
      | false =>
        have h4 : hasD u.f4 u.f5 = false := hd
        rw [h4, if_neg (by simp), if_pos (by omega)]
        simp only [joinV, hc, hd, selV, Bool.and_false, Bool.false_eq_true, if_false]
    | false =>
      have h3 : hasD v.f4 v.f5 = false := hc
      rw [h3, if_neg (by simp), if_pos (by omega)]
      simp only [joinV, hc, selV, Bool.false_and, Bool.false_eq_true, if_false]
  | succ d ih =>
    intro i hi
    have hlt : i < ky.length := by omega
    have hx := hin ky[i] (List.getElem_mem hlt)
    have := ih (i + 1) (by omega)
    have e : takeV u (ky.take (i + 1)) = takeV u (ky.take i) ++ [(⟨(vAt u ky[i].toNat).f0, (vAt u ky[i].toNat).f1, (vAt u ky[i].toNat).f2⟩ : S41)] := by
      rw [List.take_succ_eq_append_getElem hlt]
      unfold takeV
      rw [List.map_append, List.map_cons, List.map_nil]
    rw [e, ← List.append_assoc] at this
    rw [show kk + (d + 1) + 1 = (kk + d + 1) + 1 by omega]
    simp only [Qad.l3]
    rw [if_pos (by omega), if_pos (by omega), if_pos (by omega), rd_nat _ _ hlt, at_take hu _ hx.1 hx.2]
    simp only [Option.bind_some]
    rw [if_pos (by simp [takeV]; omega), step_w i (by omega)]
    exact this
theorem app2 (hkx : kx.length ≤ 1000) (hin : ∀ x ∈ kx, 0 ≤ x ∧ x < p) (v u : S39) (hv : VV v p) (wy : Bool) (pky : List Int) (qi n : Int) (x80 x81 : Int) (acc : List S39) (w : Bool) (kk : Nat) (d : Nat) : ∀ i, i + d = kx.length →
    Qad.l2 (kk + d + 1) kx ky (takeV v (kx.take i)) cx x80 x81 kx (kx.length : Int) (i : Int) qi cy wy pky n acc w v.f0 v.f1 v.f2 v.f3 v.f4 v.f5 u.f0 u.f1 u.f2 u.f3 u.f4 u.f5 =
      Qad.l3 kk kx ky (takeV v kx) cx x80 x81 ky (ky.length : Int) 0 qi cy wy pky n acc w v.f0 v.f1 v.f2 v.f3 v.f4 v.f5 u.f0 u.f1 u.f2 u.f3 u.f4 u.f5 := by
  induction d with
  | zero =>
    intro i hi
    simp only [Qad.l2]
    rw [if_neg (by omega), List.take_of_length_le (by omega)]
  | succ d ih =>
    intro i hi
    have hlt : i < kx.length := by omega
    have hx := hin kx[i] (List.getElem_mem hlt)
    have := ih (i + 1) (by omega)
    have e : takeV v (kx.take (i + 1)) = takeV v (kx.take i) ++ [(⟨(vAt v kx[i].toNat).f0, (vAt v kx[i].toNat).f1, (vAt v kx[i].toNat).f2⟩ : S41)] := by
      rw [List.take_succ_eq_append_getElem hlt]
      unfold takeV
      rw [List.map_append, List.map_cons, List.map_nil]
    rw [e] at this
    rw [show kk + (d + 1) + 1 = (kk + d + 1) + 1 by omega]
    simp only [Qad.l2]
    rw [if_pos (by omega), if_pos (by omega), if_pos (by omega), rd_nat _ _ hlt, at_take hv _ hx.1 hx.2]
    simp only [Option.bind_some]
    rw [if_pos (by simp [takeV]; omega), step_w i (by omega)]
    exact this
theorem app1 (hkx : kx.length ≤ 1000) (hky : ky.length ≤ 1000) (hsum : kx.length + ky.length ≤ 1000) (hix : ∀ x ∈ kx, 0 ≤ x ∧ x < p) (hiy : ∀ x ∈ ky, 0 ≤ x ∧ x < q) (hc : cx.length ≤ 20) (hlen : cx.length = cy.length)
    (hvx : ∀ v ∈ cx, VV v p) (hvy : ∀ v ∈ cy, VV v q) (wy : Bool) (pky : List Int) (qi n : Int) (w : Bool) (kk : Nat) (hkk : 5000 ≤ kk) (d : Nat) : ∀ i, i + d = cx.length →
    Qad.l1 (kk + d * (kx.length + ky.length + 3) + 1) kx ky cx (cx.length : Int) (i : Int) qi cy wy pky n ((List.zipWith (fun v u => joinV v u kx ky) cx cy).take i) w =
      some (n, List.zipWith (fun v u => joinV v u kx ky) cx cy, w, [], 0) := by
  induction d with
  | zero =>
    intro i hi
    simp only [Qad.l1]
    rw [if_neg (by omega), List.take_of_length_le (by simp; omega)]
  | succ d ih =>
    intro i hi
    have hlt : i < cx.length := by omega
    have hlt2 : i < cy.length := by omega
    have hlt3 : i < (List.zipWith (fun v u => joinV v u kx ky) cx cy).length := by simp; omega
    have := ih (i + 1) (by omega)
    rw [List.take_succ_eq_append_getElem hlt3, List.getElem_zipWith] at this
    rw [show kk + (d + 1) * (kx.length + ky.length + 3) + 1 = (((kk + d * (kx.length + ky.length + 3) + 1) + ky.length + 1) + kx.length + 1) + 1 by rw [Nat.succ_mul]; omega]
    simp only [Qad.l1]
    rw [if_pos (by omega), if_pos (by omega), if_pos (by omega), if_pos (by omega), rd39 _ _ hlt, rd39 _ _ hlt2]
    have h1 := app2 (cx := cx) (cy := cy) (ky := ky) hkx hix cx[i] cy[i] (hvx _ (List.getElem_mem hlt)) wy pky qi n (cx.length : Int) (i : Int) ((List.zipWith (fun v u => joinV v u kx ky) cx cy).take i) w ((kk + d * (kx.length + ky.length + 3) + 1) + ky.length + 1) kx.length 0 (by omega)
    have h2 := app3 (cx := cx) (cy := cy) hkx hky hsum hiy cx[i] cy[i] (hvx _ (List.getElem_mem hlt)) (hvy _ (List.getElem_mem hlt2)) wy pky qi n (cx.length : Int) (i : Int) ((List.zipWith (fun v u => joinV v u kx ky) cx cy).take i) (by simp; omega) w (kk + d * (kx.length + ky.length + 3) + 1) (by omega) ky.length 0 (by omega)
    simp only [List.take_zero] at h1 h2
    rw [show takeV cx[i] [] = [] from rfl] at h1
    rw [show takeV cy[i] [] = [] from rfl, List.append_nil] at h2
    rw [show ((0 : Nat) : Int) = 0 from rfl] at h1 h2
    rw [h1, h2, step_w i (by omega)]
    exact this
theorem app0 (wx wy : Bool) (pkx pky : List Int) (hp : p ≤ 1000) (hq : q ≤ 1000) (hsum : (pick p wx pkx).length + (pick q wy pky).length ≤ 1000) (hc : cx.length ≤ 20) (hlen : cx.length = cy.length)
    (hkind : ∀ (i : Nat) (h : i < cx.length), (cx[i]).f0 = (cy[i]'(by omega)).f0) (kk : Nat) (hkk : 5000 ≤ kk) (d : Nat) : ∀ i, i + d = cx.length →
    Qad.l0 (kk + d + 1) cx (cx.length : Int) (i : Int) (p : Int) cx wx pkx (q : Int) cy wy pky =
      Qad.l1 kk (pick p wx pkx) (pick q wy pky) cx (cx.length : Int) 0 (q : Int) cy wy pky (((pick p wx pkx).length + (pick q wy pky).length : Nat) : Int) [] true := by
  induction d with
  | zero =>
    intro i hi
    simp only [Qad.l0]
    rw [if_neg (by omega), picked_f hp cx wx pkx kk (by omega), Option.bind_some, picked_f hq cy wy pky kk (by omega), Option.bind_some]
    rw [add_w _ _ hsum, if_neg (by omega)]
  | succ d ih =>
    intro i hi
    have hlt : i < cx.length := by omega
    rw [show kk + (d + 1) + 1 = (kk + d + 1) + 1 by omega]
    simp only [Qad.l0]
    rw [if_pos (by omega), if_pos (by omega), if_pos (by omega), if_pos (by omega), rd39 _ _ hlt, rd39 _ _ (by omega), if_pos (hkind i hlt), step_w i (by omega)]
    exact ih (i + 1) (by omega)
theorem Appended_ok {wx wy : Bool} {pkx pky : List Int} (hx : BatchOk p cx wx pkx) (hy : BatchOk q cy wy pky) (hsum : (pick p wx pkx).length + (pick q wy pky).length ≤ 1000) (hlen : cx.length = cy.length)
    (hkind : ∀ (i : Nat) (h : i < cx.length), (cx[i]).f0 = (cy[i]'(by omega)).f0) (k : Nat) (hk : 60000 ≤ k) :
    Qad.f k (p : Int) cx wx pkx (q : Int) cy wy pky = some ((((pick p wx pkx).length + (pick q wy pky).length : Nat) : Int), List.zipWith (fun v u => joinV v u (pick p wx pkx) (pick q wy pky)) cx cy, true, [], 0) := by
  have hc := hx.few
  obtain ⟨hlx, hix⟩ := pick_in hx
  obtain ⟨hly, hiy⟩ := pick_in hy
  have hb : cx.length * ((pick p wx pkx).length + (pick q wy pky).length + 3) ≤ 20 * 1003 := Nat.mul_le_mul hc (by omega)
  unfold Qad.f
  rw [batch_ok hx k (by omega)]
  simp only [Option.bind_some, if_true]
  rw [batch_ok hy k (by omega)]
  simp only [Option.bind_some, if_true]
  rw [if_pos (by omega)]
  have h0 := app0 (cx := cx) (cy := cy) wx wy pkx pky hx.le hy.le hsum hc hlen hkind (k - cx.length - 1) (by omega) cx.length 0 (by omega)
  have h1 := app1 (cx := cx) (cy := cy) hlx hly hsum hix hiy hc hlen hx.each hy.each wy pky (q : Int) (((pick p wx pkx).length + (pick q wy pky).length : Nat) : Int) true (k - cx.length - 1 - cx.length * ((pick p wx pkx).length + (pick q wy pky).length + 3) - 1) (by omega) cx.length 0 (by omega)
  rw [show k - cx.length - 1 + cx.length + 1 = k by omega] at h0
  rw [show k - cx.length - 1 - cx.length * ((pick p wx pkx).length + (pick q wy pky).length + 3) - 1 + cx.length * ((pick p wx pkx).length + (pick q wy pky).length + 3) + 1 = k - cx.length - 1 by omega] at h1
  rw [List.take_zero] at h1
  rw [show ((0 : Nat) : Int) = 0 from rfl] at h0 h1
  rw [h0, h1]
end
theorem nameLoop (s : ByteArray) (hs : s.size ≤ 32) (d : Nat) : ∀ (k i : Nat), i + d = s.size → 2 * d < k → ∃ b, Qau.l0 k s (s.size : Int) (i : Int) = some b := by
  induction d with
  | zero =>
    intro k i hi hk
    obtain ⟨k, rfl⟩ : ∃ m, k = m + 1 := ⟨k - 1, by omega⟩
    simp only [Qau.l0]
    rw [if_neg (by omega)]
    exact ⟨_, rfl⟩
  | succ d ih =>
    intro k i hi hk
    obtain ⟨k, rfl⟩ : ∃ m, k = m + 2 := ⟨k - 2, by omega⟩
    have hj : ∀ x, ∃ b, Qau.j2 (k + 1) s (s.size : Int) (i : Int) x = some b := by
      intro x
      simp only [Qau.j2]
      cases x with
      | true => exact ⟨_, by rw [if_pos rfl]⟩
      | false =>
        rw [if_neg (by simp), step_w i (by omega)]
        exact ih k (i + 1) (by omega) (by omega)
    simp only [Qau.l0]
    rw [if_pos (by omega), if_pos (by omega), if_pos (by omega)]
    repeat' split
    all_goals exact hj _
theorem name_ev (s : ByteArray) (k : Nat) (hk : 100 ≤ k) : ∃ b, Qau.f k s = some b := by
  obtain ⟨k, rfl⟩ : ∃ m, k = m + 1 := ⟨k - 1, by omega⟩
  unfold Qau.f
  split
  · simp only [Qau.j0, if_true]; exact ⟨_, rfl⟩
  · by_cases h : (s.size : Int) > 32
    · simp only [Qau.j0, h, decide_true, if_true]; exact ⟨_, rfl⟩
    · simp only [Qau.j0, h, decide_false, Bool.false_eq_true, if_false]
      exact nameLoop s (by omega) s.size k 0 (by omega) (by omega)
theorem colsIn (c : List S86) (hc : c.length ≤ 20) (y : List S86) (hy : y.length ≤ 20) (i : Nat) (s : ByteArray) (t : Int) (kk : Nat) (hnext : ∃ r, Qaj.l0 kk c c (c.length : Int) (wrap64 ((i : Int) + 1)) = some r) (d : Nat) : ∀ j, j + d = y.length →
    ∃ r, Qaj.l1 (kk + d + 1) c c (c.length : Int) (i : Int) y (y.length : Int) (j : Int) s t = some r := by
  induction d with
  | zero =>
    intro j hj
    simp only [Qaj.l1]
    rw [if_neg (by omega), in_f]
    simp only [Option.bind_some]
    split
    · exact hnext
    · exact ⟨_, rfl⟩
  | succ d ih =>
    intro j hj
    rw [show kk + (d + 1) + 1 = (kk + d + 1) + 1 by omega]
    simp only [Qaj.l1]
    rw [if_pos (by omega), if_pos (by omega), if_pos (by omega)]
    split
    · exact ⟨_, rfl⟩
    · rw [step_w j (by omega)]
      exact ih (j + 1) (by omega)
theorem colsOut (c : List S86) (hc : c.length ≤ 20) (d : Nat) : ∀ (k i : Nat), i + d = c.length → 100 + 30 * d < k → ∃ r, Qaj.l0 k c c (c.length : Int) (i : Int) = some r := by
  induction d with
  | zero =>
    intro k i hi hk
    obtain ⟨k, rfl⟩ : ∃ m, k = m + 1 := ⟨k - 1, by omega⟩
    simp only [Qaj.l0]
    rw [if_neg (by omega)]
    exact ⟨_, rfl⟩
  | succ d ih =>
    intro k i hi hk
    obtain ⟨k, rfl⟩ : ∃ m, k = m + 1 := ⟨k - 1, by omega⟩
    simp only [Qaj.l0]
    rw [if_pos (by omega), if_pos (by omega), if_pos (by omega)]
    obtain ⟨b, hb⟩ := name_ev (rd_T86 c (i : Int)).f0 k (by omega)
    rw [hb]
    simp only [Option.bind_some]
    split
    · rw [if_pos (by omega)]
      have hyl : (c.take (i : Int).toNat).length = i := by simp; omega
      have hn := ih (k - i - 1) (i + 1) (by omega) (by omega)
      rw [← step_w i (by omega)] at hn
      have := colsIn c hc (c.take (i : Int).toNat) (by omega) i (rd_T86 c (i : Int)).f0 (rd_T86 c (i : Int)).f1 (k - i - 1) hn i 0 (by omega)
      rwa [show k - i - 1 + i + 1 = k by omega] at this
    · exact ⟨_, rfl⟩
theorem columns_ev (c : List S86) (k : Nat) (hk : 1000 ≤ k) : ∃ t, Qaj.f k c = some t ∧ (t = 0 → c.length ≤ 20) := by
  unfold Qaj.f
  by_cases h : c.length ≤ 20
  · rw [if_neg (by omega)]
    split
    · exact ⟨_, rfl, fun _ => h⟩
    · obtain ⟨r, hr⟩ := colsOut c h c.length k 0 (by omega) (by omega)
      exact ⟨r, hr, fun _ => h⟩
  · rw [if_pos (by omega)]
    exact ⟨2, rfl, fun h => by cases h⟩
section
variable {r : Nat} {cols : List S39} {wh : Bool} {pk : List Int}
def fitK (c : List S86) (kinds : List Int) : Nat → Nat → Int
  | 0, _ => 0
  | d + 1, i => if kinds.getD i 0 = (rd_T86 c (i : Int)).f1 then fitK c kinds d (i + 1) else 10
theorem fitLoop (c : List S86) (hc : c.length = cols.length) (hf : cols.length ≤ 20) (r : Int) (wh : Bool) (pk : List Int) (kk : Nat) (d : Nat) : ∀ i, i + d = c.length →
    Qbb.l0 (kk + d + 1) c (c.length : Int) (i : Int) r cols wh pk = some (fitK c (cols.map (·.f0)) d i) := by
  induction d with
  | zero =>
    intro i hi
    simp only [Qbb.l0]
    rw [if_neg (by omega)]
    rfl
  | succ d ih =>
    intro i hi
    have hlt : i < cols.length := by omega
    rw [show kk + (d + 1) + 1 = (kk + d + 1) + 1 by omega]
    simp only [Qbb.l0]
    rw [if_pos (by omega), if_pos (by omega), if_pos (by omega), if_pos (by omega), rd39 _ _ hlt]
    have e : (cols.map (·.f0)).getD i 0 = cols[i].f0 := by simp [List.getD_eq_getElem?_getD, hlt]
    unfold fitK
    rw [e, step_w i (by omega)]
    split
    · exact ih (i + 1) (by omega)
    · rfl
theorem fits_f (h : BatchOk r cols wh pk) (c : List S86) (t : Int) (k : Nat) (hk : 9000 ≤ k) (ht : Qaj.f k c = some t) :
    Qbb.f k c (r : Int) cols wh pk = some (if t = 0 then (if c.length = (cols.map (·.f0)).length then fitK c (cols.map (·.f0)) c.length 0 else 3) else t) := by
  have hf := h.few
  unfold Qbb.f
  rw [batch_ok h k (by omega)]
  simp only [Option.bind_some, if_true]
  rw [ht]
  simp only [Option.bind_some]
  split
  · by_cases hl : c.length = cols.length
    · rw [if_pos (by omega), if_pos (by simpa using hl)]
      have := fitLoop (cols := cols) c hl hf (r : Int) wh pk (k - c.length - 1) c.length 0 (by omega)
      rwa [show k - c.length - 1 + c.length + 1 = k by omega] at this
    · rw [if_neg (by omega), if_neg (by simpa using hl)]
  · rfl
def rowV (cols : List S39) (i : Int) : List S41 := cols.map fun v => vAt v i.toNat
theorem rowLoop (h : BatchOk r cols wh pk) (i : Int) (h0 : 0 ≤ i) (hi : i < r) (kk : Nat) (d : Nat) : ∀ j, j + d = cols.length →
    Qbf.l0 (kk + d + 1) i (rowV (cols.take j) i) cols (cols.length : Int) (j : Int) = some (rowV cols i) := by
  have hf := h.few
  induction d with
  | zero =>
    intro j hj
    simp only [Qbf.l0]
    rw [if_neg (by omega), List.take_of_length_le (by omega)]
  | succ d ih =>
    intro j hj
    have hlt : j < cols.length := by omega
    have := ih (j + 1) (by omega)
    have e : rowV (cols.take (j + 1)) i = rowV (cols.take j) i ++ [(⟨(vAt cols[j] i.toNat).f0, (vAt cols[j] i.toNat).f1, (vAt cols[j] i.toNat).f2⟩ : S41)] := by
      rw [List.take_succ_eq_append_getElem hlt]
      unfold rowV
      rw [List.map_append, List.map_cons, List.map_nil]
    rw [e] at this
    rw [show kk + (d + 1) + 1 = (kk + d + 1) + 1 by omega]
    simp only [Qbf.l0]
    rw [if_pos (by omega), if_pos (by omega), if_pos (by omega), rd39 _ _ hlt, at_take (h.each _ (List.getElem_mem hlt)) i h0 hi]
    simp only [Option.bind_some]
    rw [if_pos (by simp [rowV]; omega), step_w j (by omega)]
    exact this
theorem row_f (h : BatchOk r cols wh pk) (i : Int) (h0 : 0 ≤ i) (hi : i < r) (k : Nat) (hk : 100 ≤ k) : Qbf.f k (r : Int) cols wh pk i = some (rowV cols i) := by
  have hf := h.few
  unfold Qbf.f
  have := rowLoop h i h0 hi (k - cols.length - 1) cols.length 0 (by omega)
  rw [show k - cols.length - 1 + cols.length + 1 = k by omega] at this
  exact this
def rowsV (cols : List S39) (ks : List Int) : List S89 := ks.map fun i => ⟨rowV cols i⟩
theorem tableLoop (h : BatchOk r cols wh pk) (ks : List Int) (hks : ks.length ≤ 1000) (hin : ∀ x ∈ ks, 0 ≤ x ∧ x < r) (c : List S86) (kk : Nat) (hkk : 100 ≤ kk) (d : Nat) : ∀ j, j + d = ks.length →
    Qan.l0 (kk + d + 1) ks (ks.length : Int) (j : Int) (r : Int) cols wh pk c (rowsV cols (ks.take j)) = some (c, rowsV cols ks, 0) := by
  induction d with
  | zero =>
    intro j hj
    simp only [Qan.l0]
    rw [if_neg (by omega), List.take_of_length_le (by omega)]
  | succ d ih =>
    intro j hj
    have hlt : j < ks.length := by omega
    have hx := hin ks[j] (List.getElem_mem hlt)
    have := ih (j + 1) (by omega)
    have e : rowsV cols (ks.take (j + 1)) = rowsV cols (ks.take j) ++ [(⟨rowV cols ks[j]⟩ : S89)] := by
      rw [List.take_succ_eq_append_getElem hlt]
      unfold rowsV
      rw [List.map_append, List.map_cons, List.map_nil]
    rw [e] at this
    rw [show kk + (d + 1) + 1 = (kk + d + 1) + 1 by omega]
    simp only [Qan.l0]
    rw [if_pos (by omega), if_pos (by omega), if_pos (by omega), rd_nat _ _ hlt, row_f h _ hx.1 hx.2 (kk + d + 1) (by omega)]
    simp only [Option.bind_some]
    rw [if_pos (by simp [rowsV]; omega), step_w j (by omega)]
    exact this
def tabV (c : List S86) (t : Int) (kinds : List Int) (rows : List S89) : List S86 × List S89 × Int :=
  if (if t = 0 then (if c.length = kinds.length then fitK c kinds c.length 0 else 3) else t) = 0 then (c, rows, 0)
  else ([], [], if t = 0 then (if c.length = kinds.length then fitK c kinds c.length 0 else 3) else t)
theorem TableOf_f (h : BatchOk r cols wh pk) (c : List S86) (t : Int) (k : Nat) (hk : 9000 ≤ k) (ht : Qaj.f k c = some t) (htl : t = 0 → c.length ≤ 20) :
    Qan.f k c (r : Int) cols wh pk = some (tabV c t (cols.map (·.f0)) (rowsV cols (pick r wh pk))) := by
  obtain ⟨hl, hin⟩ := pick_in h
  unfold Qan.f tabV
  rw [fits_f h c t k hk ht]
  simp only [Option.bind_some]
  by_cases h0 : (if t = 0 then (if c.length = (cols.map (·.f0)).length then fitK c (cols.map (·.f0)) c.length 0 else 3) else t) = 0
  · rw [if_pos h0, if_pos h0]
    have ht0 : t = 0 := by
      apply Classical.byContradiction
      intro h1
      rw [if_neg h1] at h0
      exact h1 h0
    have hcl := htl ht0
    unfold Qbq.f
    simp only [Option.bind_some]
    rw [if_pos (by simp; omega)]
    simp only [Option.bind_some, List.nil_append]
    rw [picked_f h.le cols wh pk k (by omega)]
    simp only [Option.bind_some]
    have := tableLoop h (pick r wh pk) hl hin c (k - (pick r wh pk).length - 1) (by omega) (pick r wh pk).length 0 (by omega)
    rw [show k - (pick r wh pk).length - 1 + (pick r wh pk).length + 1 = k by omega] at this
    exact this
  · rw [if_neg h0, if_neg h0]
end
theorem sameCols (c : List S86) (hc : c.length ≤ 1000) (d : Nat) : ∀ (k i : Nat), i + d = c.length → d < k → Qap.l0 k c c (i : Int) = some true := by
  induction d with
  | zero =>
    intro k i hi hk
    obtain ⟨k, rfl⟩ : ∃ m, k = m + 1 := ⟨k - 1, by omega⟩
    simp only [Qap.l0]; rw [if_neg (by omega)]
  | succ d ih =>
    intro k i hi hk
    obtain ⟨k, rfl⟩ : ∃ m, k = m + 1 := ⟨k - 1, by omega⟩
    simp only [Qap.l0]
    rw [if_pos (by omega), if_pos (by omega), if_pos (by omega), if_neg (by simp), step_w i (by omega)]
    exact ih k (i + 1) (by omega) (by omega)
theorem sameRow (c : List S41) (hc : c.length ≤ 1000) (d : Nat) : ∀ (k i : Nat), i + d = c.length → d < k → Qav.l0 k (i : Int) c c = some true := by
  induction d with
  | zero =>
    intro k i hi hk
    obtain ⟨k, rfl⟩ : ∃ m, k = m + 1 := ⟨k - 1, by omega⟩
    simp only [Qav.l0]; rw [if_neg (by omega)]
  | succ d ih =>
    intro k i hi hk
    obtain ⟨k, rfl⟩ : ∃ m, k = m + 1 := ⟨k - 1, by omega⟩
    simp only [Qav.l0]
    rw [if_pos (by omega), if_pos (by omega), if_pos (by omega), if_neg (by simp), step_w i (by omega)]
    exact ih k (i + 1) (by omega) (by omega)
theorem sameRows (c c' : List S86) (rs : List S89) (hr : rs.length ≤ 1000) (hrow : ∀ x ∈ rs, x.f0.length ≤ 1000) (d : Nat) : ∀ (k i : Nat), i + d = rs.length → 1001 + d < k → Qae.l0 k (i : Int) c rs c' rs = some true := by
  induction d with
  | zero =>
    intro k i hi hk
    obtain ⟨k, rfl⟩ : ∃ m, k = m + 1 := ⟨k - 1, by omega⟩
    simp only [Qae.l0]; rw [if_neg (by omega)]
  | succ d ih =>
    intro k i hi hk
    obtain ⟨k, rfl⟩ : ∃ m, k = m + 1 := ⟨k - 1, by omega⟩
    have hlt : i < rs.length := by omega
    have hl := hrow rs[i] (List.getElem_mem hlt)
    simp only [Qae.l0]
    rw [if_pos (by omega), if_pos (by omega), if_pos (by omega), rd89 _ _ hlt]
    unfold Qav.f
    rw [if_pos rfl]
    have := sameRow rs[i].f0 hl rs[i].f0.length k 0 (by omega) (by omega)
    rw [show ((0 : Nat) : Int) = 0 from rfl] at this
    rw [this]
    simp only [Option.bind_some, if_true]
    rw [step_w i (by omega)]
    exact ih k (i + 1) (by omega) (by omega)
theorem sameTable (c : List S86) (hc : c.length ≤ 1000) (rs : List S89) (hr : rs.length ≤ 1000) (hrow : ∀ x ∈ rs, x.f0.length ≤ 1000) (k : Nat) (hk : 3000 ≤ k) : Qae.f k c rs c rs = some true := by
  unfold Qae.f Qap.f
  rw [if_pos rfl]
  have := sameCols c hc c.length k 0 (by omega) (by omega)
  rw [show ((0 : Nat) : Int) = 0 from rfl] at this
  rw [this]
  simp only [Option.bind_some, if_true]
  obtain ⟨k, rfl⟩ : ∃ m, k = m + 1 := ⟨k - 1, by omega⟩
  simp only [Qae.j0]
  rw [if_neg (by simp)]
  exact sameRows c c rs hr hrow rs.length k 0 (by omega) (by omega)
theorem selB_kinds {r : Nat} {cols : List S39} {wh : Bool} {pk : List Int} (h : BatchOk r cols wh pk) (ks : List Int) (hks : ks.length ≤ 1000) (hin : ∀ x ∈ ks, 0 ≤ x ∧ x < r) : (selB cols ks).map (·.f0) = cols.map (·.f0) := by
  unfold selB
  rw [List.map_map]
  apply List.map_congr_left
  intro v hv
  have hv2 := h.each v hv
  exact (selV_ok (c := hasV v) hv2.kind hv2.has (l := takeV v ks) (by simp [takeV]; omega) (takeV_col hv2 hin)).2.1
theorem pick_range (n : Nat) (pk : List Int) : pick n true pk = (List.range n).map (fun i : Nat => (i : Int)) := by simp [pick]
theorem take_sel {v : S39} {r : Nat} (hv : VV v r) {ks : List Int} (hks : ks.length ≤ 1000) (hin : ∀ x ∈ ks, 0 ≤ x ∧ x < r) : takeV (selV (hasV v) v.f0 (takeV v ks)) (pick ks.length true []) = takeV v ks := by
  have h := (selV_ok (c := hasV v) hv.kind hv.has (l := takeV v ks) (by simp [takeV]; omega) (takeV_col hv hin)).2.2
  have hl : (takeV v ks).length = ks.length := by simp [takeV]
  rw [pick_range]
  unfold takeV at *
  rw [List.map_map]
  apply List.ext_getElem
  · simp
  · intro i h1 h2
    have := h i (by simpa using h2)
    simpa using this
theorem tabV_same (c : List S86) (t : Int) (kinds : List Int) (rows : List S89) (htl : t = 0 → c.length ≤ 20) (hrl : rows.length ≤ 1000) (hrr : ∀ x ∈ rows, x.f0.length ≤ 1000) (k : Nat) (hk : 3000 ≤ k) :
    Qae.f k (tabV c t kinds rows).1 (tabV c t kinds rows).2.1 (tabV c t kinds rows).1 (tabV c t kinds rows).2.1 = some true := by
  by_cases h0 : (if t = 0 then (if c.length = kinds.length then fitK c kinds c.length 0 else 3) else t) = 0
  · have e : tabV c t kinds rows = (c, rows, 0) := by unfold tabV; rw [if_pos h0]
    rw [e]
    have ht0 : t = 0 := by
      apply Classical.byContradiction
      intro h1
      rw [if_neg h1] at h0
      exact h1 h0
    have := htl ht0
    exact sameTable c (by omega) _ hrl hrr k hk
  · have e : tabV c t kinds rows = ([], [], if t = 0 then (if c.length = kinds.length then fitK c kinds c.length 0 else 3) else t) := by unfold tabV; rw [if_neg h0]
    rw [e]
    exact sameTable [] (by simp) [] (by simp) (by simp) k hk
theorem parts_facts {r : Nat} {cols : List S39} {wh : Bool} {pk : List Int} (h : BatchOk r cols wh pk) (n : Nat) (hn : n ≤ 1000) (c : List S86) (k : Nat) (hk : 100000 ≤ k) :
    ∃ (x1 : Int) (x2 : List S39) (x3 : Bool) (x4 : List Int) (y1 : Int) (y2 : List S39) (y3 : Bool) (y4 : List Int) (z1 : Int) (z2 : List S39) (z3 : Bool) (z4 : List Int) (p1 : Int) (p2 : List S39) (p3 : Bool) (p4 : List Int) (u : List S86) (v : List S89) (t : Int),
      Qaw.f k (r : Int) cols wh pk 0 (n : Int) = some (x1, x2, x3, x4, 0) ∧ Qaw.f k (r : Int) cols wh pk (mn (n : Int) x1) 1000 = some (y1, y2, y3, y4, 0) ∧
      Qad.f k x1 x2 x3 x4 y1 y2 y3 y4 = some (z1, z2, z3, z4, 0) ∧ Qbo.f k (r : Int) cols wh pk = some (p1, p2, p3, p4, 0) ∧
      Qan.f k c z1 z2 z3 z4 = some (u, v, t) ∧ Qan.f k c p1 p2 p3 p4 = some (u, v, t) ∧ Qae.f k u v u v = some true := by
  obtain ⟨hl, hin⟩ := pick_in h
  have hf := h.few
  obtain ⟨t, ht, htl⟩ := columns_ev c k (by omega)
  generalize hL : pick r wh pk = L at *
  have hx : ∀ x ∈ L.take n, 0 ≤ x ∧ x < r := fun x hx => hin x (List.mem_of_mem_take hx)
  have hy : ∀ x ∈ L.drop (min n L.length), 0 ≤ x ∧ x < r := fun x hx => hin x (List.mem_of_mem_drop hx)
  have hxl : (L.take n).length = min n L.length := by simp
  have hyl : (L.drop (min n L.length)).length = L.length - min n L.length := by simp
  have b1 := selB_ok h (ks := L.take n) (by omega) hx
  have b2 := selB_ok h (ks := L.drop (min n L.length)) (by omega) hy
  have b3 := selB_ok h (ks := L) hl hin
  have e1 := Sliced_ok h 0 n (by omega) hn k (by omega)
  rw [hL, List.drop_zero] at e1
  have e2 := Sliced_ok h (min n L.length) 1000 (by rw [hL]; omega) (Nat.le_refl _) k (by omega)
  rw [hL, List.take_of_length_le (l := L.drop (min n L.length)) (by omega)] at e2
  have e3 := Packed_ok h k (by omega)
  rw [hL] at e3
  have p1 : (pick (L.take n).length true []).length = (L.take n).length := by simp [pick_range]
  have p2 : (pick (L.drop (min n L.length)).length true []).length = (L.drop (min n L.length)).length := by simp [pick_range]
  have k1 := selB_kinds h (L.take n) (by omega) hx
  have k2 := selB_kinds h (L.drop (min n L.length)) (by omega) hy
  have k3 := selB_kinds h L hl hin
  have hlen : (selB cols (L.take n)).length = (selB cols (L.drop (min n L.length))).length := by simp [selB]
  have e4 := Appended_ok b1 b2 (by rw [p1, p2]; omega) hlen (fun i hi => by
    have h1 : ((selB cols (L.take n)).map (·.f0))[i]? = ((selB cols (L.drop (min n L.length))).map (·.f0))[i]? := by rw [k1, k2]
    rw [List.getElem?_map, List.getElem?_map, List.getElem?_eq_getElem hi, List.getElem?_eq_getElem (by omega)] at h1
    simpa using h1) k (by omega)
  have hz : List.zipWith (fun v u => joinV v u (pick (L.take n).length true []) (pick (L.drop (min n L.length)).length true [])) (selB cols (L.take n)) (selB cols (L.drop (min n L.length))) =
      cols.map fun v => selV (hasV (selV (hasV v) v.f0 (takeV v (L.take n))) && hasV (selV (hasV v) v.f0 (takeV v (L.drop (min n L.length))))) v.f0 (takeV v L) := by
    unfold selB
    rw [List.zipWith_map, List.zipWith_self]
    apply List.map_congr_left
    intro v hv
    have hv2 := h.each v hv
    have g1 := (selV_ok (c := hasV v) hv2.kind hv2.has (l := takeV v (L.take n)) (by simp [takeV]; omega) (takeV_col hv2 hx)).2.1
    unfold joinV
    rw [take_sel hv2 (by omega) hx, take_sel hv2 (by omega) hy, g1]
    congr 1
    unfold takeV
    rw [← List.map_append]
    congr 1
    rcases Nat.le_total n L.length with h1 | h1
    · rw [Nat.min_eq_left h1, List.take_append_drop]
    · rw [Nat.min_eq_right h1, List.drop_length, List.append_nil, List.take_of_length_le h1]
  rw [hz] at e4
  generalize hZ : (cols.map fun v => selV (hasV (selV (hasV v) v.f0 (takeV v (L.take n))) && hasV (selV (hasV v) v.f0 (takeV v (L.drop (min n L.length))))) v.f0 (takeV v L)) = Z at *
  have hzok : ∀ v ∈ cols, ∀ cc : Bool, (cc = true → v.f0 = 3) → VV (selV cc v.f0 (takeV v L)) L.length ∧ (selV cc v.f0 (takeV v L)).f0 = v.f0 ∧ ∀ (i : Nat) (hi : i < L.length), vAt (selV cc v.f0 (takeV v L)) i = vAt v (L[i]).toNat := by
    intro v hv cc hcc
    have hv2 := h.each v hv
    obtain ⟨g1, g2, g3⟩ := selV_ok hv2.kind hcc (l := takeV v L) (by simp [takeV]; omega) (takeV_col hv2 hin)
    have hl2 : (takeV v L).length = L.length := by simp [takeV]
    rw [hl2] at g1
    refine ⟨g1, g2, fun i hi => ?_⟩
    rw [g3 i (by omega)]
    simp [takeV]
  have hcc : ∀ v ∈ cols, (hasV (selV (hasV v) v.f0 (takeV v (L.take n))) && hasV (selV (hasV v) v.f0 (takeV v (L.drop (min n L.length))))) = true → v.f0 = 3 := by
    intro v hv hh
    have hv2 := h.each v hv
    simp only [Bool.and_eq_true] at hh
    obtain ⟨g1, g2, _⟩ := selV_ok (c := hasV v) hv2.kind hv2.has (l := takeV v (L.take n)) (by simp [takeV]; omega) (takeV_col hv2 hx)
    rw [← g2]
    exact g1.has hh.1
  have hsum : (pick (L.take n).length true []).length + (pick (L.drop (min n L.length)).length true []).length = L.length := by rw [p1, p2, hxl, hyl]; omega
  rw [hsum] at e4
  have bz : BatchOk L.length Z true [] := by
    refine ⟨hl, by rw [← hZ]; simpa using hf, by rw [← hZ]; simpa using h.some_, fun v hv => ?_, fun _ => rfl, fun i hi => by simp at hi, fun i hi => by simp at hi⟩
    rw [← hZ] at hv
    obtain ⟨u, hu, rfl⟩ := List.mem_map.1 hv
    exact (hzok u hu _ (hcc u hu)).1
  have kz : Z.map (·.f0) = cols.map (·.f0) := by
    rw [← hZ, List.map_map]
    apply List.map_congr_left
    intro v hv
    exact (hzok v hv _ (hcc v hv)).2.1
  have rz : rowsV Z (pick L.length true []) = rowsV (selB cols L) (pick L.length true []) := by
    unfold rowsV
    apply List.map_congr_left
    intro i hi
    rw [pick_range] at hi
    obtain ⟨j, hj, rfl⟩ := List.mem_map.1 hi
    have hj := List.mem_range.1 hj
    unfold rowV
    rw [← hZ]
    unfold selB
    rw [List.map_map, List.map_map]
    congr 1
    apply List.map_congr_left
    intro v hv
    have g1 := (hzok v hv _ (hcc v hv)).2.2 j hj
    have g2 := (hzok v hv _ (h.each v hv).has).2.2 j hj
    simp only [Function.comp, Int.toNat_natCast]
    rw [g1, g2]
  have t1 := TableOf_f bz c t k (by omega) ht htl
  have t2 := TableOf_f b3 c t k (by omega) ht htl
  rw [kz, rz] at t1
  rw [k3] at t2
  have hrl : (rowsV (selB cols L) (pick L.length true [])).length ≤ 1000 := by simp [rowsV, pick_range]; omega
  have hrr : ∀ x ∈ rowsV (selB cols L) (pick L.length true []), x.f0.length ≤ 1000 := by
    intro x hx
    obtain ⟨i, _, rfl⟩ := List.mem_map.1 hx
    simp [rowV, selB]; omega
  have hs := tabV_same c t (cols.map (·.f0)) (rowsV (selB cols L) (pick L.length true [])) htl hrl hrr k (by omega)
  have hm : mn (n : Int) ((L.take n).length : Int) = ((min n L.length : Nat) : Int) := by
    rw [hxl]; unfold mn; split <;> omega
  refine ⟨_, _, _, _, _, _, _, _, _, _, _, _, _, _, _, _, _, _, _, e1, ?_, e4, e3, t1, t2, hs⟩
  rw [hm]
  exact e2
end Go.Proofs.Ytphnmaobpefoiaa.XA
end
