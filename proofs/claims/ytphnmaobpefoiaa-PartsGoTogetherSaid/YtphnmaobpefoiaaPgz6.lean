/- A part of the proof of: PartsGoTogether: for every columns, batch and n the law's call returns true, and what came in reads as before; no condition. -/
import Derived.Test.YtphnmaobpefoiaaPgz5
set_option linter.unusedVariables false
set_option linter.unusedSimpArgs false
section
namespace Go.Proofs.Ytphnmaobpefoiaa.XA
open Go.RowKit Go.Proofs.YtphnmaobpefoiaaXW Go.Proofs.YtphnmaobpefoiaaW.PrintWords Go.Proofs.YtphnmaobpefoiaaW.PrintLast Go.Proofs.YtphnmaobpefoiaaW.PrintMore
attribute [local go_sem] max2_int min2_int max_two min_two max_three min_three max_four min_four sleq
set_option linter.unusedVariables false
set_option linter.unusedSimpArgs false
def Qad.T12 : Bool × List (List Nat × List Nat) := (true, [([], []), ([0], [0]), ([], []), ([2], [2]), ([], []), ([3, 4], [3, 4]), ([5], [5]), ([6], [6]), ([1, 7], [1, 7])])
def Qad.B12 : List Nat := [0, 1, 0, 4, 0, 28, 60, 124, 255]
theorem Qad.tab12 : rtab .any (opsOf Try.f13 12) = Qad.T12 := by kernel_rfl
theorem Qad.bits12 : waitsOk Qad.T12.2 Qad.B12 = true := by kernel_rfl
set_option maxHeartbeats 8000000 in
set_option maxRecDepth 100000 in
theorem Qad.callsZ (k : Nat) (J7 : Int) (X6 : Option Addr) (Yt : Nat) (q0 : List (S39)) (J8 : Bool) (z2 : Nat → Prop) (J9 : Option Addr) (Ja : Nat) (Qs : List Int) (Q2 : Int) (X3 : Option Addr) (Yl : Nat) (q3 : List (S39)) (Q3 : Bool) (z3 : Nat → Prop) (Zr : Option Addr) (Zs : Nat) (y8 : List Int) (r1 : Int) (r2 : List (S39)) (r3 : Bool) (r4 : List Int) (r5 : Int) (w : World) (D1 : Kd.C k39 w X6 q0.length q0) (D2 : q0.length ≤ Yt) (hs0_3 : Kd.V (Kd.int .i64) 3 w w.heap.size (fun k_ => z2 k_) (.slice J9 Qs.length Ja) Qs) (D3 : Kd.C k39 w X3 q3.length q3) (D4 : q3.length ≤ Yl) (hs1_3 : Kd.V (Kd.int .i64) 3 w w.heap.size (fun k_ => z3 k_) (.slice Zr y8.length Zs) y8) (h : Qad.f k J7 q0 J8 Qs Q2 q3 Q3 y8 = some (r1, r2, r3, r4, r5)) (hz : r5 = 0) :
  Calls Try.prog 13 #[.agg #[.int .i64 J7, .slice X6 q0.length Yt, .bool J8, .slice J9 Qs.length Ja], .agg #[.int .i64 Q2, .slice X3 q3.length Yl, .bool Q3, .slice Zr y8.length Zs]] w fun e w' => ∃ v1_ v3_ : Value, e = .returned (.tuple #[.agg #[.int .i64 r1, v1_, .bool r3, v3_], .int .i64 r5]) ∧ Kd.N k39 39 w' w.heap.size (fun k_ => ((z2 k_ ∨ z3 k_) ∨ w.heap.size ≤ k_) ∧ some k_ ≠ (v3_ : Value).ownBlock) v1_ r2 ∧ Kd.R (Kd.int .i64) 3 w' w.heap.size (fun k_ => (w.heap.size ≤ k_)) v3_ r4 ∧ Below w.heap.size w w' := by
 have hu26 := Try.underlying26
 have hu39 := Try.underlying39
 have Vl := Qaa.mk D1
 have D5 := Qaa.mk D2
 clear D1 D2
 have Jj := Qaa.mk (show Kd.V (Kd.int .i64) 3 w w.heap.size (fun k_ => ((z2 k_ ∨ z3 k_) ∨ w.heap.size ≤ k_)) (.slice J9 Qs.length Ja) Qs from Kd.V_mono hs0_3 (fun k_ hk => .inl (.inl hk)))
 have Vn := Qaa.mk D3
 have D6 := Qaa.mk D4
 clear D3 D4
 have Jk := Qaa.mk (show Kd.V (Kd.int .i64) 3 w w.heap.size (fun k_ => ((z2 k_ ∨ z3 k_) ∨ w.heap.size ≤ k_)) (.slice Zr y8.length Zs) y8 from Kd.V_mono hs1_3 (fun k_ hk => .inl (.inr hk)))
 have HB := Qaa.mk (Below.refl w.heap.size w)
 have H : ((Qac.f k J7 q0 J8 Qs).bind fun X4 => (if X4 = 0 then ((Qac.f k Q2 q3 Q3 y8).bind fun Ym => (if Ym = 0 then (if (q0.length : Int) = (q3.length : Int) then (Qad.l0 k q0 (q0.length : Int) 0 J7 q0 J8 Qs Q2 q3 Q3 y8) else (some (0, ([] : List (S39)), false, ([] : List Int), 3))) else (some (0, ([] : List (S39)), false, ([] : List Int), Ym)))) else (some (0, ([] : List (S39)), false, ([] : List Int), X4)))) = some (r1, r2, r3, r4, r5) := h
 clear h
 replace H := Option.bind_eq_some_iff.mp H
 obtain ⟨X4, A30, H⟩ := H
 replace H : (if X4 = 0 then ((Qac.f k Q2 q3 Q3 y8).bind fun Ym => (if Ym = 0 then (if (q0.length : Int) = (q3.length : Int) then (Qad.l0 k q0 (q0.length : Int) 0 J7 q0 J8 Qs Q2 q3 Q3 y8) else (some (0, ([] : List (S39)), false, ([] : List Int), 3))) else (some (0, ([] : List (S39)), false, ([] : List Int), Ym)))) else (some (0, ([] : List (S39)), false, ([] : List Int), X4))) = some (r1, r2, r3, r4, r5) := H
 have A3 := Qaa.mk A30
 clear A30
 by_cases c4 : X4 = 0
 ·
  rw [if_pos c4] at H
  have q0s : (X4 == 0) = true := beq_iff_eq.mpr c4
  have q0t : (X4 != 0) = false := bne_eq_false_iff_eq.mpr c4
  clear c4
  replace H := Option.bind_eq_some_iff.mp H
  obtain ⟨Ym, A50, H⟩ := H
  replace H : (if Ym = 0 then (if (q0.length : Int) = (q3.length : Int) then (Qad.l0 k q0 (q0.length : Int) 0 J7 q0 J8 Qs Q2 q3 Q3 y8) else (some (0, ([] : List (S39)), false, ([] : List Int), 3))) else (some (0, ([] : List (S39)), false, ([] : List Int), Ym))) = some (r1, r2, r3, r4, r5) := H
  have A5 := Qaa.mk A50
  clear A50
  by_cases c6 : Ym = 0
  ·
   rw [if_pos c6] at H
   have q0u : (Ym == 0) = true := beq_iff_eq.mpr c6
   have q0v : (Ym != 0) = false := bne_eq_false_iff_eq.mpr c6
   clear c6
   by_cases c7 : (q0.length : Int) = (q3.length : Int)
   ·
    rw [if_pos c7] at H
    have q0w : ((q0.length : Int) == (q3.length : Int)) = true := beq_iff_eq.mpr c7
    have q0x : ((q0.length : Int) != (q3.length : Int)) = false := bne_eq_false_iff_eq.mpr c7
    have q0y : (q0.length == q3.length) = true := by first | simpa using c7 | (simp at c7 ⊢; omega)
    clear c7
    have H' := Qaa.mk H
    clear H
    go_enter Try.func13, Try.ntmps13
    go_wp2_with (first | ((with_reducible refine gate_dst (N := 2) rfl ?_); refine bx 2 #[.int .i64 J7, .slice X6 q0.length Yt, .bool J8, .slice J9 Qs.length Ja] 26 ?_; intro j5 hg w8 hbox hb; have q4 := Qaa.mk (hbox); have qk1 := Qaa.mk ((by rw [hg]; exact (below_size (bl HB)) : w.heap.size ≤ j5)); have qk2 := Qaa.mk ((by rw [hg]; exact (below_size (bl HB)) : w.heap.size ≤ j5)); replace Jj := Qaa.mk (Kd.V_below (Kd.V_elderB (V_u Jj.out) j5 (Nat.le_of_eq hg.symm)) hb); replace Jk := Qaa.mk (Kd.V_below (Kd.V_elderB (V_u Jk.out) j5 (Nat.le_of_eq hg.symm)) hb); replace HB := bs HB hb; clear hb hbox hg) | ((with_reducible refine gate_dst (N := 3) rfl ?_); refine bx 3 #[.int .i64 Q2, .slice X3 q3.length Yl, .bool Q3, .slice Zr y8.length Zs] 26 ?_; intro j3 hg w9 hbox hb; have q5 := Qaa.mk (hbox); have qk3 := Qaa.mk ((by rw [hg]; exact (below_size (bl HB)) : w.heap.size ≤ j3)); have qk4 := Qaa.mk ((by rw [hg]; exact (below_size (bl HB)) : w.heap.size ≤ j3)); have X7 := Qaa.mk ((by rw [hg]; exact Nat.ne_of_lt (blk_lt (Ub q4)) : j5 ≠ j3)); have X8 := Qaa.mk ((by rw [hg]; exact Nat.ne_of_gt (blk_lt (Ub q4)) : j3 ≠ j5)); replace Jj := Qaa.mk (Kd.V_below (Kd.V_elderB (V_u Jj.out) j3 (Nat.le_of_eq hg.symm)) hb); replace Jk := Qaa.mk (Kd.V_below (Kd.V_elderB (V_u Jk.out) j3 (Nat.le_of_eq hg.symm)) hb); replace q4 := Bb q4 hb; replace HB := bs HB hb; clear hb hbox hg) | ((with_reducible refine gate_dst (N := 4) rfl ?_); refine bx 4 #[.int .i64 0, .slice none 0 0, .bool false, .slice none 0 0] 26 ?_; intro j4 hg w10 hbox hb; have j0 := Qaa.mk (hbox); have qk5 := Qaa.mk ((by rw [hg]; exact (below_size (bl HB)) : w.heap.size ≤ j4)); have qk6 := Qaa.mk ((by rw [hg]; exact (below_size (bl HB)) : w.heap.size ≤ j4)); have X9 := Qaa.mk ((by rw [hg]; exact Nat.ne_of_lt (blk_lt (Ub q4)) : j5 ≠ j4)); have Xa := Qaa.mk ((by rw [hg]; exact Nat.ne_of_gt (blk_lt (Ub q4)) : j4 ≠ j5)); have Xb := Qaa.mk ((by rw [hg]; exact Nat.ne_of_lt (blk_lt (Ub q5)) : j3 ≠ j4)); have Xc := Qaa.mk ((by rw [hg]; exact Nat.ne_of_gt (blk_lt (Ub q5)) : j4 ≠ j3)); replace Jj := Qaa.mk (Kd.V_below (Kd.V_elderB (V_u Jj.out) j4 (Nat.le_of_eq hg.symm)) hb); replace Jk := Qaa.mk (Kd.V_below (Kd.V_elderB (V_u Jk.out) j4 (Nat.le_of_eq hg.symm)) hb); replace q4 := Bb q4 hb; replace q5 := Bb q5 hb; replace HB := bs HB hb; clear hb hbox hg; have qk7 := X7.out; have qk8 := X8.out; have qk9 := X9.out; have ql0 := Xa.out; obtain ⟨Dl, Dm, Dn, Do, Dp, Dq, Dr, Ds⟩ := cf4 q4) | ((with_reducible refine gate_callee (f := 34) rfl ?_); refine gL (some 23) Try.func34 #[.agg #[.int .i64 J7, .slice X6 q0.length Yt, .bool J8, .slice J9 Qs.length Ja]] ?_; (with_reducible refine (Qac.calls k J7 _ _ q0 J8 _ _ Qs X4 _ ?side1 ?side2 ?side3 ?side4 A3.out).mono ?_); (case side1 => exact Cb Vl HB); (case side2 => exact D5.out); (case side3 => exact Cu (Kd.V_reads' Jj.out).2.2); (case side4 => exact (Kd.V_reads' Jj.out).2.1); rintro e w14 ⟨rfl, hb⟩; refine ⟨_, rfl, ?_⟩; replace Jj := Qaa.mk (Kd.V_below (V_u Jj.out) hb); replace Jk := Qaa.mk (Kd.V_below (V_u Jk.out) hb); replace q4 := Bb q4 hb; replace q5 := Bb q5 hb; replace j0 := Bb j0 hb; replace HB := bs HB hb; (try clear hb); have ql1 := Xb.out; have ql2 := Xc.out; obtain ⟨Dt, Du, Dv, Dw, Dx, Dy, Dz, K0⟩ := cf4 q5) | ((with_reducible refine gate_callee (f := 34) rfl ?_); refine gL (some 29) Try.func34 #[.agg #[.int .i64 Q2, .slice X3 q3.length Yl, .bool Q3, .slice Zr y8.length Zs]] ?_; (with_reducible refine (Qac.calls k Q2 _ _ q3 Q3 _ _ y8 Ym _ ?side1 ?side2 ?side3 ?side4 A5.out).mono ?_); (case side1 => exact Cb Vn HB); (case side2 => exact D6.out); (case side3 => exact Cu (Kd.V_reads' Jk.out).2.2); (case side4 => exact (Kd.V_reads' Jk.out).2.1); rintro e w17 ⟨rfl, hb⟩; refine ⟨_, rfl, ?_⟩; replace Jj := Qaa.mk (Kd.V_below (V_u Jj.out) hb); replace Jk := Qaa.mk (Kd.V_below (V_u Jk.out) hb); replace q4 := Bb q4 hb; replace q5 := Bb q5 hb; replace j0 := Bb j0 hb; replace HB := bs HB hb; (try clear hb); obtain ⟨K1, K2, K3, K4, K5, K6, K7, K8⟩ := cf4 q4; obtain ⟨K9, Ka, Kb, Kc, Ke, Kf, Kg, Kh⟩ := cf4 q5))
    go_loopg [45] k (fun kq v45 w' => ∃ (x45_1 : Int) (Zq : Int) (Za : Bool), v45 = .int .i64 x45_1 ∧ Qaa (Qad.l0 kq q0 (q0.length : Int) x45_1 J7 q0 J8 Qs Q2 q3 Q3 y8 = some (r1, r2, r3, r4, r5)) ∧ Qaa (kq ≤ k) ∧ Qaa (Kd.V (Kd.int .i64) 3 w' w.heap.size (fun k_ => ((z2 k_ ∨ z3 k_) ∨ w.heap.size ≤ k_) ∧ k_ ≠ j5 ∧ k_ ≠ j3 ∧ k_ ≠ j4) (.slice J9 Qs.length Ja) Qs) ∧ Qaa (Kd.V (Kd.int .i64) 3 w' w.heap.size (fun k_ => ((z2 k_ ∨ z3 k_) ∨ w.heap.size ≤ k_) ∧ k_ ≠ j5 ∧ k_ ≠ j3 ∧ k_ ≠ j4) (.slice Zr y8.length Zs) y8) ∧ Qaa (w'.heap[j5]? = some (.cells #[.int .i64 J7, (.slice X6 q0.length Yt), .bool J8, (.slice J9 Qs.length Ja)] 26 (0, 0))) ∧ Qaa (w'.heap[j3]? = some (.cells #[.int .i64 Q2, (.slice X3 q3.length Yl), .bool Q3, (.slice Zr y8.length Zs)] 26 (0, 0))) ∧ Qaa (w'.heap[j4]? = some (.cells #[.int .i64 Zq, (.slice none 0 0), .bool Za, (.slice none 0 0)] 26 (0, 0))) ∧ Qaa (Below w.heap.size w w'))
    case atStart => exact ⟨(0), (0), (false), (by first | rfl | (simp; done) | (simp [*]; done)), H', ⟨Nat.le_refl _⟩, ⟨by apply V_u; exact Vm Jj.out⟩, ⟨by apply V_u; exact Vm Jk.out⟩, ⟨by apply blk_u; exact q4.out⟩, ⟨by apply blk_u; exact q5.out⟩, ⟨by apply blk_u; exact j0.out⟩, ⟨bl HB⟩⟩
    case round =>
     clear H'
     try clear c1
     try clear p2
     try clear c3
     try clear c4
     try clear q0s
     try clear q0t
     try clear c6
     try clear q0u
     try clear q0v
     try clear c7
     try clear q0w
     try clear q0x
     try clear q0y
     try clear c11
     try clear c12
     try clear c13
     try clear c15
     try clear Dl
     try clear Dm
     try clear Dn
     try clear Do
     try clear Dt
     try clear Du
     try clear Dv
     try clear Dw
     try clear K1
     try clear K2
     try clear K3
     try clear K4
     try clear K9
     try clear Ka
     try clear Kb
     try clear Kc
     try clear Dp
     try clear Dq
     try clear Dr
     try clear Ds
     try clear Dx
     try clear Dy
     try clear Dz
     try clear K0
     try clear K5
     try clear K6
     try clear K7
     try clear K8
     try clear Ke
     try clear Kf
     try clear Kg
     try clear Kh
     obtain ⟨x45_1, Zq, Za, rfl, HA, HK1, j1, j2, q4, q5, j0, HB⟩ := hrel
     cases gk with
     | zero => exact absurd HA.out (by simp [Qad.l0])
     | succ k1 =>
      have H := HA.out
      clear HA
      simp only [Qad.l0] at H
      by_cases c20 : x45_1 < (q0.length : Int)
      ·
       rw [if_pos c20] at H
       have Vo : decide (x45_1 < (q0.length : Int)) = true := decide_eq_true c20
       clear c20
       by_cases c21 : 0 ≤ x45_1
       ·
        rw [if_pos c21] at H
        have ql3 : decide (0 ≤ x45_1) = true := decide_eq_true c21
        clear c21
        by_cases c22 : x45_1 < (q0.length : Int)
        ·
         rw [if_pos c22] at H
         have ql4 : decide (x45_1 < (q0.length : Int)) = true := decide_eq_true c22
         clear c22
         by_cases c23 : x45_1 < (q3.length : Int)
         ·
          rw [if_pos c23] at H
          have ql5 : decide (x45_1 < (q3.length : Int)) = true := decide_eq_true c23
          clear c23
          by_cases c24 : ((rd_T39 q0 x45_1).f0) = ((rd_T39 q3 x45_1).f0)
          ·
           rw [if_pos c24] at H
           have Fj : (((rd_T39 q0 x45_1).f0) == ((rd_T39 q3 x45_1).f0)) = true := beq_iff_eq.mpr c24
           have Fk : (((rd_T39 q0 x45_1).f0) != ((rd_T39 q3 x45_1).f0)) = false := bne_eq_false_iff_eq.mpr c24
           clear c24
           have H' := Qaa.mk H
           clear H
           have p721 : 0 ≤ (x45_1 : Int) := of_decide_eq_true (by first | (with_reducible assumption) | assumption)
           have q721 : x45_1 < (q0.length : Int) := of_decide_eq_true (by first | (with_reducible assumption) | assumption)
           obtain ⟨ad721, Z7, Z8, Ze, Zf, Zk, Zl, Zm, Zn, Zt, Zu, e721, Yn, Yo, Yp, Yq, Yr, Ys, hl721_1, hi721_1, hl721_2, hi721_2, hl721_3, hi721_3, hl721_4, hi721_4, hl721_5, hi721_5⟩ := at_T39 Vl.out x45_1 p721 q721
           cases e721
           replace Yn := (HB.out.cell (World.block_lt_of_cell? w _ Yn)).trans Yn
           replace Yo := (HB.out.cell (World.block_lt_of_cell? w _ Yo)).trans Yo
           replace Yp := (HB.out.cell (World.block_lt_of_cell? w _ Yp)).trans Yp
           replace Yq := (HB.out.cell (World.block_lt_of_cell? w _ Yq)).trans Yq
           replace Yr := (HB.out.cell (World.block_lt_of_cell? w _ Yr)).trans Yr
           replace Ys := (HB.out.cell (World.block_lt_of_cell? w _ Ys)).trans Ys
           have q8l := Qaa.mk hi721_1
           have q8m := Qaa.mk hl721_1
           clear hi721_1 hl721_1
           have q8n := Qaa.mk hi721_2
           have q8o := Qaa.mk hl721_2
           clear hi721_2 hl721_2
           have q8p := Qaa.mk hi721_3
           have q8q := Qaa.mk hl721_3
           clear hi721_3 hl721_3
           have q8r := Qaa.mk hi721_4
           have q8s := Qaa.mk hl721_4
           clear hi721_4 hl721_4
           have q8t := Qaa.mk hi721_5
           have q8u := Qaa.mk hl721_5
           clear hi721_5 hl721_5
           replace p721 := eq_true p721
           replace q721 := eq_true q721
           try go_wp2_with (first | ((with_reducible refine gate_dst (N := 9) rfl ?_); refine bx 9 #[.int .i64 0, .slice none 0 0, .slice none 0 0, .slice none 0 0, .slice none 0 0, .slice none 0 0] 39 ?_; intro z6 hg w25 hbox hb; have Jl := Qaa.mk (hbox); have ql6 := Qaa.mk ((by rw [hg]; exact (below_size (bl HB)) : w.heap.size ≤ z6)); have ql7 := Qaa.mk ((by rw [hg]; exact (below_size (bl HB)) : w.heap.size ≤ z6)); have Je := Qaa.mk ((by rw [hg]; exact Nat.ne_of_lt (blk_lt (Ub q4)) : j5 ≠ z6)); have Fw := Qaa.mk ((by rw [hg]; exact Nat.ne_of_gt (blk_lt (Ub q4)) : z6 ≠ j5)); have Jf := Qaa.mk ((by rw [hg]; exact Nat.ne_of_lt (blk_lt (Ub q5)) : j3 ≠ z6)); have Fx := Qaa.mk ((by rw [hg]; exact Nat.ne_of_gt (blk_lt (Ub q5)) : z6 ≠ j3)); have Jg := Qaa.mk ((by rw [hg]; exact Nat.ne_of_lt (blk_lt (Ub j0)) : j4 ≠ z6)); have Fy := Qaa.mk ((by rw [hg]; exact Nat.ne_of_gt (blk_lt (Ub j0)) : z6 ≠ j4)); replace j1 := Qaa.mk (Kd.V_below (Kd.V_elderB (V_u j1.out) z6 (Nat.le_of_eq hg.symm)) hb); replace j2 := Qaa.mk (Kd.V_below (Kd.V_elderB (V_u j2.out) z6 (Nat.le_of_eq hg.symm)) hb); replace q4 := Bb q4 hb; replace q5 := Bb q5 hb; replace j0 := Bb j0 hb; replace HB := bs HB hb; clear hb hbox hg; have ql8 := Fw.out; have ql9 := Je.out; have qm0 := Fx.out; have qm1 := Jf.out; have qm2 := Fy.out; have qm3 := Jg.out; obtain ⟨q8v, q8w, q8x, q8y, q8z, q90, q91, q92, q93, q94, q95, q96⟩ := cf6 Jl))
           have n0_ : Qaa (Kd.V (Kd.int .i64) 3 ((((((w25.setCell ⟨z6, 0, none⟩ (.int .i64 ((rd_T39 q0 x45_1).f0))).setCell ⟨z6, 1, none⟩ (.slice Z7 ((rd_T39 q0 x45_1).f1).length Z8)).setCell ⟨z6, 2, none⟩ (.slice Ze ((rd_T39 q0 x45_1).f2).length Zf)).setCell ⟨z6, 3, none⟩ (.slice Zk ((rd_T39 q0 x45_1).f3).length Zl)).setCell ⟨z6, 4, none⟩ (.slice Zm ((rd_T39 q0 x45_1).f4).length Zn)).setCell ⟨z6, 5, none⟩ (.slice Zt ((rd_T39 q0 x45_1).f5).length Zu)) w.heap.size (fun k_ => ((z2 k_ ∨ z3 k_) ∨ w.heap.size ≤ k_) ∧ k_ ≠ j5 ∧ k_ ≠ j3 ∧ k_ ≠ j4 ∧ k_ ≠ z6) (.slice J9 Qs.length Ja) Qs) := ⟨by apply V_u; exact Vm (Kd.V_far (p := ⟨z6, 5, none⟩) (Kd.V_far (p := ⟨z6, 4, none⟩) (Kd.V_far (p := ⟨z6, 3, none⟩) (Kd.V_far (p := ⟨z6, 2, none⟩) (Kd.V_far (p := ⟨z6, 1, none⟩) (Kd.V_far (p := ⟨z6, 0, none⟩) (Kd.V_mono j1.out (fun k_ hk => (⟨hk, hk.2⟩ : _ ∧ k_ ≠ z6))) (fun _ hk => hk.2) (.int .i64 ((rd_T39 q0 x45_1).f0))) (fun _ hk => hk.2) (.slice Z7 ((rd_T39 q0 x45_1).f1).length Z8)) (fun _ hk => hk.2) (.slice Ze ((rd_T39 q0 x45_1).f2).length Zf)) (fun _ hk => hk.2) (.slice Zk ((rd_T39 q0 x45_1).f3).length Zl)) (fun _ hk => hk.2) (.slice Zm ((rd_T39 q0 x45_1).f4).length Zn)) (fun _ hk => hk.2) (.slice Zt ((rd_T39 q0 x45_1).f5).length Zu))⟩
           have n1_ : Qaa (Kd.V (Kd.int .i64) 3 ((((((w25.setCell ⟨z6, 0, none⟩ (.int .i64 ((rd_T39 q0 x45_1).f0))).setCell ⟨z6, 1, none⟩ (.slice Z7 ((rd_T39 q0 x45_1).f1).length Z8)).setCell ⟨z6, 2, none⟩ (.slice Ze ((rd_T39 q0 x45_1).f2).length Zf)).setCell ⟨z6, 3, none⟩ (.slice Zk ((rd_T39 q0 x45_1).f3).length Zl)).setCell ⟨z6, 4, none⟩ (.slice Zm ((rd_T39 q0 x45_1).f4).length Zn)).setCell ⟨z6, 5, none⟩ (.slice Zt ((rd_T39 q0 x45_1).f5).length Zu)) w.heap.size (fun k_ => ((z2 k_ ∨ z3 k_) ∨ w.heap.size ≤ k_) ∧ k_ ≠ j5 ∧ k_ ≠ j3 ∧ k_ ≠ j4 ∧ k_ ≠ z6) (.slice Zr y8.length Zs) y8) := ⟨by apply V_u; exact Vm (Kd.V_far (p := ⟨z6, 5, none⟩) (Kd.V_far (p := ⟨z6, 4, none⟩) (Kd.V_far (p := ⟨z6, 3, none⟩) (Kd.V_far (p := ⟨z6, 2, none⟩) (Kd.V_far (p := ⟨z6, 1, none⟩) (Kd.V_far (p := ⟨z6, 0, none⟩) (Kd.V_mono j2.out (fun k_ hk => (⟨hk, hk.2⟩ : _ ∧ k_ ≠ z6))) (fun _ hk => hk.2) (.int .i64 ((rd_T39 q0 x45_1).f0))) (fun _ hk => hk.2) (.slice Z7 ((rd_T39 q0 x45_1).f1).length Z8)) (fun _ hk => hk.2) (.slice Ze ((rd_T39 q0 x45_1).f2).length Zf)) (fun _ hk => hk.2) (.slice Zk ((rd_T39 q0 x45_1).f3).length Zl)) (fun _ hk => hk.2) (.slice Zm ((rd_T39 q0 x45_1).f4).length Zn)) (fun _ hk => hk.2) (.slice Zt ((rd_T39 q0 x45_1).f5).length Zu))⟩
           have n2_ : Qaa (((((((w25.setCell ⟨z6, 0, none⟩ (.int .i64 ((rd_T39 q0 x45_1).f0))).setCell ⟨z6, 1, none⟩ (.slice Z7 ((rd_T39 q0 x45_1).f1).length Z8)).setCell ⟨z6, 2, none⟩ (.slice Ze ((rd_T39 q0 x45_1).f2).length Zf)).setCell ⟨z6, 3, none⟩ (.slice Zk ((rd_T39 q0 x45_1).f3).length Zl)).setCell ⟨z6, 4, none⟩ (.slice Zm ((rd_T39 q0 x45_1).f4).length Zn)).setCell ⟨z6, 5, none⟩ (.slice Zt ((rd_T39 q0 x45_1).f5).length Zu)).heap[j5]? = some (.cells #[.int .i64 J7, .slice (some ad721) q0.length Yt, .bool J8, .slice J9 Qs.length Ja] 26 (0, 0))) := ⟨by apply blk_u; refine blk_far ?_ Je.out _; apply blk_u; refine blk_far ?_ Je.out _; apply blk_u; refine blk_far ?_ Je.out _; apply blk_u; refine blk_far ?_ Je.out _; apply blk_u; refine blk_far ?_ Je.out _; apply blk_u; refine blk_far ?_ Je.out _; apply blk_u; exact q4.out⟩
           have n3_ : Qaa (((((((w25.setCell ⟨z6, 0, none⟩ (.int .i64 ((rd_T39 q0 x45_1).f0))).setCell ⟨z6, 1, none⟩ (.slice Z7 ((rd_T39 q0 x45_1).f1).length Z8)).setCell ⟨z6, 2, none⟩ (.slice Ze ((rd_T39 q0 x45_1).f2).length Zf)).setCell ⟨z6, 3, none⟩ (.slice Zk ((rd_T39 q0 x45_1).f3).length Zl)).setCell ⟨z6, 4, none⟩ (.slice Zm ((rd_T39 q0 x45_1).f4).length Zn)).setCell ⟨z6, 5, none⟩ (.slice Zt ((rd_T39 q0 x45_1).f5).length Zu)).heap[j3]? = some (.cells #[.int .i64 Q2, .slice X3 q3.length Yl, .bool Q3, .slice Zr y8.length Zs] 26 (0, 0))) := ⟨by apply blk_u; refine blk_far ?_ Jf.out _; apply blk_u; refine blk_far ?_ Jf.out _; apply blk_u; refine blk_far ?_ Jf.out _; apply blk_u; refine blk_far ?_ Jf.out _; apply blk_u; refine blk_far ?_ Jf.out _; apply blk_u; refine blk_far ?_ Jf.out _; apply blk_u; exact q5.out⟩
           have n4_ : Qaa (((((((w25.setCell ⟨z6, 0, none⟩ (.int .i64 ((rd_T39 q0 x45_1).f0))).setCell ⟨z6, 1, none⟩ (.slice Z7 ((rd_T39 q0 x45_1).f1).length Z8)).setCell ⟨z6, 2, none⟩ (.slice Ze ((rd_T39 q0 x45_1).f2).length Zf)).setCell ⟨z6, 3, none⟩ (.slice Zk ((rd_T39 q0 x45_1).f3).length Zl)).setCell ⟨z6, 4, none⟩ (.slice Zm ((rd_T39 q0 x45_1).f4).length Zn)).setCell ⟨z6, 5, none⟩ (.slice Zt ((rd_T39 q0 x45_1).f5).length Zu)).heap[j4]? = some (.cells #[.int .i64 Zq, .slice none 0 0, .bool Za, .slice none 0 0] 26 (0, 0))) := ⟨by apply blk_u; refine blk_far ?_ Jg.out _; apply blk_u; refine blk_far ?_ Jg.out _; apply blk_u; refine blk_far ?_ Jg.out _; apply blk_u; refine blk_far ?_ Jg.out _; apply blk_u; refine blk_far ?_ Jg.out _; apply blk_u; refine blk_far ?_ Jg.out _; apply blk_u; exact j0.out⟩
           have n5_ : Qaa (((((((w25.setCell ⟨z6, 0, none⟩ (.int .i64 ((rd_T39 q0 x45_1).f0))).setCell ⟨z6, 1, none⟩ (.slice Z7 ((rd_T39 q0 x45_1).f1).length Z8)).setCell ⟨z6, 2, none⟩ (.slice Ze ((rd_T39 q0 x45_1).f2).length Zf)).setCell ⟨z6, 3, none⟩ (.slice Zk ((rd_T39 q0 x45_1).f3).length Zl)).setCell ⟨z6, 4, none⟩ (.slice Zm ((rd_T39 q0 x45_1).f4).length Zn)).setCell ⟨z6, 5, none⟩ (.slice Zt ((rd_T39 q0 x45_1).f5).length Zu)).heap[z6]? = some (.cells #[.int .i64 ((rd_T39 q0 x45_1).f0), .slice Z7 ((rd_T39 q0 x45_1).f1).length Z8, .slice Ze ((rd_T39 q0 x45_1).f2).length Zf, .slice Zk ((rd_T39 q0 x45_1).f3).length Zl, .slice Zm ((rd_T39 q0 x45_1).f4).length Zn, .slice Zt ((rd_T39 q0 x45_1).f5).length Zu] 39 (0, 0))) := ⟨by apply blk_u; refine blk_put (cs := #[.int .i64 ((rd_T39 q0 x45_1).f0), .slice Z7 ((rd_T39 q0 x45_1).f1).length Z8, .slice Ze ((rd_T39 q0 x45_1).f2).length Zf, .slice Zk ((rd_T39 q0 x45_1).f3).length Zl, .slice Zm ((rd_T39 q0 x45_1).f4).length Zn, .slice none 0 0]) ?_ 5 _ rfl; apply blk_u; refine blk_put (cs := #[.int .i64 ((rd_T39 q0 x45_1).f0), .slice Z7 ((rd_T39 q0 x45_1).f1).length Z8, .slice Ze ((rd_T39 q0 x45_1).f2).length Zf, .slice Zk ((rd_T39 q0 x45_1).f3).length Zl, .slice none 0 0, .slice none 0 0]) ?_ 4 _ rfl; apply blk_u; refine blk_put (cs := #[.int .i64 ((rd_T39 q0 x45_1).f0), .slice Z7 ((rd_T39 q0 x45_1).f1).length Z8, .slice Ze ((rd_T39 q0 x45_1).f2).length Zf, .slice none 0 0, .slice none 0 0, .slice none 0 0]) ?_ 3 _ rfl; apply blk_u; refine blk_put (cs := #[.int .i64 ((rd_T39 q0 x45_1).f0), .slice Z7 ((rd_T39 q0 x45_1).f1).length Z8, .slice none 0 0, .slice none 0 0, .slice none 0 0, .slice none 0 0]) ?_ 2 _ rfl; apply blk_u; refine blk_put (cs := #[.int .i64 ((rd_T39 q0 x45_1).f0), .slice none 0 0, .slice none 0 0, .slice none 0 0, .slice none 0 0, .slice none 0 0]) ?_ 1 _ rfl; apply blk_u; refine blk_put (cs := #[.int .i64 0, .slice none 0 0, .slice none 0 0, .slice none 0 0, .slice none 0 0, .slice none 0 0]) ?_ 0 _ rfl; apply blk_u; exact Jl.out⟩
           have n6_ : Qaa (Below w.heap.size w ((((((w25.setCell ⟨z6, 0, none⟩ (.int .i64 ((rd_T39 q0 x45_1).f0))).setCell ⟨z6, 1, none⟩ (.slice Z7 ((rd_T39 q0 x45_1).f1).length Z8)).setCell ⟨z6, 2, none⟩ (.slice Ze ((rd_T39 q0 x45_1).f2).length Zf)).setCell ⟨z6, 3, none⟩ (.slice Zk ((rd_T39 q0 x45_1).f3).length Zl)).setCell ⟨z6, 4, none⟩ (.slice Zm ((rd_T39 q0 x45_1).f4).length Zn)).setCell ⟨z6, 5, none⟩ (.slice Zt ((rd_T39 q0 x45_1).f5).length Zu))) := ⟨bl HB⟩
           (try clear j1)
           (try clear j2)
           (try clear q4)
           (try clear q5)
           (try clear j0)
           (try clear Jl)
           (try clear HB)
           generalize ((((((w25.setCell ⟨z6, 0, none⟩ (.int .i64 ((rd_T39 q0 x45_1).f0))).setCell ⟨z6, 1, none⟩ (.slice Z7 ((rd_T39 q0 x45_1).f1).length Z8)).setCell ⟨z6, 2, none⟩ (.slice Ze ((rd_T39 q0 x45_1).f2).length Zf)).setCell ⟨z6, 3, none⟩ (.slice Zk ((rd_T39 q0 x45_1).f3).length Zl)).setCell ⟨z6, 4, none⟩ (.slice Zm ((rd_T39 q0 x45_1).f4).length Zn)).setCell ⟨z6, 5, none⟩ (.slice Zt ((rd_T39 q0 x45_1).f5).length Zu)) = w30 at n0_ n1_ n2_ n3_ n4_ n5_ n6_ ⊢
           have j1 := n0_
           have j2 := n1_
           have q4 := n2_
           have q5 := n3_
           have j0 := n4_
           have Jl := n5_
           have HB := n6_
           clear n0_ n1_ n2_ n3_ n4_ n5_ n6_
           replace j1 := Qaa.mk (Kd.V_drew j1.out)
           replace j2 := Qaa.mk (Kd.V_drew j2.out)
           replace q4 := Qaa.mk (blk_drew q4.out)
           replace q5 := Qaa.mk (blk_drew q5.out)
           replace j0 := Qaa.mk (blk_drew j0.out)
           replace Jl := Qaa.mk (blk_drew Jl.out)
           replace HB := Qaa.mk (below_drew1 HB.out)
           have p723 : 0 ≤ (x45_1 : Int) := of_decide_eq_true (by first | (with_reducible assumption) | assumption)
           have q723 : x45_1 < (q3.length : Int) := of_decide_eq_true (by first | (with_reducible assumption) | assumption)
           obtain ⟨ad723, q00, q01, q02, q03, q04, q05, q06, q07, q08, q09, e723, Jo, Jp, Jq, Jr, Js, Jt, hl723_1, hi723_1, hl723_2, hi723_2, hl723_3, hi723_3, hl723_4, hi723_4, hl723_5, hi723_5⟩ := at_T39 Vn.out x45_1 p723 q723
           have hw723_5 := Jt
           have hw723_4 := Js
           have hw723_3 := Jr
           have hw723_2 := Jq
           have hw723_1 := Jp
           have hw723_0 := Jo
           cases e723
           replace Jo := (HB.out.cell (World.block_lt_of_cell? w _ Jo)).trans Jo
           replace Jp := (HB.out.cell (World.block_lt_of_cell? w _ Jp)).trans Jp
           replace Jq := (HB.out.cell (World.block_lt_of_cell? w _ Jq)).trans Jq
           replace Jr := (HB.out.cell (World.block_lt_of_cell? w _ Jr)).trans Jr
           replace Js := (HB.out.cell (World.block_lt_of_cell? w _ Js)).trans Js
           replace Jt := (HB.out.cell (World.block_lt_of_cell? w _ Jt)).trans Jt
           have Ki := Qaa.mk hi723_1
           have q97 := Qaa.mk hl723_1
           clear hi723_1 hl723_1
           have Kj := Qaa.mk hi723_2
           have q98 := Qaa.mk hl723_2
           clear hi723_2 hl723_2
           have Kk := Qaa.mk hi723_3
           have q99 := Qaa.mk hl723_3
           clear hi723_3 hl723_3
           have Kl := Qaa.mk hi723_4
           have q9a := Qaa.mk hl723_4
           clear hi723_4 hl723_4
           have Km := Qaa.mk hi723_5
           have q9b := Qaa.mk hl723_5
           clear hi723_5 hl723_5
           replace p723 := eq_true p723
           replace q723 := eq_true q723
           refine start_ (n := 9) (S := fun w' => w'.cell? ⟨z6, 0, none⟩ = some (.int .i64 ((rd_T39 q0 x45_1).f0)) ∧ w'.cell? ⟨z6, 1, none⟩ = some (.slice Z7 ((rd_T39 q0 x45_1).f1).length Z8) ∧ w'.cell? ⟨z6, 2, none⟩ = some (.slice Ze ((rd_T39 q0 x45_1).f2).length Zf) ∧ w'.cell? ⟨z6, 3, none⟩ = some (.slice Zk ((rd_T39 q0 x45_1).f3).length Zl) ∧ w'.cell? ⟨z6, 4, none⟩ = some (.slice Zm ((rd_T39 q0 x45_1).f4).length Zn) ∧ w'.cell? ⟨z6, 5, none⟩ = some (.slice Zt ((rd_T39 q0 x45_1).f5).length Zu) ∧ w'.cell? ⟨j3, 0, none⟩ = some (.int .i64 Q2) ∧ w'.cell? ⟨j3, 1, none⟩ = some (.slice (some ad723) q3.length Yl) ∧ w'.cell? ⟨j3, 2, none⟩ = some (.bool Q3) ∧ w'.cell? ⟨j3, 3, none⟩ = some (.slice Zr y8.length Zs) ∧ w'.cell? (ad723.add ((x45_1).toNat * 6)) = some (.int .i64 ((rd_T39 q3 x45_1).f0)) ∧ w'.cell? ⟨(ad723.add ((x45_1).toNat * 6)).block, (ad723.add ((x45_1).toNat * 6)).off + 1, none⟩ = some (.slice q00 ((rd_T39 q3 x45_1).f1).length q01) ∧ w'.cell? ⟨(ad723.add ((x45_1).toNat * 6)).block, (ad723.add ((x45_1).toNat * 6)).off + 2, none⟩ = some (.slice q02 ((rd_T39 q3 x45_1).f2).length q03) ∧ w'.cell? ⟨(ad723.add ((x45_1).toNat * 6)).block, (ad723.add ((x45_1).toNat * 6)).off + 3, none⟩ = some (.slice q04 ((rd_T39 q3 x45_1).f3).length q05) ∧ w'.cell? ⟨(ad723.add ((x45_1).toNat * 6)).block, (ad723.add ((x45_1).toNat * 6)).off + 4, none⟩ = some (.slice q06 ((rd_T39 q3 x45_1).f4).length q07) ∧ w'.cell? ⟨(ad723.add ((x45_1).toNat * 6)).block, (ad723.add ((x45_1).toNat * 6)).off + 5, none⟩ = some (.slice q08 ((rd_T39 q3 x45_1).f5).length q09)) (ds := []) #[false, false, false, false, false, false, false, false, false] (by kernel_rfl) rfl rfl ⟨(blk_cell Jl.out 0).trans rfl, (blk_cell Jl.out 1).trans rfl, (blk_cell Jl.out 2).trans rfl, (blk_cell Jl.out 3).trans rfl, (blk_cell Jl.out 4).trans rfl, (blk_cell Jl.out 5).trans rfl, (blk_cell q5.out 0).trans rfl, (blk_cell q5.out 1).trans rfl, (blk_cell q5.out 2).trans rfl, (blk_cell q5.out 3).trans rfl, ((HB.out.cell (World.block_lt_of_cell? w _ hw723_0)).trans hw723_0), ((HB.out.cell (World.block_lt_of_cell? w _ hw723_1)).trans hw723_1), ((HB.out.cell (World.block_lt_of_cell? w _ hw723_2)).trans hw723_2), ((HB.out.cell (World.block_lt_of_cell? w _ hw723_3)).trans hw723_3), ((HB.out.cell (World.block_lt_of_cell? w _ hw723_4)).trans hw723_4), ((HB.out.cell (World.block_lt_of_cell? w _ hw723_5)).trans hw723_5)⟩ (fun hHeld => ?_); refine with_tabW Qad.tab12 Qad.bits12 (fun HT_ HW_ => ?_)
           generalize w30.drew = w31 at j1 j2 q4 q5 j0 Jl HB Ki Kj Kk Kl Km Jo Jp Jq Jr Js Jt hHeld ⊢
           refine pure_ (i := 0) (N := some 50) (v := ?_) (a' := ?_) #[true, false, false, false, false, false, false, false, false] rfl rfl (any_of HT_.out (by kernel_rfl)) (fun _ _ _ h => h) (Or.inl ⟨by rfl, ?_⟩) ?_ ?_
           rotate_left
           ·
            intro w'
            go_simp
            with_reducible rfl
           rotate_left
           ·
            simp only [Act.put, List.setIfInBounds_toArray, List.set_cons_zero, List.set_cons_succ, i64_w, i32_w]
            rfl
           refine pure_ (i := 2) (N := some 52) (v := ?_) (a' := ?_) #[true, false, true, false, false, false, false, false, false] rfl rfl (any_of HT_.out (by kernel_rfl)) (fun _ _ _ h => h) (Or.inl ⟨by rfl, ?_⟩) ?_ ?_
           rotate_left
           ·
            intro w'
            go_simp
            with_reducible rfl
           rotate_left
           ·
            simp only [Act.put, List.setIfInBounds_toArray, List.set_cons_zero, List.set_cons_succ, i64_w, i32_w]
            rfl
           refine pure_ (i := 4) (N := some 54) (v := ?_) (a' := ?_) #[true, false, true, false, true, false, false, false, false] rfl rfl (any_of HT_.out (by kernel_rfl)) (fun _ _ _ h => h) (Or.inl ⟨by rfl, ?_⟩) ?_ ?_
           rotate_left
           ·
            intro w'
            go_simp
            with_reducible rfl
           rotate_left
           ·
            simp only [Act.put, List.setIfInBounds_toArray, List.set_cons_zero, List.set_cons_succ, i64_w, i32_w]
            rfl
           refine take_ (i := 1) (N := some 51) (v := ?_) (a' := ?_) #[true, true, true, false, true, false, false, false, false] rfl rfl (take_ofW HT_.out HW_.out (by kernel_rfl)) (fun _ _ _ h => h) (Or.inl ⟨by rfl, ?_⟩) hHeld ?_ ?_
           rotate_left
           ·
            rintro w' ⟨s0, s1, s2, s3, s4, s5, s6, s7, s8, s9, s10, s11, s12, s13, s14, s15⟩
            go_simp
            with_reducible rfl
           rotate_left
           ·
            simp only [Act.put, List.setIfInBounds_toArray, List.set_cons_zero, List.set_cons_succ, i64_w, i32_w]
            rfl
           refine take_ (i := 3) (N := some 53) (v := ?_) (a' := ?_) #[true, true, true, true, true, false, false, false, false] rfl rfl (take_ofW HT_.out HW_.out (by kernel_rfl)) (fun _ _ _ h => h) (Or.inl ⟨by rfl, ?_⟩) hHeld ?_ ?_
           rotate_left
           ·
            rintro w' ⟨s0, s1, s2, s3, s4, s5, s6, s7, s8, s9, s10, s11, s12, s13, s14, s15⟩
            go_simp
            with_reducible rfl
           rotate_left
           ·
            simp only [Act.put, List.setIfInBounds_toArray, List.set_cons_zero, List.set_cons_succ, i64_w, i32_w]
            rfl
           refine pure_ (i := 5) (N := some 55) (v := ?_) (a' := ?_) #[true, true, true, true, true, true, false, false, false] rfl rfl (any_of HT_.out (by kernel_rfl)) (fun _ _ _ h => h) (Or.inl ⟨by rfl, ?_⟩) ?_ ?_
           rotate_left
           ·
            intro w'
            go_simp
            with_reducible rfl
           rotate_left
           ·
            simp only [Act.put, List.setIfInBounds_toArray, List.set_cons_zero, List.set_cons_succ, i64_w, i32_w]
            rfl
           refine pure_ (i := 6) (N := some 56) (v := ?_) (a' := ?_) #[true, true, true, true, true, true, true, false, false] rfl rfl (any_of HT_.out (by kernel_rfl)) (fun _ _ _ h => h) (Or.inl ⟨by rfl, ?_⟩) ?_ ?_
           rotate_left
           ·
            intro w'
            go_simp
            with_reducible rfl
           rotate_left
           ·
            simp only [Act.put, List.setIfInBounds_toArray, List.set_cons_zero, List.set_cons_succ, i64_w, i32_w]
            rfl
           refine take_ (i := 7) (N := some 57) (v := ?_) (a' := ?_) #[true, true, true, true, true, true, true, true, false] rfl rfl (take_ofW HT_.out HW_.out (by kernel_rfl)) (fun _ _ _ h => h) (Or.inl ⟨by rfl, ?_⟩) hHeld ?_ ?_
           rotate_left
           ·
            rintro w' ⟨s0, s1, s2, s3, s4, s5, s6, s7, s8, s9, s10, s11, s12, s13, s14, s15⟩
            go_simp
            with_reducible rfl
           rotate_left
           ·
            simp only [Act.put, List.setIfInBounds_toArray, List.set_cons_zero, List.set_cons_succ, i64_w, i32_w]
            rfl
           refine pure_ (i := 8) (N := some 58) (v := ?_) (a' := ?_) #[true, true, true, true, true, true, true, true, true] rfl rfl (any_of HT_.out (by kernel_rfl)) (fun _ _ _ h => h) (Or.inl ⟨by rfl, ?_⟩) ?_ ?_
           rotate_left
           ·
            intro w'
            go_simp
            with_reducible rfl
           rotate_left
           ·
            simp only [Act.put, List.setIfInBounds_toArray, List.set_cons_zero, List.set_cons_succ, i64_w, i32_w]
            rfl
           refine done_ (done_of HT_.out (by kernel_rfl)) ?_
           try go_wp2
           go_roundg k1
           case measure => have := HK1.out; omega
           case rel => exact ⟨(wrap64 (x45_1 + 1)), (Zq), (Za), (by first | rfl | (simp; done) | (simp [*]; done)), H', ⟨by have := HK1.out; omega⟩, ⟨by apply V_u; exact Vm j1.out⟩, ⟨by apply V_u; exact Vm j2.out⟩, ⟨by apply blk_u; exact q4.out⟩, ⟨by apply blk_u; exact q5.out⟩, ⟨by apply blk_u; exact j0.out⟩, ⟨bl HB⟩⟩
          ·
           rw [if_neg c24] at H
           simp only [Option.some.injEq, Prod.mk.injEq] at H
           exact absurd hz (by rw [← H.2.2.2.2]; first | exact c24 | decide)
         ·
          rw [if_neg c23] at H
          exact absurd H (by simp)
        ·
         rw [if_neg c22] at H
         exact absurd H (by simp)
       ·
        rw [if_neg c21] at H
        exact absurd H (by simp)
      ·
       rw [if_neg c20] at H
       have Vo : decide (x45_1 < (q0.length : Int)) = false := decide_eq_false c20
       clear c20
       replace H := Option.bind_eq_some_iff.mp H
       obtain ⟨z7, q0a, H⟩ := H
       replace H : ((Qao.f k1 Q2 q3 Q3 y8).bind fun z5 => (if (wrap64 ((z7.length : Int) + (z5.length : Int))) > 1000 then (some (0, ([] : List (S39)), false, ([] : List Int), 2)) else (Qad.l1 k1 z7 z5 q0 (q0.length : Int) 0 Q2 q3 Q3 y8 (wrap64 ((z7.length : Int) + (z5.length : Int))) ([] : List (S39)) true))) = some (r1, r2, r3, r4, r5) := H
       have A42 := Qaa.mk q0a
       clear q0a
       replace H := Option.bind_eq_some_iff.mp H
       obtain ⟨z5, q0b, H⟩ := H
       replace H : (if (wrap64 ((z7.length : Int) + (z5.length : Int))) > 1000 then (some (0, ([] : List (S39)), false, ([] : List Int), 2)) else (Qad.l1 k1 z7 z5 q0 (q0.length : Int) 0 Q2 q3 Q3 y8 (wrap64 ((z7.length : Int) + (z5.length : Int))) ([] : List (S39)) true)) = some (r1, r2, r3, r4, r5) := H
       have A43 := Qaa.mk q0b
       clear q0b
       by_cases c44 : (wrap64 ((z7.length : Int) + (z5.length : Int))) > 1000
       ·
        rw [if_pos c44] at H
        simp only [Option.some.injEq, Prod.mk.injEq] at H
        exact absurd hz (by rw [← H.2.2.2.2]; first | exact c44 | decide)
       ·
        rw [if_neg c44] at H
        have Fl : decide (1000 < (wrap64 ((z7.length : Int) + (z5.length : Int)))) = false := decide_eq_false c44
        clear c44
        have H' := Qaa.mk H
        clear H
        try go_wp2
        replace j1 := Qaa.mk (Kd.V_drew j1.out)
        replace j2 := Qaa.mk (Kd.V_drew j2.out)
        replace q4 := Qaa.mk (blk_drew q4.out)
        replace q5 := Qaa.mk (blk_drew q5.out)
        replace j0 := Qaa.mk (blk_drew j0.out)
        replace HB := Qaa.mk (below_drew1 HB.out)
        refine start_ (n := 6) (S := fun w' => w'.cell? ⟨j5, 0, none⟩ = some (.int .i64 J7) ∧ w'.cell? ⟨j5, 1, none⟩ = some (.slice X6 q0.length Yt) ∧ w'.cell? ⟨j5, 2, none⟩ = some (.bool J8) ∧ w'.cell? ⟨j5, 3, none⟩ = some (.slice J9 Qs.length Ja) ∧ w'.cell? ⟨j3, 0, none⟩ = some (.int .i64 Q2) ∧ w'.cell? ⟨j3, 1, none⟩ = some (.slice X3 q3.length Yl) ∧ w'.cell? ⟨j3, 2, none⟩ = some (.bool Q3) ∧ w'.cell? ⟨j3, 3, none⟩ = some (.slice Zr y8.length Zs)) (ds := []) #[false, false, false, false, false, false] (by kernel_rfl) rfl rfl ⟨(blk_cell q4.out 0).trans rfl, (blk_cell q4.out 1).trans rfl, (blk_cell q4.out 2).trans rfl, (blk_cell q4.out 3).trans rfl, (blk_cell q5.out 0).trans rfl, (blk_cell q5.out 1).trans rfl, (blk_cell q5.out 2).trans rfl, (blk_cell q5.out 3).trans rfl⟩ (fun hHeld => ?_)
        generalize wr.drew = w53 at j1 j2 q4 q5 j0 HB hHeld ⊢
        refine take_ (i := 0) (N := some 61) (v := ?_) (a' := ?_) #[true, false, false, false, false, false] rfl rfl (by kernel_rfl) (fun _ _ _ h => h) (Or.inl ⟨by rfl, ?_⟩) hHeld ?_ ?_
        rotate_left
        ·
         rintro w' ⟨s0, s1, s2, s3, s4, s5, s6, s7⟩
         go_simp
         with_reducible rfl
        rotate_left
        ·
         simp only [Act.put, List.setIfInBounds_toArray, List.set_cons_zero, List.set_cons_succ, i64_w, i32_w]
         rfl
        refine take_ (i := 2) (N := some 63) (v := ?_) (a' := ?_) #[true, false, true, false, false, false] rfl rfl (by kernel_rfl) (fun _ _ _ h => h) (Or.inl ⟨by rfl, ?_⟩) hHeld ?_ ?_
        rotate_left
        ·
         rintro w' ⟨s0, s1, s2, s3, s4, s5, s6, s7⟩
         go_simp
         with_reducible rfl
        rotate_left
        ·
         simp only [Act.put, List.setIfInBounds_toArray, List.set_cons_zero, List.set_cons_succ, i64_w, i32_w]
         rfl
        refine one_ (i := 1) (N := some 62) #[true, true, true, false, false, false] rfl rfl (by kernel_rfl) (by decide) (fun K hK => ?_)
        refine goes_ Try.func22 (by kernel_rfl) rfl #[.agg #[.int .i64 J7, .slice X6 q0.length Yt, .bool J8, .slice J9 Qs.length Ja]] (by rfl) rfl rfl (by (try simp only [List.map_toArray, List.map_cons, List.map_nil]); first | done | rfl | (simp only [List.length_drop, List.length_take]; rfl)) ?_
        with_reducible refine (Qao.calls k1 J7 _ _ q0 J8 (fun k_ => (((z2 k_ ∨ z3 k_) ∨ w.heap.size ≤ k_) ∧ (k_ ≠ j5 ∧ (k_ ≠ j3 ∧ k_ ≠ j4)))) _ _ Qs z7 _ ?side1 ?side2 ?side3 A42.out).mono ?_
        (case side1 => exact Cb Vl HB)
        (case side2 => exact D5.out)
        (case side3 => exact j1.out)
        rintro e w54 ⟨qr3, rfl, ho0, hb⟩
        refine ⟨_, rfl, ?_⟩
        have Xe := Qaa.mk (Kd.V_lower (Kd.V_mono (ok' := fun k_ => ((z2 k_ ∨ z3 k_) ∨ w.heap.size ≤ k_) ∧ k_ ≠ j5 ∧ k_ ≠ j3 ∧ k_ ≠ j4) ho0 (fun k_ hk_ => ⟨Or.elim hk_ (fun hs_ => hs_.1) (fun hn_ => (.inr (Nat.le_trans (below_size (bl HB)) hn_))), Or.elim hk_ (fun hs_ => hs_.2.1) (fun hn_ => (Kd.freshB (Ub q4) k_ hn_)), Or.elim hk_ (fun hs_ => hs_.2.2.1) (fun hn_ => (Kd.freshB (Ub q5) k_ hn_)), Or.elim hk_ (fun hs_ => hs_.2.2.2) (fun hn_ => (Kd.freshB (Ub j0) k_ hn_))⟩)) (below_size (bl HB)))
        replace j1 := Qaa.mk (Kd.V_below (V_u j1.out) hb)
        replace j2 := Qaa.mk (Kd.V_below (V_u j2.out) hb)
        replace q4 := Bb q4 hb
        replace q5 := Bb q5 hb
        replace j0 := Bb j0 hb
        replace HB := bs HB hb
        (try clear hb)
        (try clear hb2)
        (try clear hk)
        (try clear hi)
        (try clear ho0)
        refine hK.out _ _ ⟨(blk_cell q4.out 0).trans rfl, (blk_cell q4.out 1).trans rfl, (blk_cell q4.out 2).trans rfl, (blk_cell q4.out 3).trans rfl, (blk_cell q5.out 0).trans rfl, (blk_cell q5.out 1).trans rfl, (blk_cell q5.out 2).trans rfl, (blk_cell q5.out 3).trans rfl⟩ (fun hHeld => ?_)
        clear hK K
        refine norm_ (a' := ?_) ?_ ?_
        rotate_left
        ·
         show Act.put _ (some 62) _ = _
         simp only [Act.put, List.setIfInBounds_toArray, List.set_cons_zero, List.set_cons_succ, i64_w, i32_w]
         rfl
        refine one_ (i := 3) (N := some 64) #[true, true, true, true, false, false] rfl rfl (by kernel_rfl) (by decide) (fun K hK => ?_)
        refine goes_ Try.func22 (by kernel_rfl) rfl #[.agg #[.int .i64 Q2, .slice X3 q3.length Yl, .bool Q3, .slice Zr y8.length Zs]] (by rfl) rfl rfl (by (try simp only [List.map_toArray, List.map_cons, List.map_nil]); first | done | rfl | (simp only [List.length_drop, List.length_take]; rfl)) ?_
        with_reducible refine (Qao.calls k1 Q2 _ _ q3 Q3 (fun k_ => (((z2 k_ ∨ z3 k_) ∨ w.heap.size ≤ k_) ∧ (k_ ≠ j5 ∧ (k_ ≠ j3 ∧ k_ ≠ j4)))) _ _ y8 z5 _ ?side1 ?side2 ?side3 A43.out).mono ?_
        (case side1 => exact Cb Vn HB)
        (case side2 => exact D6.out)
        (case side3 => exact j2.out)
        rintro e w55 ⟨qr4, rfl, ho0, hb⟩
        refine ⟨_, rfl, ?_⟩
        have Vp := Qaa.mk (Kd.V_lower (Kd.V_mono (ok' := fun k_ => ((z2 k_ ∨ z3 k_) ∨ w.heap.size ≤ k_) ∧ k_ ≠ j5 ∧ k_ ≠ j3 ∧ k_ ≠ j4) ho0 (fun k_ hk_ => ⟨Or.elim hk_ (fun hs_ => hs_.1) (fun hn_ => (.inr (Nat.le_trans (below_size (bl HB)) hn_))), Or.elim hk_ (fun hs_ => hs_.2.1) (fun hn_ => (Kd.freshB (Ub q4) k_ hn_)), Or.elim hk_ (fun hs_ => hs_.2.2.1) (fun hn_ => (Kd.freshB (Ub q5) k_ hn_)), Or.elim hk_ (fun hs_ => hs_.2.2.2) (fun hn_ => (Kd.freshB (Ub j0) k_ hn_))⟩)) (below_size (bl HB)))
        replace j1 := Qaa.mk (Kd.V_below (V_u j1.out) hb)
        replace j2 := Qaa.mk (Kd.V_below (V_u j2.out) hb)
        replace Xe := Qaa.mk (Kd.V_below (V_u Xe.out) hb)
        replace q4 := Bb q4 hb
        replace q5 := Bb q5 hb
        replace j0 := Bb j0 hb
        replace HB := bs HB hb
        (try clear hb)
        (try clear hb2)
        (try clear hk)
        (try clear hi)
        (try clear ho0)
        refine hK.out _ _ ⟨(blk_cell q4.out 0).trans rfl, (blk_cell q4.out 1).trans rfl, (blk_cell q4.out 2).trans rfl, (blk_cell q4.out 3).trans rfl, (blk_cell q5.out 0).trans rfl, (blk_cell q5.out 1).trans rfl, (blk_cell q5.out 2).trans rfl, (blk_cell q5.out 3).trans rfl⟩ (fun hHeld => ?_)
        clear hK K
        refine norm_ (a' := ?_) ?_ ?_
        rotate_left
        ·
         show Act.put _ (some 64) _ = _
         simp only [Act.put, List.setIfInBounds_toArray, List.set_cons_zero, List.set_cons_succ, i64_w, i32_w]
         rfl
        refine pure_ (i := 4) (N := some 10) (v := ?_) (a' := ?_) #[true, true, true, true, true, false] rfl rfl (by kernel_rfl) (fun _ _ _ h => h) (Or.inl ⟨by rfl, ?_⟩) ?_ ?_
        rotate_left
        ·
         intro w'
         go_simp
         with_reducible rfl
        rotate_left
        ·
         simp only [Act.put, List.setIfInBounds_toArray, List.set_cons_zero, List.set_cons_succ, i64_w, i32_w]
         rfl
        refine pure_ (i := 5) (N := some 11) (v := ?_) (a' := ?_) #[true, true, true, true, true, true] rfl rfl (by kernel_rfl) (fun _ _ _ h => h) (Or.inl ⟨by rfl, ?_⟩) ?_ ?_
        rotate_left
        ·
         intro w'
         go_simp
         with_reducible rfl
        rotate_left
        ·
         simp only [Act.put, List.setIfInBounds_toArray, List.set_cons_zero, List.set_cons_succ, i64_w, i32_w]
         rfl
        refine done_ (by kernel_rfl) ?_
        obtain ⟨Vs, Vt, eo56⟩ := Kd.V_slice Xe.out
        subst eo56
        obtain ⟨Wl, Wm, eo57⟩ := Kd.V_slice Vp.out
        subst eo57
        try go_wp2_with (first | ((with_reducible refine gate_dst (N := 12) rfl ?_); refine bx 12 #[.int .i64 0, .slice none 0 0, .bool false, .slice none 0 0] 26 ?_; intro q6 hg w58 hbox hb; have j6 := Qaa.mk (hbox); have qm4 := Qaa.mk ((by rw [hg]; exact (below_size (bl HB)) : w.heap.size ≤ q6)); have qm5 := Qaa.mk ((by rw [hg]; exact (below_size (bl HB)) : w.heap.size ≤ q6)); have Qz := Qaa.mk ((by rw [hg]; exact Nat.ne_of_lt (blk_lt (Ub q4)) : j5 ≠ q6)); have Jy := Qaa.mk ((by rw [hg]; exact Nat.ne_of_gt (blk_lt (Ub q4)) : q6 ≠ j5)); have Qt := Qaa.mk ((by rw [hg]; exact Nat.ne_of_lt (blk_lt (Ub q5)) : j3 ≠ q6)); have Ju := Qaa.mk ((by rw [hg]; exact Nat.ne_of_gt (blk_lt (Ub q5)) : q6 ≠ j3)); have Z0 := Qaa.mk ((by rw [hg]; exact Nat.ne_of_lt (blk_lt (Ub j0)) : j4 ≠ q6)); have Jz := Qaa.mk ((by rw [hg]; exact Nat.ne_of_gt (blk_lt (Ub j0)) : q6 ≠ j4)); replace j1 := Qaa.mk (Kd.V_below (Kd.V_elderB (V_u j1.out) q6 (Nat.le_of_eq hg.symm)) hb); replace j2 := Qaa.mk (Kd.V_below (Kd.V_elderB (V_u j2.out) q6 (Nat.le_of_eq hg.symm)) hb); replace Xe := Qaa.mk (Kd.V_below (Kd.V_elderB (V_u Xe.out) q6 (Nat.le_of_eq hg.symm)) hb); replace Vp := Qaa.mk (Kd.V_below (Kd.V_elderB (V_u Vp.out) q6 (Nat.le_of_eq hg.symm)) hb); replace q4 := Bb q4 hb; replace q5 := Bb q5 hb; replace j0 := Bb j0 hb; replace HB := bs HB hb; clear hb hbox hg; have qm6 := Jy.out; have qm7 := Qz.out; have qm8 := Ju.out; have qm9 := Qt.out; have qn0 := Jz.out; have qn1 := Z0.out; obtain ⟨Wn, Wo, Wp, Wq, Wr, Ws, Wt, Wu⟩ := cf4 j6; have qn2 := X7.out; have qn3 := X8.out; have qn4 := X9.out; have qn5 := Xa.out; obtain ⟨Wv, Ww, Wx, Wy, Wz, V0, V1, V2⟩ := cf4 q4))
        go_loopg [81] k1 (fun kq v81 w' => ∃ (x81_2 : Int) (z4 : List (S39)) (j9 : Value), v81 = .int .i64 x81_2 ∧ Qaa (Qad.l1 kq z7 z5 q0 (q0.length : Int) x81_2 Q2 q3 Q3 y8 (wrap64 ((z7.length : Int) + (z5.length : Int))) z4 true = some (r1, r2, r3, r4, r5)) ∧ Qaa (kq ≤ k1) ∧ Qaa (Kd.V (Kd.int .i64) 3 w' w.heap.size (fun k_ => ((z2 k_ ∨ z3 k_) ∨ w.heap.size ≤ k_) ∧ some k_ ≠ (j9 : Value).ownBlock ∧ k_ ≠ j5 ∧ k_ ≠ j3 ∧ k_ ≠ j4 ∧ k_ ≠ q6) (.slice Vs z7.length Vt) z7) ∧ Qaa (Kd.V (Kd.int .i64) 3 w' w.heap.size (fun k_ => ((z2 k_ ∨ z3 k_) ∨ w.heap.size ≤ k_) ∧ some k_ ≠ (j9 : Value).ownBlock ∧ k_ ≠ j5 ∧ k_ ≠ j3 ∧ k_ ≠ j4 ∧ k_ ≠ q6) (.slice Wl z5.length Wm) z5) ∧ Qaa (Kd.V (Kd.int .i64) 3 w' w.heap.size (fun k_ => ((z2 k_ ∨ z3 k_) ∨ w.heap.size ≤ k_) ∧ some k_ ≠ (j9 : Value).ownBlock ∧ k_ ≠ j5 ∧ k_ ≠ j3 ∧ k_ ≠ j4 ∧ k_ ≠ q6) (.slice J9 Qs.length Ja) Qs) ∧ Qaa (Kd.V (Kd.int .i64) 3 w' w.heap.size (fun k_ => ((z2 k_ ∨ z3 k_) ∨ w.heap.size ≤ k_) ∧ some k_ ≠ (j9 : Value).ownBlock ∧ k_ ≠ j5 ∧ k_ ≠ j3 ∧ k_ ≠ j4 ∧ k_ ≠ q6) (.slice Zr y8.length Zs) y8) ∧ Qaa (Kd.N k39 39 w' w.heap.size (fun k_ => ((z2 k_ ∨ z3 k_) ∨ w.heap.size ≤ k_) ∧ k_ ≠ j5 ∧ k_ ≠ j3 ∧ k_ ≠ j4 ∧ k_ ≠ q6) j9 z4) ∧ Qaa (w'.heap[j5]? = some (.cells #[.int .i64 J7, (.slice X6 q0.length Yt), .bool J8, (.slice J9 Qs.length Ja)] 26 (0, 0))) ∧ Qaa (w'.heap[j3]? = some (.cells #[.int .i64 Q2, (.slice X3 q3.length Yl), .bool Q3, (.slice Zr y8.length Zs)] 26 (0, 0))) ∧ Qaa (w'.heap[j4]? = some (.cells #[.int .i64 Zq, (.slice none 0 0), .bool Za, (.slice none 0 0)] 26 (0, 0))) ∧ Qaa (w'.heap[q6]? = some (.cells #[.int .i64 (wrap64 ((z7.length : Int) + (z5.length : Int))), j9, .bool true, (.slice none 0 0)] 26 (0, 0))) ∧ Qaa (Below w.heap.size w w'))
        case atStart => exact ⟨(0), (([] : List (S39))), (.slice none 0 0), (by first | rfl | (simp; done) | (simp [*]; done)), H', ⟨Nat.le_refl _⟩, ⟨by apply V_u; exact Kd.V_mono (Kd.V_far (p := ⟨q6, 3, none⟩) (Kd.V_far (p := ⟨q6, 2, none⟩) (Kd.V_far (p := ⟨q6, 1, none⟩) (Kd.V_far (p := ⟨q6, 0, none⟩) (Kd.V_mono Xe.out (fun k_ hk => (⟨hk, hk.2⟩ : _ ∧ k_ ≠ q6))) (fun _ hk => hk.2) (.int .i64 (wrap64 ((z7.length : Int) + (z5.length : Int))))) (fun _ hk => hk.2) (.slice none 0 0)) (fun _ hk => hk.2) (.bool true)) (fun _ hk => hk.2) (.slice none 0 0)) (fun _ hk => ⟨hk.1.1.1, ⟨(by simp [Value.ownBlock]), ⟨hk.1.1.2.1, ⟨hk.1.1.2.2.1, ⟨hk.1.1.2.2.2, hk.1.2⟩⟩⟩⟩⟩)⟩, ⟨by apply V_u; exact Kd.V_mono (Kd.V_far (p := ⟨q6, 3, none⟩) (Kd.V_far (p := ⟨q6, 2, none⟩) (Kd.V_far (p := ⟨q6, 1, none⟩) (Kd.V_far (p := ⟨q6, 0, none⟩) (Kd.V_mono Vp.out (fun k_ hk => (⟨hk, hk.2⟩ : _ ∧ k_ ≠ q6))) (fun _ hk => hk.2) (.int .i64 (wrap64 ((z7.length : Int) + (z5.length : Int))))) (fun _ hk => hk.2) (.slice none 0 0)) (fun _ hk => hk.2) (.bool true)) (fun _ hk => hk.2) (.slice none 0 0)) (fun _ hk => ⟨hk.1.1.1, ⟨(by simp [Value.ownBlock]), ⟨hk.1.1.2.1, ⟨hk.1.1.2.2.1, ⟨hk.1.1.2.2.2, hk.1.2⟩⟩⟩⟩⟩)⟩, ⟨by apply V_u; exact Kd.V_mono (Kd.V_far (p := ⟨q6, 3, none⟩) (Kd.V_far (p := ⟨q6, 2, none⟩) (Kd.V_far (p := ⟨q6, 1, none⟩) (Kd.V_far (p := ⟨q6, 0, none⟩) (Kd.V_mono j1.out (fun k_ hk => (⟨hk, hk.2⟩ : _ ∧ k_ ≠ q6))) (fun _ hk => hk.2) (.int .i64 (wrap64 ((z7.length : Int) + (z5.length : Int))))) (fun _ hk => hk.2) (.slice none 0 0)) (fun _ hk => hk.2) (.bool true)) (fun _ hk => hk.2) (.slice none 0 0)) (fun _ hk => ⟨hk.1.1.1, ⟨(by simp [Value.ownBlock]), ⟨hk.1.1.2.1, ⟨hk.1.1.2.2.1, ⟨hk.1.1.2.2.2, hk.1.2⟩⟩⟩⟩⟩)⟩, ⟨by apply V_u; exact Kd.V_mono (Kd.V_far (p := ⟨q6, 3, none⟩) (Kd.V_far (p := ⟨q6, 2, none⟩) (Kd.V_far (p := ⟨q6, 1, none⟩) (Kd.V_far (p := ⟨q6, 0, none⟩) (Kd.V_mono j2.out (fun k_ hk => (⟨hk, hk.2⟩ : _ ∧ k_ ≠ q6))) (fun _ hk => hk.2) (.int .i64 (wrap64 ((z7.length : Int) + (z5.length : Int))))) (fun _ hk => hk.2) (.slice none 0 0)) (fun _ hk => hk.2) (.bool true)) (fun _ hk => hk.2) (.slice none 0 0)) (fun _ hk => ⟨hk.1.1.1, ⟨(by simp [Value.ownBlock]), ⟨hk.1.1.2.1, ⟨hk.1.1.2.2.1, ⟨hk.1.1.2.2.2, hk.1.2⟩⟩⟩⟩⟩)⟩, ⟨by first | exact Kd.S_nil _ _ _ _ _ | exact Kd.N_nil _ _ _ _ _ | exact Kd.V_nil _ _ _ _ _ | exact Kd.Q_nil _ _ _ _ _ | exact Kd.R_nil _ _ _ _ _⟩, ⟨by apply blk_u; refine blk_far ?_ Qz.out _; apply blk_u; refine blk_far ?_ Qz.out _; apply blk_u; refine blk_far ?_ Qz.out _; apply blk_u; refine blk_far ?_ Qz.out _; apply blk_u; exact q4.out⟩, ⟨by apply blk_u; refine blk_far ?_ Qt.out _; apply blk_u; refine blk_far ?_ Qt.out _; apply blk_u; refine blk_far ?_ Qt.out _; apply blk_u; refine blk_far ?_ Qt.out _; apply blk_u; exact q5.out⟩, ⟨by apply blk_u; refine blk_far ?_ Z0.out _; apply blk_u; refine blk_far ?_ Z0.out _; apply blk_u; refine blk_far ?_ Z0.out _; apply blk_u; refine blk_far ?_ Z0.out _; apply blk_u; exact j0.out⟩, ⟨by apply blk_u; refine blk_put (cs := #[.int .i64 (wrap64 ((z7.length : Int) + (z5.length : Int))), .slice none 0 0, .bool true, .slice none 0 0]) ?_ 3 _ rfl; apply blk_u; refine blk_put (cs := #[.int .i64 (wrap64 ((z7.length : Int) + (z5.length : Int))), .slice none 0 0, .bool false, .slice none 0 0]) ?_ 2 _ rfl; apply blk_u; refine blk_put (cs := #[.int .i64 (wrap64 ((z7.length : Int) + (z5.length : Int))), .slice none 0 0, .bool false, .slice none 0 0]) ?_ 1 _ rfl; apply blk_u; refine blk_put (cs := #[.int .i64 0, .slice none 0 0, .bool false, .slice none 0 0]) ?_ 0 _ rfl; apply blk_u; exact j6.out⟩, ⟨bl HB⟩⟩
        case round =>
         clear H'
         try clear c1
         try clear c2
         try clear p2
         try clear c3
         try clear c4
         try clear c5
         try clear c6
         try clear p6
         try clear c7
         try clear p7
         try clear q7
         try clear hx7
         try clear c20
         try clear Vo
         try clear c21
         try clear c22
         try clear c23
         try clear c24
         try clear Fj
         try clear Fk
         try clear c33
         try clear c34
         try clear c35
         try clear c39
         try clear c40
         try clear c44
         try clear Fl
         try clear c50
         try clear c51
         try clear c59
         try clear c60
         try clear c61
         try clear c63
         try clear c64
         try clear p64
         try clear Vu
         try clear Vv
         try clear Vw
         try clear Vx
         try clear Vy
         try clear Vz
         try clear G0
         try clear G1
         try clear G2
         try clear G3
         try clear G4
         try clear G5
         try clear G6
         try clear G7
         try clear Wn
         try clear Wo
         try clear Wp
         try clear Wq
         try clear Wv
         try clear Ww
         try clear Wx
         try clear Wy
         try clear G8
         try clear G9
         try clear Ga
         try clear Gb
         try clear Gc
         try clear Gd
         try clear Ge
         try clear Gf
         try clear Gg
         try clear Gh
         try clear Gi
         try clear Gj
         try clear Gk
         try clear Gl
         try clear Wr
         try clear Ws
         try clear Wt
         try clear Wu
         try clear Wz
         try clear V0
         try clear V1
         try clear V2
         try clear Yn
         try clear Yo
         try clear Yp
         try clear Yq
         try clear Yr
         try clear Ys
         try clear Jo
         try clear Jp
         try clear Jq
         try clear Jr
         try clear Js
         try clear Jt
         try clear p721
         try clear p723
         try clear q721
         try clear q723
         obtain ⟨x81_2, z4, j9, rfl, HA, HK2, y2, y3, j1, j2, q2, q4, q5, j0, j6, HB⟩ := hrel
         cases gk with
         | zero => exact absurd HA.out (by simp [Qad.l1])
         | succ k2 =>
          have H := HA.out
          clear HA
          simp only [Qad.l1] at H
          by_cases c66 : x81_2 < (q0.length : Int)
          ·
           rw [if_pos c66] at H
           have Fm : decide (x81_2 < (q0.length : Int)) = true := decide_eq_true c66
           clear c66
           by_cases c67 : 0 ≤ x81_2
           ·
            rw [if_pos c67] at H
            have D7 : decide (0 ≤ x81_2) = true := decide_eq_true c67
            clear c67
            by_cases c68 : x81_2 < (q0.length : Int)
            ·
             rw [if_pos c68] at H
             have D8 : decide (x81_2 < (q0.length : Int)) = true := decide_eq_true c68
             clear c68
             by_cases c69 : x81_2 < (q3.length : Int)
             ·
              rw [if_pos c69] at H
              have D9 : decide (x81_2 < (q3.length : Int)) = true := decide_eq_true c69
              clear c69
              have H' := Qaa.mk H
              clear H
              have p731 : 0 ≤ (x81_2 : Int) := of_decide_eq_true (by first | (with_reducible assumption) | assumption)
              have q731 : x81_2 < (q0.length : Int) := of_decide_eq_true (by first | (with_reducible assumption) | assumption)
              obtain ⟨ad731, Zv, Zw, Zx, Zy, Zz, J0, J1, J2, J3, J4, e731, Yx, Yy, Yz, X0, X1, X2, hl731_1, hi731_1, hl731_2, hi731_2, hl731_3, hi731_3, hl731_4, hi731_4, hl731_5, hi731_5⟩ := at_T39 Vl.out x81_2 p731 q731
              cases e731
              replace Yx := (HB.out.cell (World.block_lt_of_cell? w _ Yx)).trans Yx
              replace Yy := (HB.out.cell (World.block_lt_of_cell? w _ Yy)).trans Yy
              replace Yz := (HB.out.cell (World.block_lt_of_cell? w _ Yz)).trans Yz
              replace X0 := (HB.out.cell (World.block_lt_of_cell? w _ X0)).trans X0
              replace X1 := (HB.out.cell (World.block_lt_of_cell? w _ X1)).trans X1
              replace X2 := (HB.out.cell (World.block_lt_of_cell? w _ X2)).trans X2
              have Xf := Qaa.mk hi731_1
              have Xg := Qaa.mk hl731_1
              clear hi731_1 hl731_1
              have Xh := Qaa.mk hi731_2
              have Xi := Qaa.mk hl731_2
              clear hi731_2 hl731_2
              have Xj := Qaa.mk hi731_3
              have Xk := Qaa.mk hl731_3
              clear hi731_3 hl731_3
              have Xl := Qaa.mk hi731_4
              have Xm := Qaa.mk hl731_4
              clear hi731_4 hl731_4
              have Xn := Qaa.mk hi731_5
              have Xo := Qaa.mk hl731_5
              clear hi731_5 hl731_5
              replace p731 := eq_true p731
              replace q731 := eq_true q731
              go_wp2_with (first | ((with_reducible refine gate_dst (N := 14) rfl ?_); refine bx 14 #[.int .i64 0, .slice none 0 0, .slice none 0 0, .slice none 0 0, .slice none 0 0, .slice none 0 0] 39 ?_; intro q8 hg w70 hbox hb; have j7 := Qaa.mk (hbox); have Xp := Qaa.mk ((by rw [hg]; exact (below_size (bl HB)) : w.heap.size ≤ q8)); have qn6 := Qaa.mk ((by rw [hg]; exact (below_size (bl HB)) : w.heap.size ≤ q8)); have Y0 := Qaa.mk ((by rw [hg]; exact Nat.ne_of_lt (blk_lt (Ub q4)) : j5 ≠ q8)); have Y1 := Qaa.mk ((by rw [hg]; exact Nat.ne_of_gt (blk_lt (Ub q4)) : q8 ≠ j5)); have Y2 := Qaa.mk ((by rw [hg]; exact Nat.ne_of_lt (blk_lt (Ub q5)) : j3 ≠ q8)); have Y3 := Qaa.mk ((by rw [hg]; exact Nat.ne_of_gt (blk_lt (Ub q5)) : q8 ≠ j3)); have Y4 := Qaa.mk ((by rw [hg]; exact Nat.ne_of_lt (blk_lt (Ub j0)) : j4 ≠ q8)); have Y5 := Qaa.mk ((by rw [hg]; exact Nat.ne_of_gt (blk_lt (Ub j0)) : q8 ≠ j4)); have Y6 := Qaa.mk ((by rw [hg]; exact Nat.ne_of_lt (blk_lt (Ub j6)) : q6 ≠ q8)); have Y7 := Qaa.mk ((by rw [hg]; exact Nat.ne_of_gt (blk_lt (Ub j6)) : q8 ≠ q6)); replace y2 := Qaa.mk (Kd.V_below (Kd.V_elderB (V_u y2.out) q8 (Nat.le_of_eq hg.symm)) hb); replace y3 := Qaa.mk (Kd.V_below (Kd.V_elderB (V_u y3.out) q8 (Nat.le_of_eq hg.symm)) hb); replace j1 := Qaa.mk (Kd.V_below (Kd.V_elderB (V_u j1.out) q8 (Nat.le_of_eq hg.symm)) hb); replace j2 := Qaa.mk (Kd.V_below (Kd.V_elderB (V_u j2.out) q8 (Nat.le_of_eq hg.symm)) hb); replace q2 := Qaa.mk (Kd.N_below (Kd.N_elderB (N_u q2.out) q8 (Nat.le_of_eq hg.symm)) hb); replace q4 := Bb q4 hb; replace q5 := Bb q5 hb; replace j0 := Bb j0 hb; replace j6 := Bb j6 hb; replace HB := bs HB hb; clear hb hbox hg; have qn7 := Y1.out; have qn8 := Y0.out; have qn9 := Y3.out; have qo0 := Y2.out; have qo1 := Y5.out; have qo2 := Y4.out; have qo3 := Y7.out; have qo4 := Y6.out; obtain ⟨Gm, Gn, Gp, Gq, Gr, Gs, Gt, Gu, Gv, Gw, Gx, Gy⟩ := cf6 j7; have qo5 := X8.out; have qo6 := X7.out; have qo7 := Xb.out; have qo8 := Xc.out; have qo9 := Qt.out; have qp0 := Ju.out; obtain ⟨Gz, F0, F1, F2, F3, F4, F5, F6⟩ := cf4 q5; have p733 : 0 ≤ (x81_2 : Int) := of_decide_eq_true (by first | (with_reducible assumption) | assumption); have q733 : x81_2 < (q3.length : Int) := of_decide_eq_true (by first | (with_reducible assumption) | assumption); obtain ⟨ad733, Zo, Zp, J5, J6, Jh, Ji, Jm, Jn, Jw, Jx, e733, Qh, Qu, Qv, Qw, Qx, Qy, hl733_1, hi733_1, hl733_2, hi733_2, hl733_3, hi733_3, hl733_4, hi733_4, hl733_5, hi733_5⟩ := at_T39 Vn.out x81_2 p733 q733; cases e733; have hn733_0 : ad733.block ≠ q8 := Nat.ne_of_lt (Nat.lt_of_lt_of_le (by have := World.block_lt_of_cell? _ _ Qh; first | rwa [add_block] at this | exact this) Xp.out); have hn733_1 : ad733.block ≠ q8 := Nat.ne_of_lt (Nat.lt_of_lt_of_le (by have := World.block_lt_of_cell? _ _ Qh; first | rwa [add_block] at this | exact this) Xp.out); have hn733_2 : ad733.block ≠ q8 := Nat.ne_of_lt (Nat.lt_of_lt_of_le (by have := World.block_lt_of_cell? _ _ Qh; first | rwa [add_block] at this | exact this) Xp.out); have hn733_3 : ad733.block ≠ q8 := Nat.ne_of_lt (Nat.lt_of_lt_of_le (by have := World.block_lt_of_cell? _ _ Qh; first | rwa [add_block] at this | exact this) Xp.out); have hn733_4 : ad733.block ≠ q8 := Nat.ne_of_lt (Nat.lt_of_lt_of_le (by have := World.block_lt_of_cell? _ _ Qh; first | rwa [add_block] at this | exact this) Xp.out); have hn733_5 : ad733.block ≠ q8 := Nat.ne_of_lt (Nat.lt_of_lt_of_le (by have := World.block_lt_of_cell? _ _ Qh; first | rwa [add_block] at this | exact this) Xp.out); replace Qh := (HB.out.cell (World.block_lt_of_cell? w _ Qh)).trans Qh; replace Qu := (HB.out.cell (World.block_lt_of_cell? w _ Qu)).trans Qu; replace Qv := (HB.out.cell (World.block_lt_of_cell? w _ Qv)).trans Qv; replace Qw := (HB.out.cell (World.block_lt_of_cell? w _ Qw)).trans Qw; replace Qx := (HB.out.cell (World.block_lt_of_cell? w _ Qx)).trans Qx; replace Qy := (HB.out.cell (World.block_lt_of_cell? w _ Qy)).trans Qy; have V3 := Qaa.mk hi733_1; have V4 := Qaa.mk hl733_1; clear hi733_1 hl733_1; have V5 := Qaa.mk hi733_2; have V6 := Qaa.mk hl733_2; clear hi733_2 hl733_2; have V7 := Qaa.mk hi733_3; have V8 := Qaa.mk hl733_3; clear hi733_3 hl733_3; have V9 := Qaa.mk hi733_4; have Va := Qaa.mk hl733_4; clear hi733_4 hl733_4; have Vb := Qaa.mk hi733_5; have Vc := Qaa.mk hl733_5; clear hi733_5 hl733_5; replace Qh := (cell_far (p := ⟨q8, 0, none⟩) (by first | (rw [add_block]; exact hn733_0) | (show (Addr.add _ _).block ≠ _; rw [add_block]; exact hn733_0) | exact hn733_0) (.int .i64 ((rd_T39 q0 x81_2).f0))).trans Qh; replace Qu := (cell_far (p := ⟨q8, 0, none⟩) (by first | (rw [add_block]; exact hn733_0) | (show (Addr.add _ _).block ≠ _; rw [add_block]; exact hn733_0) | exact hn733_0) (.int .i64 ((rd_T39 q0 x81_2).f0))).trans Qu; replace Qv := (cell_far (p := ⟨q8, 0, none⟩) (by first | (rw [add_block]; exact hn733_0) | (show (Addr.add _ _).block ≠ _; rw [add_block]; exact hn733_0) | exact hn733_0) (.int .i64 ((rd_T39 q0 x81_2).f0))).trans Qv; replace Qw := (cell_far (p := ⟨q8, 0, none⟩) (by first | (rw [add_block]; exact hn733_0) | (show (Addr.add _ _).block ≠ _; rw [add_block]; exact hn733_0) | exact hn733_0) (.int .i64 ((rd_T39 q0 x81_2).f0))).trans Qw; replace Qx := (cell_far (p := ⟨q8, 0, none⟩) (by first | (rw [add_block]; exact hn733_0) | (show (Addr.add _ _).block ≠ _; rw [add_block]; exact hn733_0) | exact hn733_0) (.int .i64 ((rd_T39 q0 x81_2).f0))).trans Qx; replace Qy := (cell_far (p := ⟨q8, 0, none⟩) (by first | (rw [add_block]; exact hn733_0) | (show (Addr.add _ _).block ≠ _; rw [add_block]; exact hn733_0) | exact hn733_0) (.int .i64 ((rd_T39 q0 x81_2).f0))).trans Qy; replace Qh := (cell_far (p := ⟨q8, 1, none⟩) (by first | (rw [add_block]; exact hn733_1) | (show (Addr.add _ _).block ≠ _; rw [add_block]; exact hn733_1) | exact hn733_1) (.slice Zv ((rd_T39 q0 x81_2).f1).length Zw)).trans Qh; replace Qu := (cell_far (p := ⟨q8, 1, none⟩) (by first | (rw [add_block]; exact hn733_1) | (show (Addr.add _ _).block ≠ _; rw [add_block]; exact hn733_1) | exact hn733_1) (.slice Zv ((rd_T39 q0 x81_2).f1).length Zw)).trans Qu; replace Qv := (cell_far (p := ⟨q8, 1, none⟩) (by first | (rw [add_block]; exact hn733_1) | (show (Addr.add _ _).block ≠ _; rw [add_block]; exact hn733_1) | exact hn733_1) (.slice Zv ((rd_T39 q0 x81_2).f1).length Zw)).trans Qv; replace Qw := (cell_far (p := ⟨q8, 1, none⟩) (by first | (rw [add_block]; exact hn733_1) | (show (Addr.add _ _).block ≠ _; rw [add_block]; exact hn733_1) | exact hn733_1) (.slice Zv ((rd_T39 q0 x81_2).f1).length Zw)).trans Qw; replace Qx := (cell_far (p := ⟨q8, 1, none⟩) (by first | (rw [add_block]; exact hn733_1) | (show (Addr.add _ _).block ≠ _; rw [add_block]; exact hn733_1) | exact hn733_1) (.slice Zv ((rd_T39 q0 x81_2).f1).length Zw)).trans Qx; replace Qy := (cell_far (p := ⟨q8, 1, none⟩) (by first | (rw [add_block]; exact hn733_1) | (show (Addr.add _ _).block ≠ _; rw [add_block]; exact hn733_1) | exact hn733_1) (.slice Zv ((rd_T39 q0 x81_2).f1).length Zw)).trans Qy; replace Qh := (cell_far (p := ⟨q8, 2, none⟩) (by first | (rw [add_block]; exact hn733_2) | (show (Addr.add _ _).block ≠ _; rw [add_block]; exact hn733_2) | exact hn733_2) (.slice Zx ((rd_T39 q0 x81_2).f2).length Zy)).trans Qh; replace Qu := (cell_far (p := ⟨q8, 2, none⟩) (by first | (rw [add_block]; exact hn733_2) | (show (Addr.add _ _).block ≠ _; rw [add_block]; exact hn733_2) | exact hn733_2) (.slice Zx ((rd_T39 q0 x81_2).f2).length Zy)).trans Qu; replace Qv := (cell_far (p := ⟨q8, 2, none⟩) (by first | (rw [add_block]; exact hn733_2) | (show (Addr.add _ _).block ≠ _; rw [add_block]; exact hn733_2) | exact hn733_2) (.slice Zx ((rd_T39 q0 x81_2).f2).length Zy)).trans Qv; replace Qw := (cell_far (p := ⟨q8, 2, none⟩) (by first | (rw [add_block]; exact hn733_2) | (show (Addr.add _ _).block ≠ _; rw [add_block]; exact hn733_2) | exact hn733_2) (.slice Zx ((rd_T39 q0 x81_2).f2).length Zy)).trans Qw; replace Qx := (cell_far (p := ⟨q8, 2, none⟩) (by first | (rw [add_block]; exact hn733_2) | (show (Addr.add _ _).block ≠ _; rw [add_block]; exact hn733_2) | exact hn733_2) (.slice Zx ((rd_T39 q0 x81_2).f2).length Zy)).trans Qx; replace Qy := (cell_far (p := ⟨q8, 2, none⟩) (by first | (rw [add_block]; exact hn733_2) | (show (Addr.add _ _).block ≠ _; rw [add_block]; exact hn733_2) | exact hn733_2) (.slice Zx ((rd_T39 q0 x81_2).f2).length Zy)).trans Qy; replace Qh := (cell_far (p := ⟨q8, 3, none⟩) (by first | (rw [add_block]; exact hn733_3) | (show (Addr.add _ _).block ≠ _; rw [add_block]; exact hn733_3) | exact hn733_3) (.slice Zz ((rd_T39 q0 x81_2).f3).length J0)).trans Qh; replace Qu := (cell_far (p := ⟨q8, 3, none⟩) (by first | (rw [add_block]; exact hn733_3) | (show (Addr.add _ _).block ≠ _; rw [add_block]; exact hn733_3) | exact hn733_3) (.slice Zz ((rd_T39 q0 x81_2).f3).length J0)).trans Qu; replace Qv := (cell_far (p := ⟨q8, 3, none⟩) (by first | (rw [add_block]; exact hn733_3) | (show (Addr.add _ _).block ≠ _; rw [add_block]; exact hn733_3) | exact hn733_3) (.slice Zz ((rd_T39 q0 x81_2).f3).length J0)).trans Qv; replace Qw := (cell_far (p := ⟨q8, 3, none⟩) (by first | (rw [add_block]; exact hn733_3) | (show (Addr.add _ _).block ≠ _; rw [add_block]; exact hn733_3) | exact hn733_3) (.slice Zz ((rd_T39 q0 x81_2).f3).length J0)).trans Qw; replace Qx := (cell_far (p := ⟨q8, 3, none⟩) (by first | (rw [add_block]; exact hn733_3) | (show (Addr.add _ _).block ≠ _; rw [add_block]; exact hn733_3) | exact hn733_3) (.slice Zz ((rd_T39 q0 x81_2).f3).length J0)).trans Qx; replace Qy := (cell_far (p := ⟨q8, 3, none⟩) (by first | (rw [add_block]; exact hn733_3) | (show (Addr.add _ _).block ≠ _; rw [add_block]; exact hn733_3) | exact hn733_3) (.slice Zz ((rd_T39 q0 x81_2).f3).length J0)).trans Qy; replace Qh := (cell_far (p := ⟨q8, 4, none⟩) (by first | (rw [add_block]; exact hn733_4) | (show (Addr.add _ _).block ≠ _; rw [add_block]; exact hn733_4) | exact hn733_4) (.slice J1 ((rd_T39 q0 x81_2).f4).length J2)).trans Qh; replace Qu := (cell_far (p := ⟨q8, 4, none⟩) (by first | (rw [add_block]; exact hn733_4) | (show (Addr.add _ _).block ≠ _; rw [add_block]; exact hn733_4) | exact hn733_4) (.slice J1 ((rd_T39 q0 x81_2).f4).length J2)).trans Qu; replace Qv := (cell_far (p := ⟨q8, 4, none⟩) (by first | (rw [add_block]; exact hn733_4) | (show (Addr.add _ _).block ≠ _; rw [add_block]; exact hn733_4) | exact hn733_4) (.slice J1 ((rd_T39 q0 x81_2).f4).length J2)).trans Qv; replace Qw := (cell_far (p := ⟨q8, 4, none⟩) (by first | (rw [add_block]; exact hn733_4) | (show (Addr.add _ _).block ≠ _; rw [add_block]; exact hn733_4) | exact hn733_4) (.slice J1 ((rd_T39 q0 x81_2).f4).length J2)).trans Qw; replace Qx := (cell_far (p := ⟨q8, 4, none⟩) (by first | (rw [add_block]; exact hn733_4) | (show (Addr.add _ _).block ≠ _; rw [add_block]; exact hn733_4) | exact hn733_4) (.slice J1 ((rd_T39 q0 x81_2).f4).length J2)).trans Qx; replace Qy := (cell_far (p := ⟨q8, 4, none⟩) (by first | (rw [add_block]; exact hn733_4) | (show (Addr.add _ _).block ≠ _; rw [add_block]; exact hn733_4) | exact hn733_4) (.slice J1 ((rd_T39 q0 x81_2).f4).length J2)).trans Qy; replace Qh := (cell_far (p := ⟨q8, 5, none⟩) (by first | (rw [add_block]; exact hn733_5) | (show (Addr.add _ _).block ≠ _; rw [add_block]; exact hn733_5) | exact hn733_5) (.slice J3 ((rd_T39 q0 x81_2).f5).length J4)).trans Qh; replace Qu := (cell_far (p := ⟨q8, 5, none⟩) (by first | (rw [add_block]; exact hn733_5) | (show (Addr.add _ _).block ≠ _; rw [add_block]; exact hn733_5) | exact hn733_5) (.slice J3 ((rd_T39 q0 x81_2).f5).length J4)).trans Qu; replace Qv := (cell_far (p := ⟨q8, 5, none⟩) (by first | (rw [add_block]; exact hn733_5) | (show (Addr.add _ _).block ≠ _; rw [add_block]; exact hn733_5) | exact hn733_5) (.slice J3 ((rd_T39 q0 x81_2).f5).length J4)).trans Qv; replace Qw := (cell_far (p := ⟨q8, 5, none⟩) (by first | (rw [add_block]; exact hn733_5) | (show (Addr.add _ _).block ≠ _; rw [add_block]; exact hn733_5) | exact hn733_5) (.slice J3 ((rd_T39 q0 x81_2).f5).length J4)).trans Qw; replace Qx := (cell_far (p := ⟨q8, 5, none⟩) (by first | (rw [add_block]; exact hn733_5) | (show (Addr.add _ _).block ≠ _; rw [add_block]; exact hn733_5) | exact hn733_5) (.slice J3 ((rd_T39 q0 x81_2).f5).length J4)).trans Qx; replace Qy := (cell_far (p := ⟨q8, 5, none⟩) (by first | (rw [add_block]; exact hn733_5) | (show (Addr.add _ _).block ≠ _; rw [add_block]; exact hn733_5) | exact hn733_5) (.slice J3 ((rd_T39 q0 x81_2).f5).length J4)).trans Qy; clear hn733_0; clear hn733_1; clear hn733_2; clear hn733_3; clear hn733_4; clear hn733_5; replace p733 := eq_true p733; replace q733 := eq_true q733) | ((with_reducible refine gate_dst (N := 15) rfl ?_); refine bx 15 #[.int .i64 0, .slice none 0 0, .slice none 0 0, .slice none 0 0, .slice none 0 0, .slice none 0 0] 39 ?_; intro q9 hg w80 hbox hb; have z0 := Qaa.mk (hbox); have qp1 := Qaa.mk ((by rw [hg]; exact (below_size (bl HB)) : w.heap.size ≤ q9)); have qp2 := Qaa.mk ((by rw [hg]; exact (below_size (bl HB)) : w.heap.size ≤ q9)); have Zb := Qaa.mk ((by rw [hg]; exact Nat.ne_of_lt (blk_lt (Ub q4)) : j5 ≠ q9)); have Yu := Qaa.mk ((by rw [hg]; exact Nat.ne_of_gt (blk_lt (Ub q4)) : q9 ≠ j5)); have Zc := Qaa.mk ((by rw [hg]; exact Nat.ne_of_lt (blk_lt (Ub q5)) : j3 ≠ q9)); have Yv := Qaa.mk ((by rw [hg]; exact Nat.ne_of_gt (blk_lt (Ub q5)) : q9 ≠ j3)); have Zd := Qaa.mk ((by rw [hg]; exact Nat.ne_of_lt (blk_lt (Ub j0)) : j4 ≠ q9)); have Yw := Qaa.mk ((by rw [hg]; exact Nat.ne_of_gt (blk_lt (Ub j0)) : q9 ≠ j4)); have Z2 := Qaa.mk ((by rw [hg]; exact Nat.ne_of_lt (blk_lt (Ub j6)) : q6 ≠ q9)); have Y8 := Qaa.mk ((by rw [hg]; exact Nat.ne_of_gt (blk_lt (Ub j6)) : q9 ≠ q6)); have Z1 := Qaa.mk ((by rw [hg]; exact Nat.ne_of_lt (blk_lt (Uf6 j7)) : q8 ≠ q9)); have Jv := Qaa.mk ((by rw [hg]; exact Nat.ne_of_gt (blk_lt (Uf6 j7)) : q9 ≠ q8)); replace y2 := Qaa.mk (Kd.V_below (Kd.V_elderB (Vf (g := q8) y2 (fun _ hk => hk.2)) q9 (Nat.le_of_eq hg.symm)) hb); replace y3 := Qaa.mk (Kd.V_below (Kd.V_elderB (Vf (g := q8) y3 (fun _ hk => hk.2)) q9 (Nat.le_of_eq hg.symm)) hb); replace j1 := Qaa.mk (Kd.V_below (Kd.V_elderB (Vf (g := q8) j1 (fun _ hk => hk.2)) q9 (Nat.le_of_eq hg.symm)) hb); replace j2 := Qaa.mk (Kd.V_below (Kd.V_elderB (Vf (g := q8) j2 (fun _ hk => hk.2)) q9 (Nat.le_of_eq hg.symm)) hb); replace q2 := Qaa.mk (Kd.N_below (Kd.N_elderB (Nf (g := q8) q2 (fun _ hk => hk.2)) q9 (Nat.le_of_eq hg.symm)) hb); replace q4 := Bb q4 hb; replace q5 := Bb q5 hb; replace j0 := Bb j0 hb; replace j6 := Bb j6 hb; replace j7 := Qaa.mk (blk_below (Uf6 j7) hb); replace HB := bs HB hb; clear hb hbox hg; have qp3 := Yu.out; have qp4 := Zb.out; have qp5 := Yv.out; have qp6 := Zc.out; have qp7 := Yw.out; have qp8 := Zd.out; have qp9 := Y8.out; have qq0 := Z2.out; have qq1 := Jv.out; have qq2 := Z1.out; obtain ⟨F7, F8, F9, Fa, Fb, Fc, Fd, Fe, Ff, Fg, Fh, Fi⟩ := cf6 z0))
              go_loopg [16, 93] k2 (fun kq v16 v93 w' => ∃ (x16_3 : List (S41)) (x93_3 : Int), v93 = .int .i64 x93_3 ∧ Qaa (Qad.l2 kq z7 z5 x16_3 q0 (q0.length : Int) x81_2 z7 (z7.length : Int) x93_3 Q2 q3 Q3 y8 (wrap64 ((z7.length : Int) + (z5.length : Int))) z4 true ((rd_T39 q0 x81_2).f0) ((rd_T39 q0 x81_2).f1) ((rd_T39 q0 x81_2).f2) ((rd_T39 q0 x81_2).f3) ((rd_T39 q0 x81_2).f4) ((rd_T39 q0 x81_2).f5) ((rd_T39 q3 x81_2).f0) ((rd_T39 q3 x81_2).f1) ((rd_T39 q3 x81_2).f2) ((rd_T39 q3 x81_2).f3) ((rd_T39 q3 x81_2).f4) ((rd_T39 q3 x81_2).f5) = some (r1, r2, r3, r4, r5)) ∧ Qaa (kq ≤ k2) ∧ Qaa (Kd.V (Kd.int .i64) 3 w' w.heap.size (fun k_ => ((z2 k_ ∨ z3 k_) ∨ w.heap.size ≤ k_) ∧ some k_ ≠ (v16 : Value).ownBlock ∧ some k_ ≠ (j9 : Value).ownBlock ∧ k_ ≠ j5 ∧ k_ ≠ j3 ∧ k_ ≠ j4 ∧ k_ ≠ q6 ∧ k_ ≠ q8 ∧ k_ ≠ q9) (.slice Vs z7.length Vt) z7) ∧ Qaa (Kd.V (Kd.int .i64) 3 w' w.heap.size (fun k_ => ((z2 k_ ∨ z3 k_) ∨ w.heap.size ≤ k_) ∧ some k_ ≠ (v16 : Value).ownBlock ∧ some k_ ≠ (j9 : Value).ownBlock ∧ k_ ≠ j5 ∧ k_ ≠ j3 ∧ k_ ≠ j4 ∧ k_ ≠ q6 ∧ k_ ≠ q8 ∧ k_ ≠ q9) (.slice Wl z5.length Wm) z5) ∧ Qaa (Kd.R k41 41 w' w.heap.size (fun k_ => (w.heap.size ≤ k_)) v16 x16_3) ∧ Qaa (Kd.V (Kd.int .i64) 3 w' w.heap.size (fun k_ => ((z2 k_ ∨ z3 k_) ∨ w.heap.size ≤ k_) ∧ some k_ ≠ (v16 : Value).ownBlock ∧ some k_ ≠ (j9 : Value).ownBlock ∧ k_ ≠ j5 ∧ k_ ≠ j3 ∧ k_ ≠ j4 ∧ k_ ≠ q6 ∧ k_ ≠ q8 ∧ k_ ≠ q9) (.slice Vs z7.length Vt) z7) ∧ Qaa (Kd.V (Kd.int .i64) 3 w' w.heap.size (fun k_ => ((z2 k_ ∨ z3 k_) ∨ w.heap.size ≤ k_) ∧ some k_ ≠ (v16 : Value).ownBlock ∧ some k_ ≠ (j9 : Value).ownBlock ∧ k_ ≠ j5 ∧ k_ ≠ j3 ∧ k_ ≠ j4 ∧ k_ ≠ q6 ∧ k_ ≠ q8 ∧ k_ ≠ q9) (.slice J9 Qs.length Ja) Qs) ∧ Qaa (Kd.V (Kd.int .i64) 3 w' w.heap.size (fun k_ => ((z2 k_ ∨ z3 k_) ∨ w.heap.size ≤ k_) ∧ some k_ ≠ (v16 : Value).ownBlock ∧ some k_ ≠ (j9 : Value).ownBlock ∧ k_ ≠ j5 ∧ k_ ≠ j3 ∧ k_ ≠ j4 ∧ k_ ≠ q6 ∧ k_ ≠ q8 ∧ k_ ≠ q9) (.slice Zr y8.length Zs) y8) ∧ Qaa (Kd.N k39 39 w' w.heap.size (fun k_ => ((z2 k_ ∨ z3 k_) ∨ w.heap.size ≤ k_) ∧ some k_ ≠ (v16 : Value).ownBlock ∧ k_ ≠ j5 ∧ k_ ≠ j3 ∧ k_ ≠ j4 ∧ k_ ≠ q6 ∧ k_ ≠ q8 ∧ k_ ≠ q9) j9 z4) ∧ Qaa (w'.heap[j5]? = some (.cells #[.int .i64 J7, (.slice (some ad731) q0.length Yt), .bool J8, (.slice J9 Qs.length Ja)] 26 (0, 0))) ∧ Qaa (w'.heap[j3]? = some (.cells #[.int .i64 Q2, (.slice (some ad733) q3.length Yl), .bool Q3, (.slice Zr y8.length Zs)] 26 (0, 0))) ∧ Qaa (w'.heap[j4]? = some (.cells #[.int .i64 Zq, (.slice none 0 0), .bool Za, (.slice none 0 0)] 26 (0, 0))) ∧ Qaa (w'.heap[q6]? = some (.cells #[.int .i64 (wrap64 ((z7.length : Int) + (z5.length : Int))), j9, .bool true, (.slice none 0 0)] 26 (0, 0))) ∧ Qaa (w'.heap[q8]? = some (.cells #[.int .i64 ((rd_T39 q0 x81_2).f0), (.slice Zv ((rd_T39 q0 x81_2).f1).length Zw), (.slice Zx ((rd_T39 q0 x81_2).f2).length Zy), (.slice Zz ((rd_T39 q0 x81_2).f3).length J0), (.slice J1 ((rd_T39 q0 x81_2).f4).length J2), (.slice J3 ((rd_T39 q0 x81_2).f5).length J4)] 39 (0, 0))) ∧ Qaa (w'.heap[q9]? = some (.cells #[.int .i64 ((rd_T39 q3 x81_2).f0), (.slice Zo ((rd_T39 q3 x81_2).f1).length Zp), (.slice J5 ((rd_T39 q3 x81_2).f2).length J6), (.slice Jh ((rd_T39 q3 x81_2).f3).length Ji), (.slice Jm ((rd_T39 q3 x81_2).f4).length Jn), (.slice Jw ((rd_T39 q3 x81_2).f5).length Jx)] 39 (0, 0))) ∧ Qaa (Below w.heap.size w w'))
              case atStart => exact ⟨(([] : List (S41))), (0), (by first | rfl | (simp; done) | (simp [*]; done)), H', ⟨Nat.le_refl _⟩, ⟨by apply V_u; exact Kd.V_mono (Kd.V_far (p := ⟨q9, 5, none⟩) (Kd.V_far (p := ⟨q9, 4, none⟩) (Kd.V_far (p := ⟨q9, 3, none⟩) (Kd.V_far (p := ⟨q9, 2, none⟩) (Kd.V_far (p := ⟨q9, 1, none⟩) (Kd.V_far (p := ⟨q9, 0, none⟩) (Kd.V_mono y2.out (fun k_ hk => (⟨hk, hk.2⟩ : _ ∧ k_ ≠ q9))) (fun _ hk => hk.2) (.int .i64 ((rd_T39 q3 x81_2).f0))) (fun _ hk => hk.2) (.slice Zo ((rd_T39 q3 x81_2).f1).length Zp)) (fun _ hk => hk.2) (.slice J5 ((rd_T39 q3 x81_2).f2).length J6)) (fun _ hk => hk.2) (.slice Jh ((rd_T39 q3 x81_2).f3).length Ji)) (fun _ hk => hk.2) (.slice Jm ((rd_T39 q3 x81_2).f4).length Jn)) (fun _ hk => hk.2) (.slice Jw ((rd_T39 q3 x81_2).f5).length Jx)) (fun _ hk => ⟨hk.1.1.1.1, ⟨(by simp [Value.ownBlock]), ⟨hk.1.1.1.2.1, ⟨hk.1.1.1.2.2.1, ⟨hk.1.1.1.2.2.2.1, ⟨hk.1.1.1.2.2.2.2.1, ⟨hk.1.1.1.2.2.2.2.2, ⟨hk.1.1.2, hk.1.2⟩⟩⟩⟩⟩⟩⟩⟩)⟩, ⟨by apply V_u; exact Kd.V_mono (Kd.V_far (p := ⟨q9, 5, none⟩) (Kd.V_far (p := ⟨q9, 4, none⟩) (Kd.V_far (p := ⟨q9, 3, none⟩) (Kd.V_far (p := ⟨q9, 2, none⟩) (Kd.V_far (p := ⟨q9, 1, none⟩) (Kd.V_far (p := ⟨q9, 0, none⟩) (Kd.V_mono y3.out (fun k_ hk => (⟨hk, hk.2⟩ : _ ∧ k_ ≠ q9))) (fun _ hk => hk.2) (.int .i64 ((rd_T39 q3 x81_2).f0))) (fun _ hk => hk.2) (.slice Zo ((rd_T39 q3 x81_2).f1).length Zp)) (fun _ hk => hk.2) (.slice J5 ((rd_T39 q3 x81_2).f2).length J6)) (fun _ hk => hk.2) (.slice Jh ((rd_T39 q3 x81_2).f3).length Ji)) (fun _ hk => hk.2) (.slice Jm ((rd_T39 q3 x81_2).f4).length Jn)) (fun _ hk => hk.2) (.slice Jw ((rd_T39 q3 x81_2).f5).length Jx)) (fun _ hk => ⟨hk.1.1.1.1, ⟨(by simp [Value.ownBlock]), ⟨hk.1.1.1.2.1, ⟨hk.1.1.1.2.2.1, ⟨hk.1.1.1.2.2.2.1, ⟨hk.1.1.1.2.2.2.2.1, ⟨hk.1.1.1.2.2.2.2.2, ⟨hk.1.1.2, hk.1.2⟩⟩⟩⟩⟩⟩⟩⟩)⟩, ⟨by first | exact Kd.R_nil _ _ _ _ _ | exact Kd.N_nil _ _ _ _ _ | exact Kd.V_nil _ _ _ _ _ | exact Kd.Q_nil _ _ _ _ _ | exact Kd.S_nil _ _ _ _ _⟩, ⟨by apply V_u; exact Kd.V_mono (Kd.V_far (p := ⟨q9, 5, none⟩) (Kd.V_far (p := ⟨q9, 4, none⟩) (Kd.V_far (p := ⟨q9, 3, none⟩) (Kd.V_far (p := ⟨q9, 2, none⟩) (Kd.V_far (p := ⟨q9, 1, none⟩) (Kd.V_far (p := ⟨q9, 0, none⟩) (Kd.V_mono y2.out (fun k_ hk => (⟨hk, hk.2⟩ : _ ∧ k_ ≠ q9))) (fun _ hk => hk.2) (.int .i64 ((rd_T39 q3 x81_2).f0))) (fun _ hk => hk.2) (.slice Zo ((rd_T39 q3 x81_2).f1).length Zp)) (fun _ hk => hk.2) (.slice J5 ((rd_T39 q3 x81_2).f2).length J6)) (fun _ hk => hk.2) (.slice Jh ((rd_T39 q3 x81_2).f3).length Ji)) (fun _ hk => hk.2) (.slice Jm ((rd_T39 q3 x81_2).f4).length Jn)) (fun _ hk => hk.2) (.slice Jw ((rd_T39 q3 x81_2).f5).length Jx)) (fun _ hk => ⟨hk.1.1.1.1, ⟨(by simp [Value.ownBlock]), ⟨hk.1.1.1.2.1, ⟨hk.1.1.1.2.2.1, ⟨hk.1.1.1.2.2.2.1, ⟨hk.1.1.1.2.2.2.2.1, ⟨hk.1.1.1.2.2.2.2.2, ⟨hk.1.1.2, hk.1.2⟩⟩⟩⟩⟩⟩⟩⟩)⟩, ⟨by apply V_u; exact Kd.V_mono (Kd.V_far (p := ⟨q9, 5, none⟩) (Kd.V_far (p := ⟨q9, 4, none⟩) (Kd.V_far (p := ⟨q9, 3, none⟩) (Kd.V_far (p := ⟨q9, 2, none⟩) (Kd.V_far (p := ⟨q9, 1, none⟩) (Kd.V_far (p := ⟨q9, 0, none⟩) (Kd.V_mono j1.out (fun k_ hk => (⟨hk, hk.2⟩ : _ ∧ k_ ≠ q9))) (fun _ hk => hk.2) (.int .i64 ((rd_T39 q3 x81_2).f0))) (fun _ hk => hk.2) (.slice Zo ((rd_T39 q3 x81_2).f1).length Zp)) (fun _ hk => hk.2) (.slice J5 ((rd_T39 q3 x81_2).f2).length J6)) (fun _ hk => hk.2) (.slice Jh ((rd_T39 q3 x81_2).f3).length Ji)) (fun _ hk => hk.2) (.slice Jm ((rd_T39 q3 x81_2).f4).length Jn)) (fun _ hk => hk.2) (.slice Jw ((rd_T39 q3 x81_2).f5).length Jx)) (fun _ hk => ⟨hk.1.1.1.1, ⟨(by simp [Value.ownBlock]), ⟨hk.1.1.1.2.1, ⟨hk.1.1.1.2.2.1, ⟨hk.1.1.1.2.2.2.1, ⟨hk.1.1.1.2.2.2.2.1, ⟨hk.1.1.1.2.2.2.2.2, ⟨hk.1.1.2, hk.1.2⟩⟩⟩⟩⟩⟩⟩⟩)⟩, ⟨by apply V_u; exact Kd.V_mono (Kd.V_far (p := ⟨q9, 5, none⟩) (Kd.V_far (p := ⟨q9, 4, none⟩) (Kd.V_far (p := ⟨q9, 3, none⟩) (Kd.V_far (p := ⟨q9, 2, none⟩) (Kd.V_far (p := ⟨q9, 1, none⟩) (Kd.V_far (p := ⟨q9, 0, none⟩) (Kd.V_mono j2.out (fun k_ hk => (⟨hk, hk.2⟩ : _ ∧ k_ ≠ q9))) (fun _ hk => hk.2) (.int .i64 ((rd_T39 q3 x81_2).f0))) (fun _ hk => hk.2) (.slice Zo ((rd_T39 q3 x81_2).f1).length Zp)) (fun _ hk => hk.2) (.slice J5 ((rd_T39 q3 x81_2).f2).length J6)) (fun _ hk => hk.2) (.slice Jh ((rd_T39 q3 x81_2).f3).length Ji)) (fun _ hk => hk.2) (.slice Jm ((rd_T39 q3 x81_2).f4).length Jn)) (fun _ hk => hk.2) (.slice Jw ((rd_T39 q3 x81_2).f5).length Jx)) (fun _ hk => ⟨hk.1.1.1.1, ⟨(by simp [Value.ownBlock]), ⟨hk.1.1.1.2.1, ⟨hk.1.1.1.2.2.1, ⟨hk.1.1.1.2.2.2.1, ⟨hk.1.1.1.2.2.2.2.1, ⟨hk.1.1.1.2.2.2.2.2, ⟨hk.1.1.2, hk.1.2⟩⟩⟩⟩⟩⟩⟩⟩)⟩, ⟨by apply N_u; exact Kd.N_mono (Kd.N_far (p := ⟨q9, 5, none⟩) (Kd.N_far (p := ⟨q9, 4, none⟩) (Kd.N_far (p := ⟨q9, 3, none⟩) (Kd.N_far (p := ⟨q9, 2, none⟩) (Kd.N_far (p := ⟨q9, 1, none⟩) (Kd.N_far (p := ⟨q9, 0, none⟩) (Kd.N_mono q2.out (fun k_ hk => (⟨hk, hk.2⟩ : _ ∧ k_ ≠ q9))) (fun _ hk => hk.2) (.int .i64 ((rd_T39 q3 x81_2).f0))) (fun _ hk => hk.2) (.slice Zo ((rd_T39 q3 x81_2).f1).length Zp)) (fun _ hk => hk.2) (.slice J5 ((rd_T39 q3 x81_2).f2).length J6)) (fun _ hk => hk.2) (.slice Jh ((rd_T39 q3 x81_2).f3).length Ji)) (fun _ hk => hk.2) (.slice Jm ((rd_T39 q3 x81_2).f4).length Jn)) (fun _ hk => hk.2) (.slice Jw ((rd_T39 q3 x81_2).f5).length Jx)) (fun _ hk => ⟨hk.1.1.1.1, ⟨(by simp [Value.ownBlock]), ⟨hk.1.1.1.2.1, ⟨hk.1.1.1.2.2.1, ⟨hk.1.1.1.2.2.2.1, ⟨hk.1.1.1.2.2.2.2, ⟨hk.1.1.2, hk.1.2⟩⟩⟩⟩⟩⟩⟩)⟩, ⟨by apply blk_u; refine blk_far ?_ Zb.out _; apply blk_u; refine blk_far ?_ Zb.out _; apply blk_u; refine blk_far ?_ Zb.out _; apply blk_u; refine blk_far ?_ Zb.out _; apply blk_u; refine blk_far ?_ Zb.out _; apply blk_u; refine blk_far ?_ Zb.out _; apply blk_u; exact q4.out⟩, ⟨by apply blk_u; refine blk_far ?_ Zc.out _; apply blk_u; refine blk_far ?_ Zc.out _; apply blk_u; refine blk_far ?_ Zc.out _; apply blk_u; refine blk_far ?_ Zc.out _; apply blk_u; refine blk_far ?_ Zc.out _; apply blk_u; refine blk_far ?_ Zc.out _; apply blk_u; exact q5.out⟩, ⟨by apply blk_u; refine blk_far ?_ Zd.out _; apply blk_u; refine blk_far ?_ Zd.out _; apply blk_u; refine blk_far ?_ Zd.out _; apply blk_u; refine blk_far ?_ Zd.out _; apply blk_u; refine blk_far ?_ Zd.out _; apply blk_u; refine blk_far ?_ Zd.out _; apply blk_u; exact j0.out⟩, ⟨by apply blk_u; refine blk_far ?_ Z2.out _; apply blk_u; refine blk_far ?_ Z2.out _; apply blk_u; refine blk_far ?_ Z2.out _; apply blk_u; refine blk_far ?_ Z2.out _; apply blk_u; refine blk_far ?_ Z2.out _; apply blk_u; refine blk_far ?_ Z2.out _; apply blk_u; exact j6.out⟩, ⟨by apply blk_u; refine blk_far ?_ Z1.out _; apply blk_u; refine blk_far ?_ Z1.out _; apply blk_u; refine blk_far ?_ Z1.out _; apply blk_u; refine blk_far ?_ Z1.out _; apply blk_u; refine blk_far ?_ Z1.out _; apply blk_u; refine blk_far ?_ Z1.out _; apply blk_u; exact j7.out⟩, ⟨by apply blk_u; refine blk_put (cs := #[.int .i64 ((rd_T39 q3 x81_2).f0), .slice Zo ((rd_T39 q3 x81_2).f1).length Zp, .slice J5 ((rd_T39 q3 x81_2).f2).length J6, .slice Jh ((rd_T39 q3 x81_2).f3).length Ji, .slice Jm ((rd_T39 q3 x81_2).f4).length Jn, .slice none 0 0]) ?_ 5 _ rfl; apply blk_u; refine blk_put (cs := #[.int .i64 ((rd_T39 q3 x81_2).f0), .slice Zo ((rd_T39 q3 x81_2).f1).length Zp, .slice J5 ((rd_T39 q3 x81_2).f2).length J6, .slice Jh ((rd_T39 q3 x81_2).f3).length Ji, .slice none 0 0, .slice none 0 0]) ?_ 4 _ rfl; apply blk_u; refine blk_put (cs := #[.int .i64 ((rd_T39 q3 x81_2).f0), .slice Zo ((rd_T39 q3 x81_2).f1).length Zp, .slice J5 ((rd_T39 q3 x81_2).f2).length J6, .slice none 0 0, .slice none 0 0, .slice none 0 0]) ?_ 3 _ rfl; apply blk_u; refine blk_put (cs := #[.int .i64 ((rd_T39 q3 x81_2).f0), .slice Zo ((rd_T39 q3 x81_2).f1).length Zp, .slice none 0 0, .slice none 0 0, .slice none 0 0, .slice none 0 0]) ?_ 2 _ rfl; apply blk_u; refine blk_put (cs := #[.int .i64 ((rd_T39 q3 x81_2).f0), .slice none 0 0, .slice none 0 0, .slice none 0 0, .slice none 0 0, .slice none 0 0]) ?_ 1 _ rfl; apply blk_u; refine blk_put (cs := #[.int .i64 0, .slice none 0 0, .slice none 0 0, .slice none 0 0, .slice none 0 0, .slice none 0 0]) ?_ 0 _ rfl; apply blk_u; exact z0.out⟩, ⟨bl HB⟩⟩
              case round =>
               clear H'
               try clear c1
               try clear c2
               try clear p2
               try clear c3
               try clear c4
               try clear c5
               try clear c6
               try clear p6
               try clear c7
               try clear p7
               try clear q7
               try clear hx7
               try clear c8
               try clear c20
               try clear Vo
               try clear c21
               try clear c22
               try clear c23
               try clear c24
               try clear Fj
               try clear Fk
               try clear c33
               try clear c34
               try clear c35
               try clear c39
               try clear c40
               try clear c44
               try clear Fl
               try clear c50
               try clear c51
               try clear c59
               try clear c60
               try clear c61
               try clear c63
               try clear c64
               try clear p64
               try clear c66
               try clear Fm
               try clear c67
               try clear D7
               try clear c68
               try clear D8
               try clear c69
               try clear D9
               try clear c71
               try clear c72
               try clear p72
               try clear q72
               try clear hx72
               try clear c73
               try clear p73
               try clear q73
               try clear hx73
               try clear c74
               try clear c76
               try clear c77
               try clear c78
               try clear c81
               try clear c82
               try clear c83
               try clear c84
               try clear c85
               try clear Vu
               try clear Vv
               try clear Vw
               try clear Vx
               try clear Vy
               try clear Vz
               try clear G0
               try clear G1
               try clear G2
               try clear G3
               try clear G4
               try clear G5
               try clear G6
               try clear G7
               try clear Wn
               try clear Wo
               try clear Wp
               try clear Wq
               try clear Wv
               try clear Ww
               try clear Wx
               try clear Wy
               try clear Gm
               try clear Gn
               try clear Gp
               try clear Gq
               try clear Gr
               try clear Gs
               try clear Gz
               try clear F0
               try clear F1
               try clear F2
               try clear F7
               try clear F8
               try clear F9
               try clear Fa
               try clear Fb
               try clear Fc
               try clear G8
               try clear G9
               try clear Ga
               try clear Gb
               try clear Gc
               try clear Gd
               try clear Ge
               try clear Gf
               try clear Gg
               try clear Gh
               try clear Gi
               try clear Gj
               try clear Gk
               try clear Gl
               try clear Wr
               try clear Ws
               try clear Wt
               try clear Wu
               try clear Wz
               try clear V0
               try clear V1
               try clear V2
               try clear Gt
               try clear Gu
               try clear Gv
               try clear Gw
               try clear Gx
               try clear Gy
               try clear F3
               try clear F4
               try clear F5
               try clear F6
               try clear Fd
               try clear Fe
               try clear Ff
               try clear Fg
               try clear Fh
               try clear Fi
               try clear Yn
               try clear Yo
               try clear Yp
               try clear Yq
               try clear Yr
               try clear Ys
               try clear Jo
               try clear Jp
               try clear Jq
               try clear Jr
               try clear Js
               try clear Jt
               try clear Yx
               try clear Yy
               try clear Yz
               try clear X0
               try clear X1
               try clear X2
               try clear Qh
               try clear Qu
               try clear Qv
               try clear Qw
               try clear Qx
               try clear Qy
               try clear p2
               try clear p6
               try clear p64
               try clear p7
               try clear p721
               try clear p723
               try clear p731
               try clear p733
               try clear q7
               try clear q721
               try clear q723
               try clear q731
               try clear q733
               obtain ⟨x16_3, x93_3, rfl, HA, HK3, y2, y3, j8, Xq, j1, j2, q2, q4, q5, j0, j6, j7, z0, HB⟩ := hrel
               cases gk with
               | zero => exact absurd HA.out (by simp [Qad.l2])
               | succ k3 =>
                have H := HA.out
                clear HA
                simp only [Qad.l2] at H
                by_cases c87 : x93_3 < (z7.length : Int)
                ·
                 rw [if_pos c87] at H
                 have Da : decide (x93_3 < (z7.length : Int)) = true := decide_eq_true c87
                 clear c87
                 by_cases c88 : 0 ≤ x93_3
                 ·
                  rw [if_pos c88] at H
                  have q0o : decide (0 ≤ x93_3) = true := decide_eq_true c88
                  clear c88
                  by_cases c89 : x93_3 < (z7.length : Int)
                  ·
                   rw [if_pos c89] at H
                   have q0p : decide (x93_3 < (z7.length : Int)) = true := decide_eq_true c89
                   clear c89
                   replace H := Option.bind_eq_some_iff.mp H
                   obtain ⟨⟨Vd, Ve, Vg⟩, q0c, H⟩ := H
                   replace H : (if x16_3.length < 4398046511104 then (Qad.l2 k3 z7 z5 (x16_3 ++ [(⟨Vd, Ve, Vg⟩ : S41)]) q0 (q0.length : Int) x81_2 z7 (z7.length : Int) (wrap64 (x93_3 + 1)) Q2 q3 Q3 y8 (wrap64 ((z7.length : Int) + (z5.length : Int))) z4 true ((rd_T39 q0 x81_2).f0) ((rd_T39 q0 x81_2).f1) ((rd_T39 q0 x81_2).f2) ((rd_T39 q0 x81_2).f3) ((rd_T39 q0 x81_2).f4) ((rd_T39 q0 x81_2).f5) ((rd_T39 q3 x81_2).f0) ((rd_T39 q3 x81_2).f1) ((rd_T39 q3 x81_2).f2) ((rd_T39 q3 x81_2).f3) ((rd_T39 q3 x81_2).f4) ((rd_T39 q3 x81_2).f5)) else (none)) = some (r1, r2, r3, r4, r5) := H
                   have A90 := Qaa.mk q0c
                   clear q0c
                   by_cases c91 : x16_3.length < 4398046511104
                   ·
                    rw [if_pos c91] at H
                    have LMc91 := Qaa.mk c91
                    clear c91
                    obtain ⟨y739, hy739⟩ : ∃ y_ : List (S41), y_ = (x16_3 ++ [(⟨Vd, Ve, Vg⟩ : S41)]) := ⟨_, rfl⟩
                    replace H : (Qad.l2 k3 z7 z5 y739 q0 (q0.length : Int) x81_2 z7 (z7.length : Int) (wrap64 (x93_3 + 1)) Q2 q3 Q3 y8 (wrap64 ((z7.length : Int) + (z5.length : Int))) z4 true ((rd_T39 q0 x81_2).f0) ((rd_T39 q0 x81_2).f1) ((rd_T39 q0 x81_2).f2) ((rd_T39 q0 x81_2).f3) ((rd_T39 q0 x81_2).f4) ((rd_T39 q0 x81_2).f5) ((rd_T39 q3 x81_2).f0) ((rd_T39 q3 x81_2).f1) ((rd_T39 q3 x81_2).f2) ((rd_T39 q3 x81_2).f3) ((rd_T39 q3 x81_2).f4) ((rd_T39 q3 x81_2).f5)) = some (r1, r2, r3, r4, r5) := by first | (rw [hy739]; with_reducible exact H) | (have H2_ := (Option.bind_some _ _).symm.trans H; rw [hy739]; with_reducible exact H2_) | (have H2_ := (Option.bind_some _ _).symm.trans H; with_reducible exact H2_) | with_reducible exact H | (rw [hy739]; exact H) | exact H
                    have Ny739 := Qaa.mk hy739
                    clear hy739
                    have H' := Qaa.mk H
                    clear H
                    have p735 : 0 ≤ (x93_3 : Int) := of_decide_eq_true (by first | (with_reducible assumption) | assumption)
                    have q735 : x93_3 < (z7.length : Int) := of_decide_eq_true (by first | (with_reducible assumption) | assumption)
                    obtain ⟨ad735, e735, Kn⟩ := Kd.at_int (Kd.V_reads' Xq.out).2.2 x93_3 p735 q735
                    cases e735
                    replace p735 := eq_true p735
                    replace q735 := eq_true q735
                    have qq3 := Y1.out
                    have qq4 := Y0.out
                    have qq5 := Y3.out
                    have qq6 := Y2.out
                    have qq7 := Y5.out
                    have qq8 := Y4.out
                    have qq9 := Y7.out
                    have qr0 := Y6.out
                    have qr1 := Z1.out
                    have qr2 := Jv.out
                    obtain ⟨Ko, Kp, Kq, Kr, Ks, Kt, Ku, Kv, Kw, Kx, Ky, Kz⟩ := cf6 j7
                    go_wp2_with (first | ((with_reducible refine gate_callee (f := 26) rfl ?_); refine gL (some 100) Try.func26 #[.agg #[.int .i64 ((rd_T39 q0 x81_2).f0), .slice Zv ((rd_T39 q0 x81_2).f1).length Zw, .slice Zx ((rd_T39 q0 x81_2).f2).length Zy, .slice Zz ((rd_T39 q0 x81_2).f3).length J0, .slice J1 ((rd_T39 q0 x81_2).f4).length J2, .slice J3 ((rd_T39 q0 x81_2).f5).length J4], .int .i64 (rd z7 x93_3)] ?_; (with_reducible refine (Qat.calls ((rd_T39 q0 x81_2).f0) _ _ ((rd_T39 q0 x81_2).f1) _ _ ((rd_T39 q0 x81_2).f2) _ _ ((rd_T39 q0 x81_2).f3) _ _ ((rd_T39 q0 x81_2).f4) _ _ ((rd_T39 q0 x81_2).f5) (rd z7 x93_3) Vd Ve Vg _ ?side1 ?side2 ?side3 ?side4 ?side5 ?side6 ?side7 ?side8 ?side9 ?side10 A90.out).mono ?_); (case side1 => exact Cb Xf HB); (case side2 => exact Xg.out); (case side3 => exact Cb Xh HB); (case side4 => exact Xi.out); (case side5 => exact Cb Xj HB); (case side6 => exact Xk.out); (case side7 => exact Cb Xl HB); (case side8 => exact Xm.out); (case side9 => exact Cb Xn HB); (case side10 => exact Xo.out); rintro e w98 ⟨rfl, hb⟩; refine ⟨_, rfl, ?_⟩; replace y2 := Qaa.mk (Kd.V_below (V_u y2.out) hb); replace y3 := Qaa.mk (Kd.V_below (V_u y3.out) hb); replace j8 := Rb j8 hb; replace Xq := Qaa.mk (Kd.V_below (V_u Xq.out) hb); replace j1 := Qaa.mk (Kd.V_below (V_u j1.out) hb); replace j2 := Qaa.mk (Kd.V_below (V_u j2.out) hb); replace q2 := Qaa.mk (Kd.N_below (N_u q2.out) hb); replace q4 := Bb q4 hb; replace q5 := Bb q5 hb; replace j0 := Bb j0 hb; replace j6 := Bb j6 hb; replace j7 := Bb j7 hb; replace z0 := Bb z0 hb; replace HB := bs HB hb; (try clear hb)) | ((with_reducible refine gate_builtin (b := .append) (xs := #[.tmp 97, .tmp 101]) rfl ?_); at_builtin; refine Kd.R_append k41 (w0 := w) w.heap.size rfl (.tmp 97) (.tmp 101) 75 41 (.agg #[(.int .i64 0), (.int .i64 0), (.string ⟨#[]⟩)]) 32 rfl Try.underlying75 info41 rfl (by decide) (by omega) u16 x16_3 (⟨Vd, Ve, Vg⟩ : S41) [.int .i64 Vd, .int .i64 Ve, .string Vg] (fun k_ => (w.heap.size ≤ k_)) (fun _ => False) rfl rfl ?aP (fun _ hk => hk.elim) ?aF ?aO ?aB ?aS ?aL ?_; (case aP => exact k41_mkM _ _ _ (⟨Vd, Ve, Vg⟩ : S41)); (case aB => exact (bl HB)); (case aF => exact (fun k_ hk => (Nat.le_trans (below_size (bl HB)) hk))); (case aO => exact (R_u j8.out)); (case aS => exact (below_size (bl HB))); (case aL => have := LMc91.out; omega); intro qr5 w99 ho hb hg hat; rw [← Ny739.out] at ho; have q0q := Qaa.mk (ho); replace y2 := Qaa.mk (Kd.V_afterv (ok := (fun k_ => ((z2 k_ ∨ z3 k_) ∨ w.heap.size ≤ k_) ∧ some k_ ≠ (j9 : Value).ownBlock ∧ k_ ≠ j5 ∧ k_ ≠ j3 ∧ k_ ≠ j4 ∧ k_ ≠ q6 ∧ k_ ≠ q8 ∧ k_ ≠ q9)) (by apply V_u; exact Vm y2.out) hg hat); replace y3 := Qaa.mk (Kd.V_afterv (ok := (fun k_ => ((z2 k_ ∨ z3 k_) ∨ w.heap.size ≤ k_) ∧ some k_ ≠ (j9 : Value).ownBlock ∧ k_ ≠ j5 ∧ k_ ≠ j3 ∧ k_ ≠ j4 ∧ k_ ≠ q6 ∧ k_ ≠ q8 ∧ k_ ≠ q9)) (by apply V_u; exact Vm y3.out) hg hat); replace Xq := Qaa.mk (Kd.V_afterv (ok := (fun k_ => ((z2 k_ ∨ z3 k_) ∨ w.heap.size ≤ k_) ∧ some k_ ≠ (j9 : Value).ownBlock ∧ k_ ≠ j5 ∧ k_ ≠ j3 ∧ k_ ≠ j4 ∧ k_ ≠ q6 ∧ k_ ≠ q8 ∧ k_ ≠ q9)) (by apply V_u; exact Vm Xq.out) hg hat); replace j1 := Qaa.mk (Kd.V_afterv (ok := (fun k_ => ((z2 k_ ∨ z3 k_) ∨ w.heap.size ≤ k_) ∧ some k_ ≠ (j9 : Value).ownBlock ∧ k_ ≠ j5 ∧ k_ ≠ j3 ∧ k_ ≠ j4 ∧ k_ ≠ q6 ∧ k_ ≠ q8 ∧ k_ ≠ q9)) (by apply V_u; exact Vm j1.out) hg hat); replace j2 := Qaa.mk (Kd.V_afterv (ok := (fun k_ => ((z2 k_ ∨ z3 k_) ∨ w.heap.size ≤ k_) ∧ some k_ ≠ (j9 : Value).ownBlock ∧ k_ ≠ j5 ∧ k_ ≠ j3 ∧ k_ ≠ j4 ∧ k_ ≠ q6 ∧ k_ ≠ q8 ∧ k_ ≠ q9)) (by apply V_u; exact Vm j2.out) hg hat); replace q2 := Qaa.mk (Kd.N_afterv (ok := (fun k_ => ((z2 k_ ∨ z3 k_) ∨ w.heap.size ≤ k_) ∧ k_ ≠ j5 ∧ k_ ≠ j3 ∧ k_ ≠ j4 ∧ k_ ≠ q6 ∧ k_ ≠ q8 ∧ k_ ≠ q9)) (by apply N_u; exact Nm q2.out) hg hat); replace q4 := Qaa.mk (blk_grown (Ub q4) hg (Kd.R_ne j8.out q4.out (by decide))); replace q5 := Qaa.mk (blk_grown (Ub q5) hg (Kd.R_ne j8.out q5.out (by decide))); replace j0 := Qaa.mk (blk_grown (Ub j0) hg (Kd.R_ne j8.out j0.out (by decide))); replace j6 := Qaa.mk (blk_grown (Ub j6) hg (Kd.R_ne j8.out j6.out (by decide))); replace j7 := Qaa.mk (blk_grown (Ub j7) hg (Kd.R_ne j8.out j7.out (by decide))); replace z0 := Qaa.mk (blk_grown (Ub z0) hg (Kd.R_ne j8.out z0.out (by decide))); replace HB := Qaa.mk (hb); clear j8; clear ho hb hg hat))
                    go_roundg k3
                    case measure => have := HK1.out; have := HK2.out; have := HK3.out; omega
                    case rel => exact ⟨(y739), (wrap64 (x93_3 + 1)), (by first | rfl | (simp; done) | (simp [*]; done)), H', ⟨by have := HK1.out; have := HK2.out; have := HK3.out; omega⟩, ⟨by apply V_u; exact Vm y2.out⟩, ⟨by apply V_u; exact Vm y3.out⟩, ⟨by apply R_u; exact q0q.out⟩, ⟨by apply V_u; exact Vm Xq.out⟩, ⟨by apply V_u; exact Vm j1.out⟩, ⟨by apply V_u; exact Vm j2.out⟩, ⟨by apply N_u; exact Nm q2.out⟩, ⟨by apply blk_u; exact q4.out⟩, ⟨by apply blk_u; exact q5.out⟩, ⟨by apply blk_u; exact j0.out⟩, ⟨by apply blk_u; exact j6.out⟩, ⟨by apply blk_u; exact j7.out⟩, ⟨by apply blk_u; exact z0.out⟩, ⟨bl HB⟩⟩
                   ·
                    rw [if_neg c91] at H
                    exact absurd H (by simp)
                  ·
                   rw [if_neg c89] at H
                   exact absurd H (by simp)
                 ·
                  rw [if_neg c88] at H
                  exact absurd H (by simp)
                ·
                 rw [if_neg c87] at H
                 have Da : decide (x93_3 < (z7.length : Int)) = false := decide_eq_false c87
                 clear c87
                 have H' := Qaa.mk H
                 clear H
                 go_wp2
                 go_loopg [16, 106] k3 (fun kq v16 q0z w' => ∃ (x16_4 : List (S41)) (x106_4 : Int), q0z = .int .i64 x106_4 ∧ Qaa (Qad.l3 kq z7 z5 x16_4 q0 (q0.length : Int) x81_2 z5 (z5.length : Int) x106_4 Q2 q3 Q3 y8 (wrap64 ((z7.length : Int) + (z5.length : Int))) z4 true ((rd_T39 q0 x81_2).f0) ((rd_T39 q0 x81_2).f1) ((rd_T39 q0 x81_2).f2) ((rd_T39 q0 x81_2).f3) ((rd_T39 q0 x81_2).f4) ((rd_T39 q0 x81_2).f5) ((rd_T39 q3 x81_2).f0) ((rd_T39 q3 x81_2).f1) ((rd_T39 q3 x81_2).f2) ((rd_T39 q3 x81_2).f3) ((rd_T39 q3 x81_2).f4) ((rd_T39 q3 x81_2).f5) = some (r1, r2, r3, r4, r5)) ∧ Qaa (kq ≤ k3) ∧ Qaa (Kd.V (Kd.int .i64) 3 w' w.heap.size (fun k_ => ((z2 k_ ∨ z3 k_) ∨ w.heap.size ≤ k_) ∧ some k_ ≠ (v16 : Value).ownBlock ∧ some k_ ≠ (j9 : Value).ownBlock ∧ k_ ≠ j5 ∧ k_ ≠ j3 ∧ k_ ≠ j4 ∧ k_ ≠ q6 ∧ k_ ≠ q8 ∧ k_ ≠ q9) (.slice Vs z7.length Vt) z7) ∧ Qaa (Kd.V (Kd.int .i64) 3 w' w.heap.size (fun k_ => ((z2 k_ ∨ z3 k_) ∨ w.heap.size ≤ k_) ∧ some k_ ≠ (v16 : Value).ownBlock ∧ some k_ ≠ (j9 : Value).ownBlock ∧ k_ ≠ j5 ∧ k_ ≠ j3 ∧ k_ ≠ j4 ∧ k_ ≠ q6 ∧ k_ ≠ q8 ∧ k_ ≠ q9) (.slice Wl z5.length Wm) z5) ∧ Qaa (Kd.R k41 41 w' w.heap.size (fun k_ => (w.heap.size ≤ k_)) v16 x16_4) ∧ Qaa (Kd.V (Kd.int .i64) 3 w' w.heap.size (fun k_ => ((z2 k_ ∨ z3 k_) ∨ w.heap.size ≤ k_) ∧ some k_ ≠ (v16 : Value).ownBlock ∧ some k_ ≠ (j9 : Value).ownBlock ∧ k_ ≠ j5 ∧ k_ ≠ j3 ∧ k_ ≠ j4 ∧ k_ ≠ q6 ∧ k_ ≠ q8 ∧ k_ ≠ q9) (.slice Wl z5.length Wm) z5) ∧ Qaa (Kd.V (Kd.int .i64) 3 w' w.heap.size (fun k_ => ((z2 k_ ∨ z3 k_) ∨ w.heap.size ≤ k_) ∧ some k_ ≠ (v16 : Value).ownBlock ∧ some k_ ≠ (j9 : Value).ownBlock ∧ k_ ≠ j5 ∧ k_ ≠ j3 ∧ k_ ≠ j4 ∧ k_ ≠ q6 ∧ k_ ≠ q8 ∧ k_ ≠ q9) (.slice J9 Qs.length Ja) Qs) ∧ Qaa (Kd.V (Kd.int .i64) 3 w' w.heap.size (fun k_ => ((z2 k_ ∨ z3 k_) ∨ w.heap.size ≤ k_) ∧ some k_ ≠ (v16 : Value).ownBlock ∧ some k_ ≠ (j9 : Value).ownBlock ∧ k_ ≠ j5 ∧ k_ ≠ j3 ∧ k_ ≠ j4 ∧ k_ ≠ q6 ∧ k_ ≠ q8 ∧ k_ ≠ q9) (.slice Zr y8.length Zs) y8) ∧ Qaa (Kd.N k39 39 w' w.heap.size (fun k_ => ((z2 k_ ∨ z3 k_) ∨ w.heap.size ≤ k_) ∧ some k_ ≠ (v16 : Value).ownBlock ∧ k_ ≠ j5 ∧ k_ ≠ j3 ∧ k_ ≠ j4 ∧ k_ ≠ q6 ∧ k_ ≠ q8 ∧ k_ ≠ q9) j9 z4) ∧ Qaa (w'.heap[j5]? = some (.cells #[.int .i64 J7, (.slice (some ad731) q0.length Yt), .bool J8, (.slice J9 Qs.length Ja)] 26 (0, 0))) ∧ Qaa (w'.heap[j3]? = some (.cells #[.int .i64 Q2, (.slice (some ad733) q3.length Yl), .bool Q3, (.slice Zr y8.length Zs)] 26 (0, 0))) ∧ Qaa (w'.heap[j4]? = some (.cells #[.int .i64 Zq, (.slice none 0 0), .bool Za, (.slice none 0 0)] 26 (0, 0))) ∧ Qaa (w'.heap[q6]? = some (.cells #[.int .i64 (wrap64 ((z7.length : Int) + (z5.length : Int))), j9, .bool true, (.slice none 0 0)] 26 (0, 0))) ∧ Qaa (w'.heap[q8]? = some (.cells #[.int .i64 ((rd_T39 q0 x81_2).f0), (.slice Zv ((rd_T39 q0 x81_2).f1).length Zw), (.slice Zx ((rd_T39 q0 x81_2).f2).length Zy), (.slice Zz ((rd_T39 q0 x81_2).f3).length J0), (.slice J1 ((rd_T39 q0 x81_2).f4).length J2), (.slice J3 ((rd_T39 q0 x81_2).f5).length J4)] 39 (0, 0))) ∧ Qaa (w'.heap[q9]? = some (.cells #[.int .i64 ((rd_T39 q3 x81_2).f0), (.slice Zo ((rd_T39 q3 x81_2).f1).length Zp), (.slice J5 ((rd_T39 q3 x81_2).f2).length J6), (.slice Jh ((rd_T39 q3 x81_2).f3).length Ji), (.slice Jm ((rd_T39 q3 x81_2).f4).length Jn), (.slice Jw ((rd_T39 q3 x81_2).f5).length Jx)] 39 (0, 0))) ∧ Qaa (Below w.heap.size w w'))
                 case atStart => exact ⟨(x16_3), (0), (by first | rfl | (simp; done) | (simp [*]; done)), H', ⟨Nat.le_refl _⟩, ⟨by apply V_u; exact y2.out⟩, ⟨by apply V_u; exact y3.out⟩, ⟨by apply R_u; exact j8.out⟩, ⟨by apply V_u; exact y3.out⟩, ⟨by apply V_u; exact j1.out⟩, ⟨by apply V_u; exact j2.out⟩, ⟨by apply N_u; exact q2.out⟩, ⟨by apply blk_u; exact q4.out⟩, ⟨by apply blk_u; exact q5.out⟩, ⟨by apply blk_u; exact j0.out⟩, ⟨by apply blk_u; exact j6.out⟩, ⟨by apply blk_u; exact j7.out⟩, ⟨by apply blk_u; exact z0.out⟩, ⟨bl HB⟩⟩
                 case round =>
                  clear H'
                  try clear c1
                  try clear c2
                  try clear p2
                  try clear c3
                  try clear c4
                  try clear c5
                  try clear c6
                  try clear p6
                  try clear c7
                  try clear p7
                  try clear q7
                  try clear hx7
                  try clear c8
                  try clear c9
                  try clear c20
                  try clear Vo
                  try clear c21
                  try clear c22
                  try clear c23
                  try clear c24
                  try clear Fj
                  try clear Fk
                  try clear c26
                  try clear c33
                  try clear c34
                  try clear c35
                  try clear c39
                  try clear c40
                  try clear c44
                  try clear Fl
                  try clear c50
                  try clear c51
                  try clear c59
                  try clear c60
                  try clear c61
                  try clear c63
                  try clear c64
                  try clear p64
                  try clear c66
                  try clear Fm
                  try clear c67
                  try clear D7
                  try clear c68
                  try clear D8
                  try clear c69
                  try clear D9
                  try clear c71
                  try clear c72
                  try clear p72
                  try clear q72
                  try clear hx72
                  try clear c73
                  try clear p73
                  try clear q73
                  try clear hx73
                  try clear c74
                  try clear c76
                  try clear c77
                  try clear c78
                  try clear c81
                  try clear c82
                  try clear c83
                  try clear c84
                  try clear c85
                  try clear c87
                  try clear Da
                  try clear c88
                  try clear q0o
                  try clear c89
                  try clear q0p
                  try clear c91
                  try clear c92
                  try clear c93
                  try clear c94
                  try clear c95
                  try clear c96
                  try clear Vu
                  try clear Vv
                  try clear Vw
                  try clear Vx
                  try clear Vy
                  try clear Vz
                  try clear G0
                  try clear G1
                  try clear G2
                  try clear G3
                  try clear G4
                  try clear G5
                  try clear G6
                  try clear G7
                  try clear Wn
                  try clear Wo
                  try clear Wp
                  try clear Wq
                  try clear Wv
                  try clear Ww
                  try clear Wx
                  try clear Wy
                  try clear Gm
                  try clear Gn
                  try clear Gp
                  try clear Gq
                  try clear Gr
                  try clear Gs
                  try clear Gz
                  try clear F0
                  try clear F1
                  try clear F2
                  try clear F7
                  try clear F8
                  try clear F9
                  try clear Fa
                  try clear Fb
                  try clear Fc
                  try clear Ko
                  try clear Kp
                  try clear Kq
                  try clear Kr
                  try clear Ks
                  try clear Kt
                  try clear G8
                  try clear G9
                  try clear Ga
                  try clear Gb
                  try clear Gc
                  try clear Gd
                  try clear Ge
                  try clear Gf
                  try clear Gg
                  try clear Gh
                  try clear Gi
                  try clear Gj
                  try clear Gk
                  try clear Gl
                  try clear Wr
                  try clear Ws
                  try clear Wt
                  try clear Wu
                  try clear Wz
                  try clear V0
                  try clear V1
                  try clear V2
                  try clear Gt
                  try clear Gu
                  try clear Gv
                  try clear Gw
                  try clear Gx
                  try clear Gy
                  try clear F3
                  try clear F4
                  try clear F5
                  try clear F6
                  try clear Fd
                  try clear Fe
                  try clear Ff
                  try clear Fg
                  try clear Fh
                  try clear Fi
                  try clear Ku
                  try clear Kv
                  try clear Kw
                  try clear Kx
                  try clear Ky
                  try clear Kz
                  try clear Yn
                  try clear Yo
                  try clear Yp
                  try clear Yq
                  try clear Yr
                  try clear Ys
                  try clear Jo
                  try clear Jp
                  try clear Jq
                  try clear Jr
                  try clear Js
                  try clear Jt
                  try clear Yx
                  try clear Yy
                  try clear Yz
                  try clear X0
                  try clear X1
                  try clear X2
                  try clear Qh
                  try clear Qu
                  try clear Qv
                  try clear Qw
                  try clear Qx
                  try clear Qy
                  try clear Kn
                  try clear p2
                  try clear p6
                  try clear p64
                  try clear p7
                  try clear p72
                  try clear p721
                  try clear p723
                  try clear p73
                  try clear p731
                  try clear p733
                  try clear p735
                  try clear q7
                  try clear q72
                  try clear q721
                  try clear q723
                  try clear q73
                  try clear q731
                  try clear q733
                  try clear q735
                  obtain ⟨x16_4, x106_4, rfl, HA, HK4, y2, y3, j8, Q0, j1, j2, q2, q4, q5, j0, j6, j7, z0, HB⟩ := hrel
                  cases gk with
                  | zero => exact absurd HA.out (by simp [Qad.l3])
                  | succ k4 =>
                   have H := HA.out
                   clear HA
                   simp only [Qad.l3] at H
                   by_cases Vh : x106_4 < (z5.length : Int)
                   ·
                    rw [if_pos Vh] at H
                    have q0d : decide (x106_4 < (z5.length : Int)) = true := decide_eq_true Vh
                    clear Vh
                    by_cases Fn : 0 ≤ x106_4
                    ·
                     rw [if_pos Fn] at H
                     have q9d : decide (0 ≤ x106_4) = true := decide_eq_true Fn
                     clear Fn
                     by_cases Fo : x106_4 < (z5.length : Int)
                     ·
                      rw [if_pos Fo] at H
                      have q9e : decide (x106_4 < (z5.length : Int)) = true := decide_eq_true Fo
                      clear Fo
                      replace H := Option.bind_eq_some_iff.mp H
                      obtain ⟨⟨Vi, Vj, Vk⟩, Db, H⟩ := H
                      replace H : (if x16_4.length < 4398046511104 then (Qad.l3 k4 z7 z5 (x16_4 ++ [(⟨Vi, Vj, Vk⟩ : S41)]) q0 (q0.length : Int) x81_2 z5 (z5.length : Int) (wrap64 (x106_4 + 1)) Q2 q3 Q3 y8 (wrap64 ((z7.length : Int) + (z5.length : Int))) z4 true ((rd_T39 q0 x81_2).f0) ((rd_T39 q0 x81_2).f1) ((rd_T39 q0 x81_2).f2) ((rd_T39 q0 x81_2).f3) ((rd_T39 q0 x81_2).f4) ((rd_T39 q0 x81_2).f5) ((rd_T39 q3 x81_2).f0) ((rd_T39 q3 x81_2).f1) ((rd_T39 q3 x81_2).f2) ((rd_T39 q3 x81_2).f3) ((rd_T39 q3 x81_2).f4) ((rd_T39 q3 x81_2).f5)) else (none)) = some (r1, r2, r3, r4, r5) := H
                      have q10 := Qaa.mk Db
                      clear Db
                      by_cases Fp : x16_4.length < 4398046511104
                      ·
                       rw [if_pos Fp] at H
                       have LMc104 := Qaa.mk Fp
                       clear Fp
                       obtain ⟨y746, hy746⟩ : ∃ y_ : List (S41), y_ = (x16_4 ++ [(⟨Vi, Vj, Vk⟩ : S41)]) := ⟨_, rfl⟩
                       replace H : (Qad.l3 k4 z7 z5 y746 q0 (q0.length : Int) x81_2 z5 (z5.length : Int) (wrap64 (x106_4 + 1)) Q2 q3 Q3 y8 (wrap64 ((z7.length : Int) + (z5.length : Int))) z4 true ((rd_T39 q0 x81_2).f0) ((rd_T39 q0 x81_2).f1) ((rd_T39 q0 x81_2).f2) ((rd_T39 q0 x81_2).f3) ((rd_T39 q0 x81_2).f4) ((rd_T39 q0 x81_2).f5) ((rd_T39 q3 x81_2).f0) ((rd_T39 q3 x81_2).f1) ((rd_T39 q3 x81_2).f2) ((rd_T39 q3 x81_2).f3) ((rd_T39 q3 x81_2).f4) ((rd_T39 q3 x81_2).f5)) = some (r1, r2, r3, r4, r5) := by first | (rw [hy746]; with_reducible exact H) | (have H2_ := (Option.bind_some _ _).symm.trans H; rw [hy746]; with_reducible exact H2_) | (have H2_ := (Option.bind_some _ _).symm.trans H; with_reducible exact H2_) | with_reducible exact H | (rw [hy746]; exact H) | exact H
                       have Ny746 := Qaa.mk hy746
                       clear hy746
                       have H' := Qaa.mk H
                       clear H
                       have p742 : 0 ≤ (x106_4 : Int) := of_decide_eq_true (by first | (with_reducible assumption) | assumption)
                       have q742 : x106_4 < (z5.length : Int) := of_decide_eq_true (by first | (with_reducible assumption) | assumption)
                       obtain ⟨ad742, e742, q9c⟩ := Kd.at_int (Kd.V_reads' Q0.out).2.2 x106_4 p742 q742
                       cases e742
                       replace p742 := eq_true p742
                       replace q742 := eq_true q742
                       have q9f := Yu.out
                       have q9g := Zb.out
                       have q9h := Yv.out
                       have q9i := Zc.out
                       have q9j := Yw.out
                       have q9k := Zd.out
                       have q9l := Y8.out
                       have q9m := Z2.out
                       have q9n := Jv.out
                       have q9o := Z1.out
                       obtain ⟨q11, q12, q13, q14, q15, q16, q17, q18, q19, q1a, q1b, q1c⟩ := cf6 z0
                       go_wp2_with (first | ((with_reducible refine gate_callee (f := 26) rfl ?_); refine gL (some 113) Try.func26 #[.agg #[.int .i64 ((rd_T39 q3 x81_2).f0), .slice Zo ((rd_T39 q3 x81_2).f1).length Zp, .slice J5 ((rd_T39 q3 x81_2).f2).length J6, .slice Jh ((rd_T39 q3 x81_2).f3).length Ji, .slice Jm ((rd_T39 q3 x81_2).f4).length Jn, .slice Jw ((rd_T39 q3 x81_2).f5).length Jx], .int .i64 (rd z5 x106_4)] ?_; (with_reducible refine (Qat.calls ((rd_T39 q3 x81_2).f0) _ _ ((rd_T39 q3 x81_2).f1) _ _ ((rd_T39 q3 x81_2).f2) _ _ ((rd_T39 q3 x81_2).f3) _ _ ((rd_T39 q3 x81_2).f4) _ _ ((rd_T39 q3 x81_2).f5) (rd z5 x106_4) Vi Vj Vk _ ?side1 ?side2 ?side3 ?side4 ?side5 ?side6 ?side7 ?side8 ?side9 ?side10 q10.out).mono ?_); (case side1 => exact Cb V3 HB); (case side2 => exact V4.out); (case side3 => exact Cb V5 HB); (case side4 => exact V6.out); (case side5 => exact Cb V7 HB); (case side6 => exact V8.out); (case side7 => exact Cb V9 HB); (case side8 => exact Va.out); (case side9 => exact Cb Vb HB); (case side10 => exact Vc.out); rintro e qr6 ⟨rfl, hb⟩; refine ⟨_, rfl, ?_⟩; replace y2 := Qaa.mk (Kd.V_below (V_u y2.out) hb); replace y3 := Qaa.mk (Kd.V_below (V_u y3.out) hb); replace j8 := Rb j8 hb; replace Q0 := Qaa.mk (Kd.V_below (V_u Q0.out) hb); replace j1 := Qaa.mk (Kd.V_below (V_u j1.out) hb); replace j2 := Qaa.mk (Kd.V_below (V_u j2.out) hb); replace q2 := Qaa.mk (Kd.N_below (N_u q2.out) hb); replace q4 := Bb q4 hb; replace q5 := Bb q5 hb; replace j0 := Bb j0 hb; replace j6 := Bb j6 hb; replace j7 := Bb j7 hb; replace z0 := Bb z0 hb; replace HB := bs HB hb; (try clear hb)) | ((with_reducible refine gate_builtin (b := .append) (xs := #[.tmp 110, .tmp 114]) rfl ?_); at_builtin; refine Kd.R_append k41 (w0 := w) w.heap.size rfl (.tmp 110) (.tmp 114) 75 41 (.agg #[(.int .i64 0), (.int .i64 0), (.string ⟨#[]⟩)]) 32 rfl Try.underlying75 info41 rfl (by decide) (by omega) u16 x16_4 (⟨Vi, Vj, Vk⟩ : S41) [.int .i64 Vi, .int .i64 Vj, .string Vk] (fun k_ => (w.heap.size ≤ k_)) (fun _ => False) rfl rfl ?aP (fun _ hk => hk.elim) ?aF ?aO ?aB ?aS ?aL ?_; (case aP => exact k41_mkM _ _ _ (⟨Vi, Vj, Vk⟩ : S41)); (case aB => exact (bl HB)); (case aF => exact (fun k_ hk => (Nat.le_trans (below_size (bl HB)) hk))); (case aO => exact (R_u j8.out)); (case aS => exact (below_size (bl HB))); (case aL => have := LMc104.out; omega); intro qr7 qr8 ho hb hg hat; rw [← Ny746.out] at ho; have q0r := Qaa.mk (ho); replace y2 := Qaa.mk (Kd.V_afterv (ok := (fun k_ => ((z2 k_ ∨ z3 k_) ∨ w.heap.size ≤ k_) ∧ some k_ ≠ (j9 : Value).ownBlock ∧ k_ ≠ j5 ∧ k_ ≠ j3 ∧ k_ ≠ j4 ∧ k_ ≠ q6 ∧ k_ ≠ q8 ∧ k_ ≠ q9)) (by apply V_u; exact Vm y2.out) hg hat); replace y3 := Qaa.mk (Kd.V_afterv (ok := (fun k_ => ((z2 k_ ∨ z3 k_) ∨ w.heap.size ≤ k_) ∧ some k_ ≠ (j9 : Value).ownBlock ∧ k_ ≠ j5 ∧ k_ ≠ j3 ∧ k_ ≠ j4 ∧ k_ ≠ q6 ∧ k_ ≠ q8 ∧ k_ ≠ q9)) (by apply V_u; exact Vm y3.out) hg hat); replace Q0 := Qaa.mk (Kd.V_afterv (ok := (fun k_ => ((z2 k_ ∨ z3 k_) ∨ w.heap.size ≤ k_) ∧ some k_ ≠ (j9 : Value).ownBlock ∧ k_ ≠ j5 ∧ k_ ≠ j3 ∧ k_ ≠ j4 ∧ k_ ≠ q6 ∧ k_ ≠ q8 ∧ k_ ≠ q9)) (by apply V_u; exact Vm Q0.out) hg hat); replace j1 := Qaa.mk (Kd.V_afterv (ok := (fun k_ => ((z2 k_ ∨ z3 k_) ∨ w.heap.size ≤ k_) ∧ some k_ ≠ (j9 : Value).ownBlock ∧ k_ ≠ j5 ∧ k_ ≠ j3 ∧ k_ ≠ j4 ∧ k_ ≠ q6 ∧ k_ ≠ q8 ∧ k_ ≠ q9)) (by apply V_u; exact Vm j1.out) hg hat); replace j2 := Qaa.mk (Kd.V_afterv (ok := (fun k_ => ((z2 k_ ∨ z3 k_) ∨ w.heap.size ≤ k_) ∧ some k_ ≠ (j9 : Value).ownBlock ∧ k_ ≠ j5 ∧ k_ ≠ j3 ∧ k_ ≠ j4 ∧ k_ ≠ q6 ∧ k_ ≠ q8 ∧ k_ ≠ q9)) (by apply V_u; exact Vm j2.out) hg hat); replace q2 := Qaa.mk (Kd.N_afterv (ok := (fun k_ => ((z2 k_ ∨ z3 k_) ∨ w.heap.size ≤ k_) ∧ k_ ≠ j5 ∧ k_ ≠ j3 ∧ k_ ≠ j4 ∧ k_ ≠ q6 ∧ k_ ≠ q8 ∧ k_ ≠ q9)) (by apply N_u; exact Nm q2.out) hg hat); replace q4 := Qaa.mk (blk_grown (Ub q4) hg (Kd.R_ne j8.out q4.out (by decide))); replace q5 := Qaa.mk (blk_grown (Ub q5) hg (Kd.R_ne j8.out q5.out (by decide))); replace j0 := Qaa.mk (blk_grown (Ub j0) hg (Kd.R_ne j8.out j0.out (by decide))); replace j6 := Qaa.mk (blk_grown (Ub j6) hg (Kd.R_ne j8.out j6.out (by decide))); replace j7 := Qaa.mk (blk_grown (Ub j7) hg (Kd.R_ne j8.out j7.out (by decide))); replace z0 := Qaa.mk (blk_grown (Ub z0) hg (Kd.R_ne j8.out z0.out (by decide))); replace HB := Qaa.mk (hb); clear j8; clear ho hb hg hat))
                       go_roundg k4
                       case measure => have := HK1.out; have := HK2.out; have := HK3.out; have := HK4.out; omega
                       case rel => exact ⟨(y746), (wrap64 (x106_4 + 1)), (by first | rfl | (simp; done) | (simp [*]; done)), H', ⟨by have := HK1.out; have := HK2.out; have := HK3.out; have := HK4.out; omega⟩, ⟨by apply V_u; exact Vm y2.out⟩, ⟨by apply V_u; exact Vm y3.out⟩, ⟨by apply R_u; exact q0r.out⟩, ⟨by apply V_u; exact Vm Q0.out⟩, ⟨by apply V_u; exact Vm j1.out⟩, ⟨by apply V_u; exact Vm j2.out⟩, ⟨by apply N_u; exact Nm q2.out⟩, ⟨by apply blk_u; exact q4.out⟩, ⟨by apply blk_u; exact q5.out⟩, ⟨by apply blk_u; exact j0.out⟩, ⟨by apply blk_u; exact j6.out⟩, ⟨by apply blk_u; exact j7.out⟩, ⟨by apply blk_u; exact z0.out⟩, ⟨bl HB⟩⟩
                      ·
                       rw [if_neg Fp] at H
                       exact absurd H (by simp)
                     ·
                      rw [if_neg Fo] at H
                      exact absurd H (by simp)
                    ·
                     rw [if_neg Fn] at H
                     exact absurd H (by simp)
                   ·
                    rw [if_neg Vh] at H
                    have q0d : decide (x106_4 < (z5.length : Int)) = false := decide_eq_false Vh
                    clear Vh
                    replace H := Option.bind_eq_some_iff.mp H
                    obtain ⟨⟨Z3, Q1, y4, y5, y6, y7⟩, Dc, H⟩ := H
                    replace H : ((Qar.f ((rd_T39 q0 x81_2).f0) ((rd_T39 q0 x81_2).f1) ((rd_T39 q0 x81_2).f2) ((rd_T39 q0 x81_2).f3) ((rd_T39 q0 x81_2).f4) ((rd_T39 q0 x81_2).f5)).bind fun Fq => (if Fq = true then ((Qar.f ((rd_T39 q3 x81_2).f0) ((rd_T39 q3 x81_2).f1) ((rd_T39 q3 x81_2).f2) ((rd_T39 q3 x81_2).f3) ((rd_T39 q3 x81_2).f4) ((rd_T39 q3 x81_2).f5)).bind fun Xd => (if Xd = true then ((Qai.f k4 Z3 Q1 y4 y5 y6 y7).bind fun Qc => (if z4.length < 1099511627776 then (Qad.l1 k4 z7 z5 q0 (q0.length : Int) (wrap64 (x81_2 + 1)) Q2 q3 Q3 y8 (wrap64 ((z7.length : Int) + (z5.length : Int))) (z4 ++ [(⟨Qc.1, Qc.2.1, Qc.2.2.1, Qc.2.2.2.1, Qc.2.2.2.2.1, Qc.2.2.2.2.2⟩ : S39)]) true) else (none))) else (if z4.length < 1099511627776 then (Qad.l1 k4 z7 z5 q0 (q0.length : Int) (wrap64 (x81_2 + 1)) Q2 q3 Q3 y8 (wrap64 ((z7.length : Int) + (z5.length : Int))) (z4 ++ [(⟨Z3, Q1, y4, y5, y6, y7⟩ : S39)]) true) else (none)))) else (if z4.length < 1099511627776 then (Qad.l1 k4 z7 z5 q0 (q0.length : Int) (wrap64 (x81_2 + 1)) Q2 q3 Q3 y8 (wrap64 ((z7.length : Int) + (z5.length : Int))) (z4 ++ [(⟨Z3, Q1, y4, y5, y6, y7⟩ : S39)]) true) else (none)))) = some (r1, r2, r3, r4, r5) := H
                    have Fz := Qaa.mk Dc
                    clear Dc
                    replace H := Option.bind_eq_some_iff.mp H
                    obtain ⟨Fq, Dd, H⟩ := H
                    replace H : (if Fq = true then ((Qar.f ((rd_T39 q3 x81_2).f0) ((rd_T39 q3 x81_2).f1) ((rd_T39 q3 x81_2).f2) ((rd_T39 q3 x81_2).f3) ((rd_T39 q3 x81_2).f4) ((rd_T39 q3 x81_2).f5)).bind fun Xd => (if Xd = true then ((Qai.f k4 Z3 Q1 y4 y5 y6 y7).bind fun Qc => (if z4.length < 1099511627776 then (Qad.l1 k4 z7 z5 q0 (q0.length : Int) (wrap64 (x81_2 + 1)) Q2 q3 Q3 y8 (wrap64 ((z7.length : Int) + (z5.length : Int))) (z4 ++ [(⟨Qc.1, Qc.2.1, Qc.2.2.1, Qc.2.2.2.1, Qc.2.2.2.2.1, Qc.2.2.2.2.2⟩ : S39)]) true) else (none))) else (if z4.length < 1099511627776 then (Qad.l1 k4 z7 z5 q0 (q0.length : Int) (wrap64 (x81_2 + 1)) Q2 q3 Q3 y8 (wrap64 ((z7.length : Int) + (z5.length : Int))) (z4 ++ [(⟨Z3, Q1, y4, y5, y6, y7⟩ : S39)]) true) else (none)))) else (if z4.length < 1099511627776 then (Qad.l1 k4 z7 z5 q0 (q0.length : Int) (wrap64 (x81_2 + 1)) Q2 q3 Q3 y8 (wrap64 ((z7.length : Int) + (z5.length : Int))) (z4 ++ [(⟨Z3, Q1, y4, y5, y6, y7⟩ : S39)]) true) else (none))) = some (r1, r2, r3, r4, r5) := H
                    have D0 := Qaa.mk Dd
                    clear Dd
                    by_cases Fr : Fq = true
                    ·
                     subst Fr
                     have H1 : ((Qar.f ((rd_T39 q3 x81_2).f0) ((rd_T39 q3 x81_2).f1) ((rd_T39 q3 x81_2).f2) ((rd_T39 q3 x81_2).f3) ((rd_T39 q3 x81_2).f4) ((rd_T39 q3 x81_2).f5)).bind fun Xd => (if Xd = true then ((Qai.f k4 Z3 Q1 y4 y5 y6 y7).bind fun Qc => (if z4.length < 1099511627776 then (Qad.l1 k4 z7 z5 q0 (q0.length : Int) (wrap64 (x81_2 + 1)) Q2 q3 Q3 y8 (wrap64 ((z7.length : Int) + (z5.length : Int))) (z4 ++ [(⟨Qc.1, Qc.2.1, Qc.2.2.1, Qc.2.2.2.1, Qc.2.2.2.2.1, Qc.2.2.2.2.2⟩ : S39)]) true) else (none))) else (if z4.length < 1099511627776 then (Qad.l1 k4 z7 z5 q0 (q0.length : Int) (wrap64 (x81_2 + 1)) Q2 q3 Q3 y8 (wrap64 ((z7.length : Int) + (z5.length : Int))) (z4 ++ [(⟨Z3, Q1, y4, y5, y6, y7⟩ : S39)]) true) else (none)))) = some (r1, r2, r3, r4, r5) := by rw [if_pos rfl] at H; exact H
                     clear H
                     have H := H1
                     clear H1
                     replace H := Option.bind_eq_some_iff.mp H
                     obtain ⟨Xd, De, H⟩ := H
                     replace H : (if Xd = true then ((Qai.f k4 Z3 Q1 y4 y5 y6 y7).bind fun Qc => (if z4.length < 1099511627776 then (Qad.l1 k4 z7 z5 q0 (q0.length : Int) (wrap64 (x81_2 + 1)) Q2 q3 Q3 y8 (wrap64 ((z7.length : Int) + (z5.length : Int))) (z4 ++ [(⟨Qc.1, Qc.2.1, Qc.2.2.1, Qc.2.2.2.1, Qc.2.2.2.2.1, Qc.2.2.2.2.2⟩ : S39)]) true) else (none))) else (if z4.length < 1099511627776 then (Qad.l1 k4 z7 z5 q0 (q0.length : Int) (wrap64 (x81_2 + 1)) Q2 q3 Q3 y8 (wrap64 ((z7.length : Int) + (z5.length : Int))) (z4 ++ [(⟨Z3, Q1, y4, y5, y6, y7⟩ : S39)]) true) else (none))) = some (r1, r2, r3, r4, r5) := H
                     have q0e := Qaa.mk De
                     clear De
                     by_cases Fs : Xd = true
                     ·
                      subst Fs
                      have H1 : ((Qai.f k4 Z3 Q1 y4 y5 y6 y7).bind fun Qc => (if z4.length < 1099511627776 then (Qad.l1 k4 z7 z5 q0 (q0.length : Int) (wrap64 (x81_2 + 1)) Q2 q3 Q3 y8 (wrap64 ((z7.length : Int) + (z5.length : Int))) (z4 ++ [(⟨Qc.1, Qc.2.1, Qc.2.2.1, Qc.2.2.2.1, Qc.2.2.2.2.1, Qc.2.2.2.2.2⟩ : S39)]) true) else (none))) = some (r1, r2, r3, r4, r5) := by rw [if_pos rfl] at H; exact H
                      clear H
                      have H := H1
                      clear H1
                      replace H := Option.bind_eq_some_iff.mp H
                      obtain ⟨⟨Z9, Z4, Qd, Qe, Qf, Qg⟩, Df, H⟩ := H
                      replace H : (if z4.length < 1099511627776 then (Qad.l1 k4 z7 z5 q0 (q0.length : Int) (wrap64 (x81_2 + 1)) Q2 q3 Q3 y8 (wrap64 ((z7.length : Int) + (z5.length : Int))) (z4 ++ [(⟨Z9, Z4, Qd, Qe, Qf, Qg⟩ : S39)]) true) else (none)) = some (r1, r2, r3, r4, r5) := H
                      have q1d := Qaa.mk Df
                      clear Df
                      by_cases Ft : z4.length < 1099511627776
                      ·
                       rw [if_pos Ft] at H
                       have LMc119 := Qaa.mk Ft
                       clear Ft
                       obtain ⟨y784, hy784⟩ : ∃ y_ : List (S39), y_ = (z4 ++ [(⟨Z9, Z4, Qd, Qe, Qf, Qg⟩ : S39)]) := ⟨_, rfl⟩
                       replace H : (Qad.l1 k4 z7 z5 q0 (q0.length : Int) (wrap64 (x81_2 + 1)) Q2 q3 Q3 y8 (wrap64 ((z7.length : Int) + (z5.length : Int))) y784 true) = some (r1, r2, r3, r4, r5) := by first | (rw [hy784]; with_reducible exact H) | (have H2_ := (Option.bind_some _ _).symm.trans H; rw [hy784]; with_reducible exact H2_) | (have H2_ := (Option.bind_some _ _).symm.trans H; with_reducible exact H2_) | with_reducible exact H | (rw [hy784]; exact H) | exact H
                       have Ny784 := Qaa.mk hy784
                       clear hy784
                       have H' := Qaa.mk H
                       clear H
                       have q9p := Y1.out
                       have q9q := Y0.out
                       have q9r := Y3.out
                       have q9s := Y2.out
                       have q9t := Y5.out
                       have q9u := Y4.out
                       have q9v := Y7.out
                       have q9w := Y6.out
                       have q9x := Z1.out
                       have q9y := Jv.out
                       obtain ⟨q1e, q1f, q1g, q1h, q1i, q1j, q1k, q1l, q1m, q1n, q1o, q1p⟩ := cf6 j7
                       obtain ⟨Qq, Qr, eo126⟩ := Kd.R_slice j8.out
                       subst eo126
                       go_wp2_with (first | ((with_reducible refine gate_callee (f := 29) rfl ?_); refine gL (some 120) Try.func29 #[.int .i64 ((rd_T39 q0 x81_2).f0), .slice Qq x16_4.length Qr] ?_; (with_reducible refine (Qax.calls k4 ((rd_T39 q0 x81_2).f0) _ _ x16_4 Z3 Q1 y4 y5 y6 y7 _ ?side1 ?side2 Fz.out).mono ?_); (case side1 => exact Cu (Kd.R_reads' j8.out).2.2); (case side2 => exact (Kd.R_reads' j8.out).2.1); rintro e qr9 ⟨q0f, q0g, q0h, q0i, q0j, rfl, ho0, ho1, ho2, ho3, ho4, hb⟩; refine ⟨_, rfl, ?_⟩; have y9 := Qaa.mk (Kd.R_lower (Kd.R_newM (M := fun k_ => (w.heap.size ≤ k_)) ho0 (below_size (bl HB)) (fun k_ h_ => h_)) (below_size (bl HB))); have z8 := Qaa.mk (Kd.R_lower (Kd.R_newM (M := fun k_ => (w.heap.size ≤ k_)) ho1 (below_size (bl HB)) (fun k_ h_ => h_)) (below_size (bl HB))); have z9 := Qaa.mk (Kd.R_lower (Kd.R_newM (M := fun k_ => (w.heap.size ≤ k_)) ho2 (below_size (bl HB)) (fun k_ h_ => h_)) (below_size (bl HB))); have y0 := Qaa.mk (Kd.R_lower (Kd.R_newM (M := fun k_ => (w.heap.size ≤ k_)) ho3 (below_size (bl HB)) (fun k_ h_ => h_)) (below_size (bl HB))); have y1 := Qaa.mk (Kd.R_lower (Kd.R_newM (M := fun k_ => (w.heap.size ≤ k_)) ho4 (below_size (bl HB)) (fun k_ h_ => h_)) (below_size (bl HB))); replace y2 := Qaa.mk (Kd.V_mono (Kd.V_told (Kd.V_told (Kd.V_told (Kd.V_told (Kd.V_told (Kd.V_old (V_u y2.out) hb) (Kd.R_base ho0)) (Kd.R_base ho1)) (Kd.R_base ho2)) (Kd.R_base ho3)) (Kd.R_base ho4)) (fun _ h_ => h_.1)); replace y3 := Qaa.mk (Kd.V_mono (Kd.V_told (Kd.V_told (Kd.V_told (Kd.V_told (Kd.V_told (Kd.V_old (V_u y3.out) hb) (Kd.R_base ho0)) (Kd.R_base ho1)) (Kd.R_base ho2)) (Kd.R_base ho3)) (Kd.R_base ho4)) (fun _ h_ => h_.1)); replace j8 := Rb j8 hb; replace Q0 := Qaa.mk (Kd.V_mono (Kd.V_told (Kd.V_told (Kd.V_told (Kd.V_told (Kd.V_told (Kd.V_old (V_u Q0.out) hb) (Kd.R_base ho0)) (Kd.R_base ho1)) (Kd.R_base ho2)) (Kd.R_base ho3)) (Kd.R_base ho4)) (fun _ h_ => h_.1)); replace j1 := Qaa.mk (Kd.V_mono (Kd.V_told (Kd.V_told (Kd.V_told (Kd.V_told (Kd.V_told (Kd.V_old (V_u j1.out) hb) (Kd.R_base ho0)) (Kd.R_base ho1)) (Kd.R_base ho2)) (Kd.R_base ho3)) (Kd.R_base ho4)) (fun _ h_ => h_.1)); replace j2 := Qaa.mk (Kd.V_mono (Kd.V_told (Kd.V_told (Kd.V_told (Kd.V_told (Kd.V_told (Kd.V_old (V_u j2.out) hb) (Kd.R_base ho0)) (Kd.R_base ho1)) (Kd.R_base ho2)) (Kd.R_base ho3)) (Kd.R_base ho4)) (fun _ h_ => h_.1)); replace q2 := Qaa.mk (Kd.N_mono (Kd.N_told (Kd.N_told (Kd.N_told (Kd.N_told (Kd.N_told (Kd.N_old (N_u q2.out) hb) (Kd.R_base ho0)) (Kd.R_base ho1)) (Kd.R_base ho2)) (Kd.R_base ho3)) (Kd.R_base ho4)) (fun _ h_ => h_.1)); replace q4 := Bb q4 hb; replace q5 := Bb q5 hb; replace j0 := Bb j0 hb; replace j6 := Bb j6 hb; replace j7 := Bb j7 hb; replace z0 := Bb z0 hb; replace HB := bs HB hb; (try clear hb); (try clear ho0); (try clear ho1); (try clear ho2); (try clear ho3); (try clear ho4)) | ((with_reducible refine gate_dst (N := 21) rfl ?_); refine bx 21 #[.int .i64 0, .slice none 0 0, .slice none 0 0, .slice none 0 0, .slice none 0 0, .slice none 0 0] 39 ?_; intro q1 hg qs0 hbox hb; have z1 := Qaa.mk (hbox); have Dg := Qaa.mk ((by rw [hg]; exact (below_size (bl HB)) : w.heap.size ≤ q1)); have Dh := Qaa.mk ((by rw [hg]; exact (below_size (bl HB)) : w.heap.size ≤ q1)); have Y9 := Qaa.mk ((by rw [hg]; exact Nat.ne_of_lt (blk_lt (Ub q4)) : j5 ≠ q1)); have Ya := Qaa.mk ((by rw [hg]; exact Nat.ne_of_gt (blk_lt (Ub q4)) : q1 ≠ j5)); have Yb := Qaa.mk ((by rw [hg]; exact Nat.ne_of_lt (blk_lt (Ub q5)) : j3 ≠ q1)); have Yc := Qaa.mk ((by rw [hg]; exact Nat.ne_of_gt (blk_lt (Ub q5)) : q1 ≠ j3)); have Yd := Qaa.mk ((by rw [hg]; exact Nat.ne_of_lt (blk_lt (Ub j0)) : j4 ≠ q1)); have Ye := Qaa.mk ((by rw [hg]; exact Nat.ne_of_gt (blk_lt (Ub j0)) : q1 ≠ j4)); have Yf := Qaa.mk ((by rw [hg]; exact Nat.ne_of_lt (blk_lt (Ub j6)) : q6 ≠ q1)); have Yg := Qaa.mk ((by rw [hg]; exact Nat.ne_of_gt (blk_lt (Ub j6)) : q1 ≠ q6)); have Yh := Qaa.mk ((by rw [hg]; exact Nat.ne_of_lt (blk_lt (Ub j7)) : q8 ≠ q1)); have Yi := Qaa.mk ((by rw [hg]; exact Nat.ne_of_gt (blk_lt (Ub j7)) : q1 ≠ q8)); have Yj := Qaa.mk ((by rw [hg]; exact Nat.ne_of_lt (blk_lt (Ub z0)) : q9 ≠ q1)); have Yk := Qaa.mk ((by rw [hg]; exact Nat.ne_of_gt (blk_lt (Ub z0)) : q1 ≠ q9)); replace y2 := Qaa.mk (Kd.V_below (Kd.V_elderB (V_u y2.out) q1 (Nat.le_of_eq hg.symm)) hb); replace y3 := Qaa.mk (Kd.V_below (Kd.V_elderB (V_u y3.out) q1 (Nat.le_of_eq hg.symm)) hb); replace j8 := Rb j8 hb; replace Q0 := Qaa.mk (Kd.V_below (Kd.V_elderB (V_u Q0.out) q1 (Nat.le_of_eq hg.symm)) hb); replace j1 := Qaa.mk (Kd.V_below (Kd.V_elderB (V_u j1.out) q1 (Nat.le_of_eq hg.symm)) hb); replace j2 := Qaa.mk (Kd.V_below (Kd.V_elderB (V_u j2.out) q1 (Nat.le_of_eq hg.symm)) hb); replace q2 := Qaa.mk (Kd.N_below (Kd.N_elderB (N_u q2.out) q1 (Nat.le_of_eq hg.symm)) hb); replace y9 := Rb y9 hb; replace z8 := Rb z8 hb; replace z9 := Rb z9 hb; replace y0 := Rb y0 hb; replace y1 := Rb y1 hb; replace q4 := Bb q4 hb; replace q5 := Bb q5 hb; replace j0 := Bb j0 hb; replace j6 := Bb j6 hb; replace j7 := Bb j7 hb; replace z0 := Bb z0 hb; replace HB := bs HB hb; clear hb hbox hg; have q9z := Ya.out; have qa0 := Y9.out; have qa1 := Yc.out; have qa2 := Yb.out; have qa3 := Ye.out; have qa4 := Yd.out; have qa5 := Yg.out; have qa6 := Yf.out; have qa7 := Yi.out; have qa8 := Yh.out; have qa9 := Yk.out; have qb0 := Yj.out; obtain ⟨q1q, q1r, q1s, q1t, q1u, q1v, q1w, q1x, q1y, q1z, q20, q21⟩ := cf6 z1; obtain ⟨Jc, Jd, eo136⟩ := Kd.R_slice y9.out; subst eo136; obtain ⟨Qi, Qj, eo137⟩ := Kd.R_slice z8.out; subst eo137; obtain ⟨Qk, Ql, eo138⟩ := Kd.R_slice z9.out; subst eo138; obtain ⟨Qm, Qn, eo139⟩ := Kd.R_slice y0.out; subst eo139; obtain ⟨Qo, Qp, eo140⟩ := Kd.R_slice y1.out; subst eo140; obtain ⟨q22, q23, q24, q25, q26, q27, q28, q29, q2a, q2b, q2c, q2d⟩ := cf6 j7) | ((with_reducible refine gate_callee (f := 36) rfl ?_); refine gL (some 122) Try.func36 #[.agg #[.int .i64 ((rd_T39 q0 x81_2).f0), .slice Zv ((rd_T39 q0 x81_2).f1).length Zw, .slice Zx ((rd_T39 q0 x81_2).f2).length Zy, .slice Zz ((rd_T39 q0 x81_2).f3).length J0, .slice J1 ((rd_T39 q0 x81_2).f4).length J2, .slice J3 ((rd_T39 q0 x81_2).f5).length J4]] ?_; (with_reducible refine (Qar.calls ((rd_T39 q0 x81_2).f0) _ _ ((rd_T39 q0 x81_2).f1) _ _ ((rd_T39 q0 x81_2).f2) _ _ ((rd_T39 q0 x81_2).f3) _ _ ((rd_T39 q0 x81_2).f4) _ _ ((rd_T39 q0 x81_2).f5) true _ ?side1 ?side2 ?side3 ?side4 ?side5 ?side6 ?side7 ?side8 ?side9 ?side10 D0.out).mono ?_); (case side1 => exact Kd.C_below Xf.out (bl HB)); (case side2 => exact Xg.out); (case side3 => exact Kd.C_below Xh.out (bl HB)); (case side4 => exact Xi.out); (case side5 => exact Kd.C_below Xj.out (bl HB)); (case side6 => exact Xk.out); (case side7 => exact Kd.C_below Xl.out (bl HB)); (case side8 => exact Xm.out); (case side9 => exact Kd.C_below Xn.out (bl HB)); (case side10 => exact Xo.out); rintro e qs1 ⟨rfl, hb⟩; refine ⟨_, rfl, ?_⟩; replace y2 := Qaa.mk (Kd.V_below (Vf (g := q1) y2 (fun _ hk => hk.2)) hb); replace y3 := Qaa.mk (Kd.V_below (Vf (g := q1) y3 (fun _ hk => hk.2)) hb); replace j8 := Qaa.mk (Kd.R_below (Rf j8 z1) hb); replace Q0 := Qaa.mk (Kd.V_below (Vf (g := q1) Q0 (fun _ hk => hk.2)) hb); replace j1 := Qaa.mk (Kd.V_below (Vf (g := q1) j1 (fun _ hk => hk.2)) hb); replace j2 := Qaa.mk (Kd.V_below (Vf (g := q1) j2 (fun _ hk => hk.2)) hb); replace q2 := Qaa.mk (Kd.N_below (Nf (g := q1) q2 (fun _ hk => hk.2)) hb); replace y9 := Qaa.mk (Kd.R_below (Rf y9 z1) hb); replace z8 := Qaa.mk (Kd.R_below (Rf z8 z1) hb); replace z9 := Qaa.mk (Kd.R_below (Rf z9 z1) hb); replace y0 := Qaa.mk (Kd.R_below (Rf y0 z1) hb); replace y1 := Qaa.mk (Kd.R_below (Rf y1 z1) hb); replace q4 := Bb q4 hb; replace q5 := Bb q5 hb; replace j0 := Bb j0 hb; replace j6 := Bb j6 hb; replace j7 := Bb j7 hb; replace z0 := Bb z0 hb; replace z1 := Qaa.mk (blk_below (Uf6 z1) hb); replace HB := bs HB hb; (try clear hb); (try clear hk); have qb1 := Yu.out; have qb2 := Zb.out; have qb3 := Yv.out; have qb4 := Zc.out; have qb5 := Yw.out; have qb6 := Zd.out; have qb7 := Y8.out; have qb8 := Z2.out; obtain ⟨q2e, q2f, q2g, q2h, q2i, q2j, q2k, q2l, q2m, q2n, q2o, q2p⟩ := cf6 z0) | (go_at_call 36; (with_reducible refine (Qar.calls ((rd_T39 q3 x81_2).f0) _ _ ((rd_T39 q3 x81_2).f1) _ _ ((rd_T39 q3 x81_2).f2) _ _ ((rd_T39 q3 x81_2).f3) _ _ ((rd_T39 q3 x81_2).f4) _ _ ((rd_T39 q3 x81_2).f5) true _ ?side1 ?side2 ?side3 ?side4 ?side5 ?side6 ?side7 ?side8 ?side9 ?side10 q0e.out).mono ?_); (case side1 => exact Cb V3 HB); (case side2 => exact V4.out); (case side3 => exact Cb V5 HB); (case side4 => exact V6.out); (case side5 => exact Cb V7 HB); (case side6 => exact V8.out); (case side7 => exact Cb V9 HB); (case side8 => exact Va.out); (case side9 => exact Cb Vb HB); (case side10 => exact Vc.out); rintro e qs2 ⟨rfl, hb⟩; replace y2 := Qaa.mk (Kd.V_below (V_u y2.out) hb); replace y3 := Qaa.mk (Kd.V_below (V_u y3.out) hb); replace j8 := Rb j8 hb; replace Q0 := Qaa.mk (Kd.V_below (V_u Q0.out) hb); replace j1 := Qaa.mk (Kd.V_below (V_u j1.out) hb); replace j2 := Qaa.mk (Kd.V_below (V_u j2.out) hb); replace q2 := Qaa.mk (Kd.N_below (N_u q2.out) hb); replace y9 := Rb y9 hb; replace z8 := Rb z8 hb; replace z9 := Rb z9 hb; replace y0 := Rb y0 hb; replace y1 := Rb y1 hb; replace q4 := Bb q4 hb; replace q5 := Bb q5 hb; replace j0 := Bb j0 hb; replace j6 := Bb j6 hb; replace j7 := Bb j7 hb; replace z0 := Bb z0 hb; replace z1 := Bb z1 hb; replace HB := bs HB hb; (try clear hb); obtain ⟨q2q, q2r, q2s, q2t, q2u, q2v, q2w, q2x, q2y, q2z, q30, q31⟩ := cf6 z1) | ((with_reducible refine gate_callee (f := 28) rfl ?_); refine gL (some 128) Try.func28 #[.agg #[.int .i64 Z3, .slice Jc Q1.length Jd, .slice Qi y4.length Qj, .slice Qk y5.length Ql, .slice Qm y6.length Qn, .slice Qo y7.length Qp]] ?_; (with_reducible refine (Qai.calls k4 Z3 (fun k_ => some k_ = (.slice Jc Q1.length Jd : Value).ownBlock) _ _ Q1 _ _ y4 _ _ y5 _ _ y6 _ _ y7 Z9 Z4 Qd Qe Qf Qg _ ?side1 ?side2 ?side3 ?side4 ?side5 ?side6 ?side7 ?side8 ?side9 q1d.out).mono ?_); (case side1 => exact Kd.R_V (Kd.R_tight rfl (Kd.R_types (Kd.R_types (Kd.R_types (Kd.R_types (Kd.R_types (Kd.R_types (Kd.R_types (Kd.R_apart' (Kd.R_apart' (Kd.R_apart' (Kd.R_apart' (Kd.R_apart' (Kd.R_apart' (y9.out) (Kd.R_typed j8.out) (by decide)) (Kd.N_typed q2.out) (by decide)) (Kd.R_typed z8.out) (by decide)) (Kd.R_typed z9.out) (by decide)) (Kd.R_typed y0.out) (by decide)) (Kd.R_typed y1.out) (by decide)) q4.out (by decide)) q5.out (by decide)) j0.out (by decide)) j6.out (by decide)) j7.out (by decide)) z0.out (by decide)) z1.out (by decide)))); (case side2 => exact Cu (Kd.R_reads' z8.out).2.2); (case side3 => exact (Kd.R_reads' z8.out).2.1); (case side4 => exact Cu (Kd.R_reads' z9.out).2.2); (case side5 => exact (Kd.R_reads' z9.out).2.1); (case side6 => exact Cu (Kd.R_reads' y0.out).2.2); (case side7 => exact (Kd.R_reads' y0.out).2.1); (case side8 => exact Cu (Kd.R_reads' y1.out).2.2); (case side9 => exact (Kd.R_reads' y1.out).2.1); rintro e q32 ⟨qs3, q0k, q0l, q0m, q0n, rfl, ho0, ho1, ho2, ho3, ho4, hb⟩; refine ⟨_, rfl, ?_⟩; have X5 := Qaa.mk (Kd.V_lower (Kd.V_mono (ok' := fun k_ => ((z2 k_ ∨ z3 k_) ∨ w.heap.size ≤ k_) ∧ some k_ ≠ (q0k : Value).ownBlock ∧ some k_ ≠ (q0l : Value).ownBlock ∧ some k_ ≠ (q0m : Value).ownBlock ∧ some k_ ≠ (q0n : Value).ownBlock ∧ some k_ ≠ (.slice Qq x16_4.length Qr : Value).ownBlock ∧ some k_ ≠ (j9 : Value).ownBlock ∧ some k_ ≠ (.slice Qi y4.length Qj : Value).ownBlock ∧ some k_ ≠ (.slice Qk y5.length Ql : Value).ownBlock ∧ some k_ ≠ (.slice Qm y6.length Qn : Value).ownBlock ∧ some k_ ≠ (.slice Qo y7.length Qp : Value).ownBlock ∧ k_ ≠ j5 ∧ k_ ≠ j3 ∧ k_ ≠ j4 ∧ k_ ≠ q6 ∧ k_ ≠ q8 ∧ k_ ≠ q9 ∧ k_ ≠ q1) ho0 (fun k_ hk_ => ⟨Or.elim hk_.1 (fun hs_ => (.inr (((Kd.R_types (Kd.R_types (Kd.R_types (Kd.R_types (Kd.R_types (Kd.R_types (Kd.R_types (Kd.R_apart' (Kd.R_apart' (Kd.R_apart' (Kd.R_apart' (Kd.R_apart' (Kd.R_apart' (y9.out) (Kd.R_typed j8.out) (by decide)) (Kd.N_typed q2.out) (by decide)) (Kd.R_typed z8.out) (by decide)) (Kd.R_typed z9.out) (by decide)) (Kd.R_typed y0.out) (by decide)) (Kd.R_typed y1.out) (by decide)) q4.out (by decide)) q5.out (by decide)) j0.out (by decide)) j6.out (by decide)) j7.out (by decide)) z0.out (by decide)) z1.out (by decide)).1 k_ hs_.symm).1.1.1.1.1.1.1.1.1.1.1.1.1.1))) (fun hn_ => (.inr (Nat.le_trans (below_size (bl HB)) hn_))), hk_.2.1, hk_.2.2.1, hk_.2.2.2.1, hk_.2.2.2.2, Or.elim hk_.1 (fun hs_ => ((Kd.R_types (Kd.R_types (Kd.R_types (Kd.R_types (Kd.R_types (Kd.R_types (Kd.R_types (Kd.R_apart' (Kd.R_apart' (Kd.R_apart' (Kd.R_apart' (Kd.R_apart' (Kd.R_apart' (y9.out) (Kd.R_typed j8.out) (by decide)) (Kd.N_typed q2.out) (by decide)) (Kd.R_typed z8.out) (by decide)) (Kd.R_typed z9.out) (by decide)) (Kd.R_typed y0.out) (by decide)) (Kd.R_typed y1.out) (by decide)) q4.out (by decide)) q5.out (by decide)) j0.out (by decide)) j6.out (by decide)) j7.out (by decide)) z0.out (by decide)) z1.out (by decide)).1 k_ hs_.symm).1.1.1.1.1.1.1.1.1.1.1.1.2) (fun hn_ => (Kd.fresh' (Kd.R_lt (R_u j8.out)) k_ hn_)), Or.elim hk_.1 (fun hs_ => ((Kd.R_types (Kd.R_types (Kd.R_types (Kd.R_types (Kd.R_types (Kd.R_types (Kd.R_types (Kd.R_apart' (Kd.R_apart' (Kd.R_apart' (Kd.R_apart' (Kd.R_apart' (Kd.R_apart' (y9.out) (Kd.R_typed j8.out) (by decide)) (Kd.N_typed q2.out) (by decide)) (Kd.R_typed z8.out) (by decide)) (Kd.R_typed z9.out) (by decide)) (Kd.R_typed y0.out) (by decide)) (Kd.R_typed y1.out) (by decide)) q4.out (by decide)) q5.out (by decide)) j0.out (by decide)) j6.out (by decide)) j7.out (by decide)) z0.out (by decide)) z1.out (by decide)).1 k_ hs_.symm).1.1.1.1.1.1.1.1.1.1.1.2) (fun hn_ => (Kd.fresh' (Kd.N_lt (N_u q2.out)) k_ hn_)), Or.elim hk_.1 (fun hs_ => ((Kd.R_types (Kd.R_types (Kd.R_types (Kd.R_types (Kd.R_types (Kd.R_types (Kd.R_types (Kd.R_apart' (Kd.R_apart' (Kd.R_apart' (Kd.R_apart' (Kd.R_apart' (Kd.R_apart' (y9.out) (Kd.R_typed j8.out) (by decide)) (Kd.N_typed q2.out) (by decide)) (Kd.R_typed z8.out) (by decide)) (Kd.R_typed z9.out) (by decide)) (Kd.R_typed y0.out) (by decide)) (Kd.R_typed y1.out) (by decide)) q4.out (by decide)) q5.out (by decide)) j0.out (by decide)) j6.out (by decide)) j7.out (by decide)) z0.out (by decide)) z1.out (by decide)).1 k_ hs_.symm).1.1.1.1.1.1.1.1.1.1.2) (fun hn_ => (Kd.fresh' (Kd.R_lt (R_u z8.out)) k_ hn_)), Or.elim hk_.1 (fun hs_ => ((Kd.R_types (Kd.R_types (Kd.R_types (Kd.R_types (Kd.R_types (Kd.R_types (Kd.R_types (Kd.R_apart' (Kd.R_apart' (Kd.R_apart' (Kd.R_apart' (Kd.R_apart' (Kd.R_apart' (y9.out) (Kd.R_typed j8.out) (by decide)) (Kd.N_typed q2.out) (by decide)) (Kd.R_typed z8.out) (by decide)) (Kd.R_typed z9.out) (by decide)) (Kd.R_typed y0.out) (by decide)) (Kd.R_typed y1.out) (by decide)) q4.out (by decide)) q5.out (by decide)) j0.out (by decide)) j6.out (by decide)) j7.out (by decide)) z0.out (by decide)) z1.out (by decide)).1 k_ hs_.symm).1.1.1.1.1.1.1.1.1.2) (fun hn_ => (Kd.fresh' (Kd.R_lt (R_u z9.out)) k_ hn_)), Or.elim hk_.1 (fun hs_ => ((Kd.R_types (Kd.R_types (Kd.R_types (Kd.R_types (Kd.R_types (Kd.R_types (Kd.R_types (Kd.R_apart' (Kd.R_apart' (Kd.R_apart' (Kd.R_apart' (Kd.R_apart' (Kd.R_apart' (y9.out) (Kd.R_typed j8.out) (by decide)) (Kd.N_typed q2.out) (by decide)) (Kd.R_typed z8.out) (by decide)) (Kd.R_typed z9.out) (by decide)) (Kd.R_typed y0.out) (by decide)) (Kd.R_typed y1.out) (by decide)) q4.out (by decide)) q5.out (by decide)) j0.out (by decide)) j6.out (by decide)) j7.out (by decide)) z0.out (by decide)) z1.out (by decide)).1 k_ hs_.symm).1.1.1.1.1.1.1.1.2) (fun hn_ => (Kd.fresh' (Kd.R_lt (R_u y0.out)) k_ hn_)), Or.elim hk_.1 (fun hs_ => ((Kd.R_types (Kd.R_types (Kd.R_types (Kd.R_types (Kd.R_types (Kd.R_types (Kd.R_types (Kd.R_apart' (Kd.R_apart' (Kd.R_apart' (Kd.R_apart' (Kd.R_apart' (Kd.R_apart' (y9.out) (Kd.R_typed j8.out) (by decide)) (Kd.N_typed q2.out) (by decide)) (Kd.R_typed z8.out) (by decide)) (Kd.R_typed z9.out) (by decide)) (Kd.R_typed y0.out) (by decide)) (Kd.R_typed y1.out) (by decide)) q4.out (by decide)) q5.out (by decide)) j0.out (by decide)) j6.out (by decide)) j7.out (by decide)) z0.out (by decide)) z1.out (by decide)).1 k_ hs_.symm).1.1.1.1.1.1.1.2) (fun hn_ => (Kd.fresh' (Kd.R_lt (R_u y1.out)) k_ hn_)), Or.elim hk_.1 (fun hs_ => ((Kd.R_types (Kd.R_types (Kd.R_types (Kd.R_types (Kd.R_types (Kd.R_types (Kd.R_types (Kd.R_apart' (Kd.R_apart' (Kd.R_apart' (Kd.R_apart' (Kd.R_apart' (Kd.R_apart' (y9.out) (Kd.R_typed j8.out) (by decide)) (Kd.N_typed q2.out) (by decide)) (Kd.R_typed z8.out) (by decide)) (Kd.R_typed z9.out) (by decide)) (Kd.R_typed y0.out) (by decide)) (Kd.R_typed y1.out) (by decide)) q4.out (by decide)) q5.out (by decide)) j0.out (by decide)) j6.out (by decide)) j7.out (by decide)) z0.out (by decide)) z1.out (by decide)).1 k_ hs_.symm).1.1.1.1.1.1.2) (fun hn_ => (Kd.freshB (Ub q4) k_ hn_)), Or.elim hk_.1 (fun hs_ => ((Kd.R_types (Kd.R_types (Kd.R_types (Kd.R_types (Kd.R_types (Kd.R_types (Kd.R_types (Kd.R_apart' (Kd.R_apart' (Kd.R_apart' (Kd.R_apart' (Kd.R_apart' (Kd.R_apart' (y9.out) (Kd.R_typed j8.out) (by decide)) (Kd.N_typed q2.out) (by decide)) (Kd.R_typed z8.out) (by decide)) (Kd.R_typed z9.out) (by decide)) (Kd.R_typed y0.out) (by decide)) (Kd.R_typed y1.out) (by decide)) q4.out (by decide)) q5.out (by decide)) j0.out (by decide)) j6.out (by decide)) j7.out (by decide)) z0.out (by decide)) z1.out (by decide)).1 k_ hs_.symm).1.1.1.1.1.2) (fun hn_ => (Kd.freshB (Ub q5) k_ hn_)), Or.elim hk_.1 (fun hs_ => ((Kd.R_types (Kd.R_types (Kd.R_types (Kd.R_types (Kd.R_types (Kd.R_types (Kd.R_types (Kd.R_apart' (Kd.R_apart' (Kd.R_apart' (Kd.R_apart' (Kd.R_apart' (Kd.R_apart' (y9.out) (Kd.R_typed j8.out) (by decide)) (Kd.N_typed q2.out) (by decide)) (Kd.R_typed z8.out) (by decide)) (Kd.R_typed z9.out) (by decide)) (Kd.R_typed y0.out) (by decide)) (Kd.R_typed y1.out) (by decide)) q4.out (by decide)) q5.out (by decide)) j0.out (by decide)) j6.out (by decide)) j7.out (by decide)) z0.out (by decide)) z1.out (by decide)).1 k_ hs_.symm).1.1.1.1.2) (fun hn_ => (Kd.freshB (Ub j0) k_ hn_)), Or.elim hk_.1 (fun hs_ => ((Kd.R_types (Kd.R_types (Kd.R_types (Kd.R_types (Kd.R_types (Kd.R_types (Kd.R_types (Kd.R_apart' (Kd.R_apart' (Kd.R_apart' (Kd.R_apart' (Kd.R_apart' (Kd.R_apart' (y9.out) (Kd.R_typed j8.out) (by decide)) (Kd.N_typed q2.out) (by decide)) (Kd.R_typed z8.out) (by decide)) (Kd.R_typed z9.out) (by decide)) (Kd.R_typed y0.out) (by decide)) (Kd.R_typed y1.out) (by decide)) q4.out (by decide)) q5.out (by decide)) j0.out (by decide)) j6.out (by decide)) j7.out (by decide)) z0.out (by decide)) z1.out (by decide)).1 k_ hs_.symm).1.1.1.2) (fun hn_ => (Kd.freshB (Ub j6) k_ hn_)), Or.elim hk_.1 (fun hs_ => ((Kd.R_types (Kd.R_types (Kd.R_types (Kd.R_types (Kd.R_types (Kd.R_types (Kd.R_types (Kd.R_apart' (Kd.R_apart' (Kd.R_apart' (Kd.R_apart' (Kd.R_apart' (Kd.R_apart' (y9.out) (Kd.R_typed j8.out) (by decide)) (Kd.N_typed q2.out) (by decide)) (Kd.R_typed z8.out) (by decide)) (Kd.R_typed z9.out) (by decide)) (Kd.R_typed y0.out) (by decide)) (Kd.R_typed y1.out) (by decide)) q4.out (by decide)) q5.out (by decide)) j0.out (by decide)) j6.out (by decide)) j7.out (by decide)) z0.out (by decide)) z1.out (by decide)).1 k_ hs_.symm).1.1.2) (fun hn_ => (Kd.freshB (Ub j7) k_ hn_)), Or.elim hk_.1 (fun hs_ => ((Kd.R_types (Kd.R_types (Kd.R_types (Kd.R_types (Kd.R_types (Kd.R_types (Kd.R_types (Kd.R_apart' (Kd.R_apart' (Kd.R_apart' (Kd.R_apart' (Kd.R_apart' (Kd.R_apart' (y9.out) (Kd.R_typed j8.out) (by decide)) (Kd.N_typed q2.out) (by decide)) (Kd.R_typed z8.out) (by decide)) (Kd.R_typed z9.out) (by decide)) (Kd.R_typed y0.out) (by decide)) (Kd.R_typed y1.out) (by decide)) q4.out (by decide)) q5.out (by decide)) j0.out (by decide)) j6.out (by decide)) j7.out (by decide)) z0.out (by decide)) z1.out (by decide)).1 k_ hs_.symm).1.2) (fun hn_ => (Kd.freshB (Ub z0) k_ hn_)), Or.elim hk_.1 (fun hs_ => ((Kd.R_types (Kd.R_types (Kd.R_types (Kd.R_types (Kd.R_types (Kd.R_types (Kd.R_types (Kd.R_apart' (Kd.R_apart' (Kd.R_apart' (Kd.R_apart' (Kd.R_apart' (Kd.R_apart' (y9.out) (Kd.R_typed j8.out) (by decide)) (Kd.N_typed q2.out) (by decide)) (Kd.R_typed z8.out) (by decide)) (Kd.R_typed z9.out) (by decide)) (Kd.R_typed y0.out) (by decide)) (Kd.R_typed y1.out) (by decide)) q4.out (by decide)) q5.out (by decide)) j0.out (by decide)) j6.out (by decide)) j7.out (by decide)) z0.out (by decide)) z1.out (by decide)).1 k_ hs_.symm).2) (fun hn_ => (Kd.freshB (Ub z1) k_ hn_))⟩)) (below_size (bl HB))); have Xr := Qaa.mk (Kd.R_lower (Kd.R_new' (Kd.R_new' (Kd.R_newM (M := fun k_ => (w.heap.size ≤ k_)) (Kd.R_mono (ok' := fun k_ => some k_ ≠ (q0n : Value).ownBlock) ho1 (fun _ hk_ => hk_.2)) (below_size (bl HB)) (fun k_ h_ => h_)) (Kd.R_lt (R_u z8.out))) (Kd.R_lt (R_u y1.out))) (below_size (bl HB))); have Xs := Qaa.mk (Kd.R_lower (Kd.R_new' (Kd.R_new' (Kd.R_newM (M := fun k_ => (w.heap.size ≤ k_)) (Kd.R_mono (ok' := fun k_ => some k_ ≠ (q0m : Value).ownBlock) ho2 (fun _ hk_ => hk_.2)) (below_size (bl HB)) (fun k_ h_ => h_)) (Kd.R_lt (R_u z9.out))) (Kd.R_lt (R_u y0.out))) (below_size (bl HB))); have Xt := Qaa.mk (Kd.R_lower (Kd.R_new' (Kd.R_new' (Kd.R_newM (M := fun k_ => (w.heap.size ≤ k_)) (Kd.R_mono (ok' := fun k_ => some k_ ≠ (q0l : Value).ownBlock) ho3 (fun _ hk_ => hk_.2)) (below_size (bl HB)) (fun k_ h_ => h_)) (Kd.R_lt (R_u z9.out))) (Kd.R_lt (R_u y0.out))) (below_size (bl HB))); have Xu := Qaa.mk (Kd.R_lower (Kd.R_new' (Kd.R_new' (Kd.R_newM (M := fun k_ => (w.heap.size ≤ k_)) (Kd.R_mono (ok' := fun k_ => some k_ ≠ (q0k : Value).ownBlock) ho4 (fun _ hk_ => hk_.2)) (below_size (bl HB)) (fun k_ h_ => h_)) (Kd.R_lt (R_u z8.out))) (Kd.R_lt (R_u y1.out))) (below_size (bl HB))); replace y2 := Qaa.mk (Kd.V_mono (Kd.V_told (Kd.V_told (Kd.V_told (Kd.V_told (Kd.V_old (V_u y2.out) hb) (Kd.R_base ho1)) (Kd.R_base ho2)) (Kd.R_base ho3)) (Kd.R_base ho4)) (fun _ h_ => h_.1)); replace y3 := Qaa.mk (Kd.V_mono (Kd.V_told (Kd.V_told (Kd.V_told (Kd.V_told (Kd.V_old (V_u y3.out) hb) (Kd.R_base ho1)) (Kd.R_base ho2)) (Kd.R_base ho3)) (Kd.R_base ho4)) (fun _ h_ => h_.1)); replace j8 := Rb j8 hb; replace Q0 := Qaa.mk (Kd.V_mono (Kd.V_told (Kd.V_told (Kd.V_told (Kd.V_told (Kd.V_old (V_u Q0.out) hb) (Kd.R_base ho1)) (Kd.R_base ho2)) (Kd.R_base ho3)) (Kd.R_base ho4)) (fun _ h_ => h_.1)); replace j1 := Qaa.mk (Kd.V_mono (Kd.V_told (Kd.V_told (Kd.V_told (Kd.V_told (Kd.V_old (V_u j1.out) hb) (Kd.R_base ho1)) (Kd.R_base ho2)) (Kd.R_base ho3)) (Kd.R_base ho4)) (fun _ h_ => h_.1)); replace j2 := Qaa.mk (Kd.V_mono (Kd.V_told (Kd.V_told (Kd.V_told (Kd.V_told (Kd.V_old (V_u j2.out) hb) (Kd.R_base ho1)) (Kd.R_base ho2)) (Kd.R_base ho3)) (Kd.R_base ho4)) (fun _ h_ => h_.1)); replace q2 := Qaa.mk (Kd.N_mono (Kd.N_told (Kd.N_told (Kd.N_told (Kd.N_told (Kd.N_old (N_u q2.out) hb) (Kd.R_base ho1)) (Kd.R_base ho2)) (Kd.R_base ho3)) (Kd.R_base ho4)) (fun _ h_ => h_.1)); replace y9 := Rb y9 hb; replace z8 := Qaa.mk (Kd.R_mono (Kd.R_told (Kd.R_told (Kd.R_old (R_u z8.out) hb) (Kd.R_base ho1)) (Kd.R_base ho4)) (fun _ h_ => h_.1)); replace z9 := Qaa.mk (Kd.R_mono (Kd.R_told (Kd.R_told (Kd.R_old (R_u z9.out) hb) (Kd.R_base ho2)) (Kd.R_base ho3)) (fun _ h_ => h_.1)); replace y0 := Qaa.mk (Kd.R_mono (Kd.R_told (Kd.R_told (Kd.R_old (R_u y0.out) hb) (Kd.R_base ho2)) (Kd.R_base ho3)) (fun _ h_ => h_.1)); replace y1 := Qaa.mk (Kd.R_mono (Kd.R_told (Kd.R_told (Kd.R_old (R_u y1.out) hb) (Kd.R_base ho1)) (Kd.R_base ho4)) (fun _ h_ => h_.1)); replace q4 := Bb q4 hb; replace q5 := Bb q5 hb; replace j0 := Bb j0 hb; replace j6 := Bb j6 hb; replace j7 := Bb j7 hb; replace z0 := Bb z0 hb; replace z1 := Bb z1 hb; replace HB := bs HB hb; (try clear hb); (try clear ho0); (try clear ho1); (try clear ho2); (try clear ho3); (try clear ho4); obtain ⟨q33, q34, q35, q36, q37, q38, q39, q3a, q3b, q3c, q3d, q3e⟩ := cf6 z1; obtain ⟨Z5, Z6, eo152⟩ := Kd.V_slice X5.out; subst eo152; obtain ⟨Q4, Q5, eo153⟩ := Kd.R_slice Xr.out; subst eo153; obtain ⟨Q6, Q7, eo154⟩ := Kd.R_slice Xs.out; subst eo154; obtain ⟨Q8, Q9, eo155⟩ := Kd.R_slice Xt.out; subst eo155; obtain ⟨Qa, Qb, eo156⟩ := Kd.R_slice Xu.out; subst eo156) | ((with_reducible refine gate_store (t := 39) (p := 21) rfl ?_); refine store_event (t := 39) (p := 21) (v := ?vo_w157) (w1 := ((((((q32.setCell ⟨q1, 0, none⟩ (.int .i64 Z9)).setCell ⟨q1, 1, none⟩ (.slice Z5 Z4.length Z6)).setCell ⟨q1, 2, none⟩ (.slice Q4 Qd.length Q5)).setCell ⟨q1, 3, none⟩ (.slice Q6 Qe.length Q7)).setCell ⟨q1, 4, none⟩ (.slice Q8 Qf.length Q9)).setCell ⟨q1, 5, none⟩ (.slice Qa Qg.length Qb))) ?hg ?ho ?hn ?hr ?_; (case ho => rfl); (case hg => rfl); (case hn => rfl); (case hr => first | (go_simp; done) | (go_simp; rfl)); intro Jb hw; replace y2 : Qaa (Kd.V (Kd.int .i64) 3 Jb w.heap.size (fun k_ => ((z2 k_ ∨ z3 k_) ∨ w.heap.size ≤ k_) ∧ some k_ ≠ (.slice Qq x16_4.length Qr : Value).ownBlock ∧ some k_ ≠ (j9 : Value).ownBlock ∧ some k_ ≠ (.slice Jc Q1.length Jd : Value).ownBlock ∧ some k_ ≠ (.slice Qi y4.length Qj : Value).ownBlock ∧ some k_ ≠ (.slice Qk y5.length Ql : Value).ownBlock ∧ some k_ ≠ (.slice Qm y6.length Qn : Value).ownBlock ∧ some k_ ≠ (.slice Qo y7.length Qp : Value).ownBlock ∧ some k_ ≠ (.slice Q4 Qd.length Q5 : Value).ownBlock ∧ some k_ ≠ (.slice Q6 Qe.length Q7 : Value).ownBlock ∧ some k_ ≠ (.slice Q8 Qf.length Q9 : Value).ownBlock ∧ some k_ ≠ (.slice Qa Qg.length Qb : Value).ownBlock ∧ k_ ≠ j5 ∧ k_ ≠ j3 ∧ k_ ≠ j4 ∧ k_ ≠ q6 ∧ k_ ≠ q8 ∧ k_ ≠ q9 ∧ k_ ≠ q1) (.slice Vs z7.length Vt) z7) := ⟨(by rw [hw]; exact (by apply V_u; exact Vm (Kd.V_far (p := ⟨q1, 5, none⟩) (Kd.V_far (p := ⟨q1, 4, none⟩) (Kd.V_far (p := ⟨q1, 3, none⟩) (Kd.V_far (p := ⟨q1, 2, none⟩) (Kd.V_far (p := ⟨q1, 1, none⟩) (Kd.V_far (p := ⟨q1, 0, none⟩) (Kd.V_mono y2.out (fun k_ hk => (⟨hk, hk.1.1.1.1.2⟩ : _ ∧ k_ ≠ q1))) (fun _ hk => hk.2) (.int .i64 Z9)) (fun _ hk => hk.2) (.slice Z5 Z4.length Z6)) (fun _ hk => hk.2) (.slice Q4 Qd.length Q5)) (fun _ hk => hk.2) (.slice Q6 Qe.length Q7)) (fun _ hk => hk.2) (.slice Q8 Qf.length Q9)) (fun _ hk => hk.2) (.slice Qa Qg.length Qb))))⟩; replace y3 : Qaa (Kd.V (Kd.int .i64) 3 Jb w.heap.size (fun k_ => ((z2 k_ ∨ z3 k_) ∨ w.heap.size ≤ k_) ∧ some k_ ≠ (.slice Qq x16_4.length Qr : Value).ownBlock ∧ some k_ ≠ (j9 : Value).ownBlock ∧ some k_ ≠ (.slice Jc Q1.length Jd : Value).ownBlock ∧ some k_ ≠ (.slice Qi y4.length Qj : Value).ownBlock ∧ some k_ ≠ (.slice Qk y5.length Ql : Value).ownBlock ∧ some k_ ≠ (.slice Qm y6.length Qn : Value).ownBlock ∧ some k_ ≠ (.slice Qo y7.length Qp : Value).ownBlock ∧ some k_ ≠ (.slice Q4 Qd.length Q5 : Value).ownBlock ∧ some k_ ≠ (.slice Q6 Qe.length Q7 : Value).ownBlock ∧ some k_ ≠ (.slice Q8 Qf.length Q9 : Value).ownBlock ∧ some k_ ≠ (.slice Qa Qg.length Qb : Value).ownBlock ∧ k_ ≠ j5 ∧ k_ ≠ j3 ∧ k_ ≠ j4 ∧ k_ ≠ q6 ∧ k_ ≠ q8 ∧ k_ ≠ q9 ∧ k_ ≠ q1) (.slice Wl z5.length Wm) z5) := ⟨(by rw [hw]; exact (by apply V_u; exact Vm (Kd.V_far (p := ⟨q1, 5, none⟩) (Kd.V_far (p := ⟨q1, 4, none⟩) (Kd.V_far (p := ⟨q1, 3, none⟩) (Kd.V_far (p := ⟨q1, 2, none⟩) (Kd.V_far (p := ⟨q1, 1, none⟩) (Kd.V_far (p := ⟨q1, 0, none⟩) (Kd.V_mono y3.out (fun k_ hk => (⟨hk, hk.1.1.1.1.2⟩ : _ ∧ k_ ≠ q1))) (fun _ hk => hk.2) (.int .i64 Z9)) (fun _ hk => hk.2) (.slice Z5 Z4.length Z6)) (fun _ hk => hk.2) (.slice Q4 Qd.length Q5)) (fun _ hk => hk.2) (.slice Q6 Qe.length Q7)) (fun _ hk => hk.2) (.slice Q8 Qf.length Q9)) (fun _ hk => hk.2) (.slice Qa Qg.length Qb))))⟩; replace j8 : Qaa (Kd.R k41 41 Jb w.heap.size (fun k_ => (w.heap.size ≤ k_)) (.slice Qq x16_4.length Qr) x16_4) := ⟨(by rw [hw]; exact (by apply R_u; exact Kd.R_mono (Kd.R_far (p := ⟨q1, 5, none⟩) (Kd.R_far (p := ⟨q1, 4, none⟩) (Kd.R_far (p := ⟨q1, 3, none⟩) (Kd.R_far (p := ⟨q1, 2, none⟩) (Kd.R_far (p := ⟨q1, 1, none⟩) (Kd.R_far (p := ⟨q1, 0, none⟩) (Kd.R_types j8.out z1.out (by decide)) (fun _ hk => hk.2) (.int .i64 Z9)) (fun _ hk => hk.2) (.slice Z5 Z4.length Z6)) (fun _ hk => hk.2) (.slice Q4 Qd.length Q5)) (fun _ hk => hk.2) (.slice Q6 Qe.length Q7)) (fun _ hk => hk.2) (.slice Q8 Qf.length Q9)) (fun _ hk => hk.2) (.slice Qa Qg.length Qb)) (fun _ hk => hk.1)))⟩; replace Q0 : Qaa (Kd.V (Kd.int .i64) 3 Jb w.heap.size (fun k_ => ((z2 k_ ∨ z3 k_) ∨ w.heap.size ≤ k_) ∧ some k_ ≠ (.slice Qq x16_4.length Qr : Value).ownBlock ∧ some k_ ≠ (j9 : Value).ownBlock ∧ some k_ ≠ (.slice Jc Q1.length Jd : Value).ownBlock ∧ some k_ ≠ (.slice Qi y4.length Qj : Value).ownBlock ∧ some k_ ≠ (.slice Qk y5.length Ql : Value).ownBlock ∧ some k_ ≠ (.slice Qm y6.length Qn : Value).ownBlock ∧ some k_ ≠ (.slice Qo y7.length Qp : Value).ownBlock ∧ some k_ ≠ (.slice Q4 Qd.length Q5 : Value).ownBlock ∧ some k_ ≠ (.slice Q6 Qe.length Q7 : Value).ownBlock ∧ some k_ ≠ (.slice Q8 Qf.length Q9 : Value).ownBlock ∧ some k_ ≠ (.slice Qa Qg.length Qb : Value).ownBlock ∧ k_ ≠ j5 ∧ k_ ≠ j3 ∧ k_ ≠ j4 ∧ k_ ≠ q6 ∧ k_ ≠ q8 ∧ k_ ≠ q9 ∧ k_ ≠ q1) (.slice Wl z5.length Wm) z5) := ⟨(by rw [hw]; exact (by apply V_u; exact Vm (Kd.V_far (p := ⟨q1, 5, none⟩) (Kd.V_far (p := ⟨q1, 4, none⟩) (Kd.V_far (p := ⟨q1, 3, none⟩) (Kd.V_far (p := ⟨q1, 2, none⟩) (Kd.V_far (p := ⟨q1, 1, none⟩) (Kd.V_far (p := ⟨q1, 0, none⟩) (Kd.V_mono Q0.out (fun k_ hk => (⟨hk, hk.1.1.1.1.2⟩ : _ ∧ k_ ≠ q1))) (fun _ hk => hk.2) (.int .i64 Z9)) (fun _ hk => hk.2) (.slice Z5 Z4.length Z6)) (fun _ hk => hk.2) (.slice Q4 Qd.length Q5)) (fun _ hk => hk.2) (.slice Q6 Qe.length Q7)) (fun _ hk => hk.2) (.slice Q8 Qf.length Q9)) (fun _ hk => hk.2) (.slice Qa Qg.length Qb))))⟩; replace j1 : Qaa (Kd.V (Kd.int .i64) 3 Jb w.heap.size (fun k_ => ((z2 k_ ∨ z3 k_) ∨ w.heap.size ≤ k_) ∧ some k_ ≠ (.slice Qq x16_4.length Qr : Value).ownBlock ∧ some k_ ≠ (j9 : Value).ownBlock ∧ some k_ ≠ (.slice Jc Q1.length Jd : Value).ownBlock ∧ some k_ ≠ (.slice Qi y4.length Qj : Value).ownBlock ∧ some k_ ≠ (.slice Qk y5.length Ql : Value).ownBlock ∧ some k_ ≠ (.slice Qm y6.length Qn : Value).ownBlock ∧ some k_ ≠ (.slice Qo y7.length Qp : Value).ownBlock ∧ some k_ ≠ (.slice Q4 Qd.length Q5 : Value).ownBlock ∧ some k_ ≠ (.slice Q6 Qe.length Q7 : Value).ownBlock ∧ some k_ ≠ (.slice Q8 Qf.length Q9 : Value).ownBlock ∧ some k_ ≠ (.slice Qa Qg.length Qb : Value).ownBlock ∧ k_ ≠ j5 ∧ k_ ≠ j3 ∧ k_ ≠ j4 ∧ k_ ≠ q6 ∧ k_ ≠ q8 ∧ k_ ≠ q9 ∧ k_ ≠ q1) (.slice J9 Qs.length Ja) Qs) := ⟨(by rw [hw]; exact (by apply V_u; exact Vm (Kd.V_far (p := ⟨q1, 5, none⟩) (Kd.V_far (p := ⟨q1, 4, none⟩) (Kd.V_far (p := ⟨q1, 3, none⟩) (Kd.V_far (p := ⟨q1, 2, none⟩) (Kd.V_far (p := ⟨q1, 1, none⟩) (Kd.V_far (p := ⟨q1, 0, none⟩) (Kd.V_mono j1.out (fun k_ hk => (⟨hk, hk.1.1.1.1.2⟩ : _ ∧ k_ ≠ q1))) (fun _ hk => hk.2) (.int .i64 Z9)) (fun _ hk => hk.2) (.slice Z5 Z4.length Z6)) (fun _ hk => hk.2) (.slice Q4 Qd.length Q5)) (fun _ hk => hk.2) (.slice Q6 Qe.length Q7)) (fun _ hk => hk.2) (.slice Q8 Qf.length Q9)) (fun _ hk => hk.2) (.slice Qa Qg.length Qb))))⟩; replace j2 : Qaa (Kd.V (Kd.int .i64) 3 Jb w.heap.size (fun k_ => ((z2 k_ ∨ z3 k_) ∨ w.heap.size ≤ k_) ∧ some k_ ≠ (.slice Qq x16_4.length Qr : Value).ownBlock ∧ some k_ ≠ (j9 : Value).ownBlock ∧ some k_ ≠ (.slice Jc Q1.length Jd : Value).ownBlock ∧ some k_ ≠ (.slice Qi y4.length Qj : Value).ownBlock ∧ some k_ ≠ (.slice Qk y5.length Ql : Value).ownBlock ∧ some k_ ≠ (.slice Qm y6.length Qn : Value).ownBlock ∧ some k_ ≠ (.slice Qo y7.length Qp : Value).ownBlock ∧ some k_ ≠ (.slice Q4 Qd.length Q5 : Value).ownBlock ∧ some k_ ≠ (.slice Q6 Qe.length Q7 : Value).ownBlock ∧ some k_ ≠ (.slice Q8 Qf.length Q9 : Value).ownBlock ∧ some k_ ≠ (.slice Qa Qg.length Qb : Value).ownBlock ∧ k_ ≠ j5 ∧ k_ ≠ j3 ∧ k_ ≠ j4 ∧ k_ ≠ q6 ∧ k_ ≠ q8 ∧ k_ ≠ q9 ∧ k_ ≠ q1) (.slice Zr y8.length Zs) y8) := ⟨(by rw [hw]; exact (by apply V_u; exact Vm (Kd.V_far (p := ⟨q1, 5, none⟩) (Kd.V_far (p := ⟨q1, 4, none⟩) (Kd.V_far (p := ⟨q1, 3, none⟩) (Kd.V_far (p := ⟨q1, 2, none⟩) (Kd.V_far (p := ⟨q1, 1, none⟩) (Kd.V_far (p := ⟨q1, 0, none⟩) (Kd.V_mono j2.out (fun k_ hk => (⟨hk, hk.1.1.1.1.2⟩ : _ ∧ k_ ≠ q1))) (fun _ hk => hk.2) (.int .i64 Z9)) (fun _ hk => hk.2) (.slice Z5 Z4.length Z6)) (fun _ hk => hk.2) (.slice Q4 Qd.length Q5)) (fun _ hk => hk.2) (.slice Q6 Qe.length Q7)) (fun _ hk => hk.2) (.slice Q8 Qf.length Q9)) (fun _ hk => hk.2) (.slice Qa Qg.length Qb))))⟩; replace q2 : Qaa (Kd.N k39 39 Jb w.heap.size (fun k_ => ((z2 k_ ∨ z3 k_) ∨ w.heap.size ≤ k_) ∧ some k_ ≠ (.slice Qq x16_4.length Qr : Value).ownBlock ∧ some k_ ≠ (.slice Jc Q1.length Jd : Value).ownBlock ∧ some k_ ≠ (.slice Qi y4.length Qj : Value).ownBlock ∧ some k_ ≠ (.slice Qk y5.length Ql : Value).ownBlock ∧ some k_ ≠ (.slice Qm y6.length Qn : Value).ownBlock ∧ some k_ ≠ (.slice Qo y7.length Qp : Value).ownBlock ∧ some k_ ≠ (.slice Q4 Qd.length Q5 : Value).ownBlock ∧ some k_ ≠ (.slice Q6 Qe.length Q7 : Value).ownBlock ∧ some k_ ≠ (.slice Q8 Qf.length Q9 : Value).ownBlock ∧ some k_ ≠ (.slice Qa Qg.length Qb : Value).ownBlock ∧ k_ ≠ j5 ∧ k_ ≠ j3 ∧ k_ ≠ j4 ∧ k_ ≠ q6 ∧ k_ ≠ q8 ∧ k_ ≠ q9 ∧ k_ ≠ q1) j9 z4) := ⟨(by rw [hw]; exact (by apply N_u; exact Nm (Kd.N_far (p := ⟨q1, 5, none⟩) (Kd.N_far (p := ⟨q1, 4, none⟩) (Kd.N_far (p := ⟨q1, 3, none⟩) (Kd.N_far (p := ⟨q1, 2, none⟩) (Kd.N_far (p := ⟨q1, 1, none⟩) (Kd.N_far (p := ⟨q1, 0, none⟩) (Kd.N_mono q2.out (fun k_ hk => (⟨hk, hk.1.1.1.1.2⟩ : _ ∧ k_ ≠ q1))) (fun _ hk => hk.2) (.int .i64 Z9)) (fun _ hk => hk.2) (.slice Z5 Z4.length Z6)) (fun _ hk => hk.2) (.slice Q4 Qd.length Q5)) (fun _ hk => hk.2) (.slice Q6 Qe.length Q7)) (fun _ hk => hk.2) (.slice Q8 Qf.length Q9)) (fun _ hk => hk.2) (.slice Qa Qg.length Qb))))⟩; replace y9 : Qaa (Kd.R Kd.bool 4 Jb w.heap.size (fun k_ => (w.heap.size ≤ k_)) (.slice Jc Q1.length Jd) Q1) := ⟨(by rw [hw]; exact (by apply R_u; exact Kd.R_mono (Kd.R_far (p := ⟨q1, 5, none⟩) (Kd.R_far (p := ⟨q1, 4, none⟩) (Kd.R_far (p := ⟨q1, 3, none⟩) (Kd.R_far (p := ⟨q1, 2, none⟩) (Kd.R_far (p := ⟨q1, 1, none⟩) (Kd.R_far (p := ⟨q1, 0, none⟩) (Kd.R_types y9.out z1.out (by decide)) (fun _ hk => hk.2) (.int .i64 Z9)) (fun _ hk => hk.2) (.slice Z5 Z4.length Z6)) (fun _ hk => hk.2) (.slice Q4 Qd.length Q5)) (fun _ hk => hk.2) (.slice Q6 Qe.length Q7)) (fun _ hk => hk.2) (.slice Q8 Qf.length Q9)) (fun _ hk => hk.2) (.slice Qa Qg.length Qb)) (fun _ hk => hk.1.1)))⟩; replace z8 : Qaa (Kd.R (Kd.int .i64) 3 Jb w.heap.size (fun k_ => (w.heap.size ≤ k_) ∧ some k_ ≠ (.slice Qo y7.length Qp : Value).ownBlock ∧ some k_ ≠ (.slice Q4 Qd.length Q5 : Value).ownBlock ∧ some k_ ≠ (.slice Qa Qg.length Qb : Value).ownBlock) (.slice Qi y4.length Qj) y4) := ⟨(by rw [hw]; exact (by apply R_u; exact Rm (Kd.R_far (p := ⟨q1, 5, none⟩) (Kd.R_far (p := ⟨q1, 4, none⟩) (Kd.R_far (p := ⟨q1, 3, none⟩) (Kd.R_far (p := ⟨q1, 2, none⟩) (Kd.R_far (p := ⟨q1, 1, none⟩) (Kd.R_far (p := ⟨q1, 0, none⟩) (Kd.R_types z8.out z1.out (by decide)) (fun _ hk => hk.2) (.int .i64 Z9)) (fun _ hk => hk.2) (.slice Z5 Z4.length Z6)) (fun _ hk => hk.2) (.slice Q4 Qd.length Q5)) (fun _ hk => hk.2) (.slice Q6 Qe.length Q7)) (fun _ hk => hk.2) (.slice Q8 Qf.length Q9)) (fun _ hk => hk.2) (.slice Qa Qg.length Qb))))⟩; replace z9 : Qaa (Kd.R Kd.string 9 Jb w.heap.size (fun k_ => (w.heap.size ≤ k_) ∧ some k_ ≠ (.slice Qm y6.length Qn : Value).ownBlock ∧ some k_ ≠ (.slice Q6 Qe.length Q7 : Value).ownBlock ∧ some k_ ≠ (.slice Q8 Qf.length Q9 : Value).ownBlock) (.slice Qk y5.length Ql) y5) := ⟨(by rw [hw]; exact (by apply R_u; exact Rm (Kd.R_far (p := ⟨q1, 5, none⟩) (Kd.R_far (p := ⟨q1, 4, none⟩) (Kd.R_far (p := ⟨q1, 3, none⟩) (Kd.R_far (p := ⟨q1, 2, none⟩) (Kd.R_far (p := ⟨q1, 1, none⟩) (Kd.R_far (p := ⟨q1, 0, none⟩) (Kd.R_types z9.out z1.out (by decide)) (fun _ hk => hk.2) (.int .i64 Z9)) (fun _ hk => hk.2) (.slice Z5 Z4.length Z6)) (fun _ hk => hk.2) (.slice Q4 Qd.length Q5)) (fun _ hk => hk.2) (.slice Q6 Qe.length Q7)) (fun _ hk => hk.2) (.slice Q8 Qf.length Q9)) (fun _ hk => hk.2) (.slice Qa Qg.length Qb))))⟩; replace y0 : Qaa (Kd.R Kd.string 9 Jb w.heap.size (fun k_ => (w.heap.size ≤ k_) ∧ some k_ ≠ (.slice Qk y5.length Ql : Value).ownBlock ∧ some k_ ≠ (.slice Q6 Qe.length Q7 : Value).ownBlock ∧ some k_ ≠ (.slice Q8 Qf.length Q9 : Value).ownBlock) (.slice Qm y6.length Qn) y6) := ⟨(by rw [hw]; exact (by apply R_u; exact Rm (Kd.R_far (p := ⟨q1, 5, none⟩) (Kd.R_far (p := ⟨q1, 4, none⟩) (Kd.R_far (p := ⟨q1, 3, none⟩) (Kd.R_far (p := ⟨q1, 2, none⟩) (Kd.R_far (p := ⟨q1, 1, none⟩) (Kd.R_far (p := ⟨q1, 0, none⟩) (Kd.R_types y0.out z1.out (by decide)) (fun _ hk => hk.2) (.int .i64 Z9)) (fun _ hk => hk.2) (.slice Z5 Z4.length Z6)) (fun _ hk => hk.2) (.slice Q4 Qd.length Q5)) (fun _ hk => hk.2) (.slice Q6 Qe.length Q7)) (fun _ hk => hk.2) (.slice Q8 Qf.length Q9)) (fun _ hk => hk.2) (.slice Qa Qg.length Qb))))⟩; replace y1 : Qaa (Kd.R (Kd.int .i64) 3 Jb w.heap.size (fun k_ => (w.heap.size ≤ k_) ∧ some k_ ≠ (.slice Qi y4.length Qj : Value).ownBlock ∧ some k_ ≠ (.slice Q4 Qd.length Q5 : Value).ownBlock ∧ some k_ ≠ (.slice Qa Qg.length Qb : Value).ownBlock) (.slice Qo y7.length Qp) y7) := ⟨(by rw [hw]; exact (by apply R_u; exact Rm (Kd.R_far (p := ⟨q1, 5, none⟩) (Kd.R_far (p := ⟨q1, 4, none⟩) (Kd.R_far (p := ⟨q1, 3, none⟩) (Kd.R_far (p := ⟨q1, 2, none⟩) (Kd.R_far (p := ⟨q1, 1, none⟩) (Kd.R_far (p := ⟨q1, 0, none⟩) (Kd.R_types y1.out z1.out (by decide)) (fun _ hk => hk.2) (.int .i64 Z9)) (fun _ hk => hk.2) (.slice Z5 Z4.length Z6)) (fun _ hk => hk.2) (.slice Q4 Qd.length Q5)) (fun _ hk => hk.2) (.slice Q6 Qe.length Q7)) (fun _ hk => hk.2) (.slice Q8 Qf.length Q9)) (fun _ hk => hk.2) (.slice Qa Qg.length Qb))))⟩; replace X5 : Qaa (Kd.V Kd.bool 4 Jb w.heap.size (fun k_ => ((z2 k_ ∨ z3 k_) ∨ w.heap.size ≤ k_) ∧ some k_ ≠ (.slice Qq x16_4.length Qr : Value).ownBlock ∧ some k_ ≠ (j9 : Value).ownBlock ∧ some k_ ≠ (.slice Qi y4.length Qj : Value).ownBlock ∧ some k_ ≠ (.slice Qk y5.length Ql : Value).ownBlock ∧ some k_ ≠ (.slice Qm y6.length Qn : Value).ownBlock ∧ some k_ ≠ (.slice Qo y7.length Qp : Value).ownBlock ∧ some k_ ≠ (.slice Q4 Qd.length Q5 : Value).ownBlock ∧ some k_ ≠ (.slice Q6 Qe.length Q7 : Value).ownBlock ∧ some k_ ≠ (.slice Q8 Qf.length Q9 : Value).ownBlock ∧ some k_ ≠ (.slice Qa Qg.length Qb : Value).ownBlock ∧ k_ ≠ j5 ∧ k_ ≠ j3 ∧ k_ ≠ j4 ∧ k_ ≠ q6 ∧ k_ ≠ q8 ∧ k_ ≠ q9 ∧ k_ ≠ q1) (.slice Z5 Z4.length Z6) Z4) := ⟨(by rw [hw]; exact (by apply V_u; exact Vm (Kd.V_far (p := ⟨q1, 5, none⟩) (Kd.V_far (p := ⟨q1, 4, none⟩) (Kd.V_far (p := ⟨q1, 3, none⟩) (Kd.V_far (p := ⟨q1, 2, none⟩) (Kd.V_far (p := ⟨q1, 1, none⟩) (Kd.V_far (p := ⟨q1, 0, none⟩) (Kd.V_mono X5.out (fun k_ hk => (⟨hk, hk.2.2.2.2.2.2.2.2.2.2.2.2.2.2.2.2.2⟩ : _ ∧ k_ ≠ q1))) (fun _ hk => hk.2) (.int .i64 Z9)) (fun _ hk => hk.2) (.slice Z5 Z4.length Z6)) (fun _ hk => hk.2) (.slice Q4 Qd.length Q5)) (fun _ hk => hk.2) (.slice Q6 Qe.length Q7)) (fun _ hk => hk.2) (.slice Q8 Qf.length Q9)) (fun _ hk => hk.2) (.slice Qa Qg.length Qb))))⟩; replace Xr : Qaa (Kd.R (Kd.int .i64) 3 Jb w.heap.size (fun k_ => (w.heap.size ≤ k_) ∧ some k_ ≠ (.slice Qi y4.length Qj : Value).ownBlock ∧ some k_ ≠ (.slice Qo y7.length Qp : Value).ownBlock ∧ some k_ ≠ (.slice Qa Qg.length Qb : Value).ownBlock) (.slice Q4 Qd.length Q5) Qd) := ⟨(by rw [hw]; exact (by apply R_u; exact Rm (Kd.R_far (p := ⟨q1, 5, none⟩) (Kd.R_far (p := ⟨q1, 4, none⟩) (Kd.R_far (p := ⟨q1, 3, none⟩) (Kd.R_far (p := ⟨q1, 2, none⟩) (Kd.R_far (p := ⟨q1, 1, none⟩) (Kd.R_far (p := ⟨q1, 0, none⟩) (Kd.R_types Xr.out z1.out (by decide)) (fun _ hk => hk.2) (.int .i64 Z9)) (fun _ hk => hk.2) (.slice Z5 Z4.length Z6)) (fun _ hk => hk.2) (.slice Q4 Qd.length Q5)) (fun _ hk => hk.2) (.slice Q6 Qe.length Q7)) (fun _ hk => hk.2) (.slice Q8 Qf.length Q9)) (fun _ hk => hk.2) (.slice Qa Qg.length Qb))))⟩; replace Xs : Qaa (Kd.R Kd.string 9 Jb w.heap.size (fun k_ => (w.heap.size ≤ k_) ∧ some k_ ≠ (.slice Qk y5.length Ql : Value).ownBlock ∧ some k_ ≠ (.slice Qm y6.length Qn : Value).ownBlock ∧ some k_ ≠ (.slice Q8 Qf.length Q9 : Value).ownBlock) (.slice Q6 Qe.length Q7) Qe) := ⟨(by rw [hw]; exact (by apply R_u; exact Rm (Kd.R_far (p := ⟨q1, 5, none⟩) (Kd.R_far (p := ⟨q1, 4, none⟩) (Kd.R_far (p := ⟨q1, 3, none⟩) (Kd.R_far (p := ⟨q1, 2, none⟩) (Kd.R_far (p := ⟨q1, 1, none⟩) (Kd.R_far (p := ⟨q1, 0, none⟩) (Kd.R_types Xs.out z1.out (by decide)) (fun _ hk => hk.2) (.int .i64 Z9)) (fun _ hk => hk.2) (.slice Z5 Z4.length Z6)) (fun _ hk => hk.2) (.slice Q4 Qd.length Q5)) (fun _ hk => hk.2) (.slice Q6 Qe.length Q7)) (fun _ hk => hk.2) (.slice Q8 Qf.length Q9)) (fun _ hk => hk.2) (.slice Qa Qg.length Qb))))⟩; replace Xt : Qaa (Kd.R Kd.string 9 Jb w.heap.size (fun k_ => (w.heap.size ≤ k_) ∧ some k_ ≠ (.slice Qk y5.length Ql : Value).ownBlock ∧ some k_ ≠ (.slice Qm y6.length Qn : Value).ownBlock ∧ some k_ ≠ (.slice Q6 Qe.length Q7 : Value).ownBlock) (.slice Q8 Qf.length Q9) Qf) := ⟨(by rw [hw]; exact (by apply R_u; exact Rm (Kd.R_far (p := ⟨q1, 5, none⟩) (Kd.R_far (p := ⟨q1, 4, none⟩) (Kd.R_far (p := ⟨q1, 3, none⟩) (Kd.R_far (p := ⟨q1, 2, none⟩) (Kd.R_far (p := ⟨q1, 1, none⟩) (Kd.R_far (p := ⟨q1, 0, none⟩) (Kd.R_types Xt.out z1.out (by decide)) (fun _ hk => hk.2) (.int .i64 Z9)) (fun _ hk => hk.2) (.slice Z5 Z4.length Z6)) (fun _ hk => hk.2) (.slice Q4 Qd.length Q5)) (fun _ hk => hk.2) (.slice Q6 Qe.length Q7)) (fun _ hk => hk.2) (.slice Q8 Qf.length Q9)) (fun _ hk => hk.2) (.slice Qa Qg.length Qb))))⟩; replace Xu : Qaa (Kd.R (Kd.int .i64) 3 Jb w.heap.size (fun k_ => (w.heap.size ≤ k_) ∧ some k_ ≠ (.slice Qi y4.length Qj : Value).ownBlock ∧ some k_ ≠ (.slice Qo y7.length Qp : Value).ownBlock ∧ some k_ ≠ (.slice Q4 Qd.length Q5 : Value).ownBlock) (.slice Qa Qg.length Qb) Qg) := ⟨(by rw [hw]; exact (by apply R_u; exact Rm (Kd.R_far (p := ⟨q1, 5, none⟩) (Kd.R_far (p := ⟨q1, 4, none⟩) (Kd.R_far (p := ⟨q1, 3, none⟩) (Kd.R_far (p := ⟨q1, 2, none⟩) (Kd.R_far (p := ⟨q1, 1, none⟩) (Kd.R_far (p := ⟨q1, 0, none⟩) (Kd.R_types Xu.out z1.out (by decide)) (fun _ hk => hk.2) (.int .i64 Z9)) (fun _ hk => hk.2) (.slice Z5 Z4.length Z6)) (fun _ hk => hk.2) (.slice Q4 Qd.length Q5)) (fun _ hk => hk.2) (.slice Q6 Qe.length Q7)) (fun _ hk => hk.2) (.slice Q8 Qf.length Q9)) (fun _ hk => hk.2) (.slice Qa Qg.length Qb))))⟩; replace q4 := hB hw (Ub q4); replace q5 := hB hw (Ub q5); replace j0 := hB hw (Ub j0); replace j6 := hB hw (Ub j6); replace j7 := hB hw (Ub j7); replace z0 := hB hw (Ub z0); replace z1 := hB hw (Uf6 z1); replace HB : Qaa (Below w.heap.size w Jb) := ⟨(by rw [hw]; exact (bl HB))⟩; clear hw; have qb9 := Jy.out; have qc0 := Qz.out; have qc1 := Ju.out; have qc2 := Qt.out; have qc3 := Jz.out; have qc4 := Z0.out; obtain ⟨q3f, q3g, q3h, q3i, q3j, q3k, q3l, q3m⟩ := cf4 j6; obtain ⟨q3n, q3o, q3p, q3q, q3r, q3s, q3t, q3u, q3v, q3w, q3x, q3y⟩ := cf6 z1) | ((with_reducible refine gate_builtin (b := .append) (xs := #[.tmp 130, .tmp 132]) rfl ?_); at_builtin; refine Kd.N_append k39 (w0 := w) w.heap.size rfl (.tmp 130) (.tmp 132) 23 39 (.agg #[(.int .i64 0), (.slice none 0 0), (.slice none 0 0), (.slice none 0 0), (.slice none 0 0), (.slice none 0 0)]) 128 rfl Try.underlying23 info39 rfl (by decide) (by omega) j9 z4 (⟨Z9, Z4, Qd, Qe, Qf, Qg⟩ : S39) [.int .i64 Z9, .slice Z5 Z4.length Z6, .slice Q4 Qd.length Q5, .slice Q6 Qe.length Q7, .slice Q8 Qf.length Q9, .slice Qa Qg.length Qb] (fun k_ => ((z2 k_ ∨ z3 k_) ∨ w.heap.size ≤ k_) ∧ some k_ ≠ (.slice Qq x16_4.length Qr : Value).ownBlock ∧ some k_ ≠ (.slice Qi y4.length Qj : Value).ownBlock ∧ some k_ ≠ (.slice Qk y5.length Ql : Value).ownBlock ∧ some k_ ≠ (.slice Qm y6.length Qn : Value).ownBlock ∧ some k_ ≠ (.slice Qo y7.length Qp : Value).ownBlock ∧ k_ ≠ j5 ∧ k_ ≠ j3 ∧ k_ ≠ j4 ∧ k_ ≠ q6 ∧ k_ ≠ q8 ∧ k_ ≠ q9 ∧ k_ ≠ q1) (fun k_ => ((fun k_ => ((z2 k_ ∨ z3 k_) ∨ w.heap.size ≤ k_) ∧ some k_ ≠ (.slice Qq x16_4.length Qr : Value).ownBlock ∧ some k_ ≠ (.slice Qi y4.length Qj : Value).ownBlock ∧ some k_ ≠ (.slice Qk y5.length Ql : Value).ownBlock ∧ some k_ ≠ (.slice Qm y6.length Qn : Value).ownBlock ∧ some k_ ≠ (.slice Qo y7.length Qp : Value).ownBlock ∧ k_ ≠ j5 ∧ k_ ≠ j3 ∧ k_ ≠ j4 ∧ k_ ≠ q6 ∧ k_ ≠ q8 ∧ k_ ≠ q9 ∧ k_ ≠ q1)) k_ ∧ some k_ ≠ (j9 : Value).ownBlock) rfl rfl ?aP (fun _ hk => hk) ?aF ?aO ?aB ?aS ?aL ?_; (case aP => exact (k39_mkF _ _ (⟨Z9, Z4, Qd, Qe, Qf, Qg⟩ : S39) (Kd.V_reads' (Kd.V_mono (ok' := (fun k_ => ((fun k_ => ((z2 k_ ∨ z3 k_) ∨ w.heap.size ≤ k_) ∧ some k_ ≠ (.slice Qq x16_4.length Qr : Value).ownBlock ∧ some k_ ≠ (.slice Qi y4.length Qj : Value).ownBlock ∧ some k_ ≠ (.slice Qk y5.length Ql : Value).ownBlock ∧ some k_ ≠ (.slice Qm y6.length Qn : Value).ownBlock ∧ some k_ ≠ (.slice Qo y7.length Qp : Value).ownBlock ∧ k_ ≠ j5 ∧ k_ ≠ j3 ∧ k_ ≠ j4 ∧ k_ ≠ q6 ∧ k_ ≠ q8 ∧ k_ ≠ q9 ∧ k_ ≠ q1)) k_ ∧ some k_ ≠ (j9 : Value).ownBlock)) (X5.out) (fun k_ hk => ⟨⟨hk.1, ⟨hk.2.1, ⟨hk.2.2.2.1, ⟨hk.2.2.2.2.1, ⟨hk.2.2.2.2.2.1, ⟨hk.2.2.2.2.2.2.1, ⟨hk.2.2.2.2.2.2.2.2.2.2.2.1, ⟨hk.2.2.2.2.2.2.2.2.2.2.2.2.1, ⟨hk.2.2.2.2.2.2.2.2.2.2.2.2.2.1, ⟨hk.2.2.2.2.2.2.2.2.2.2.2.2.2.2.1, ⟨hk.2.2.2.2.2.2.2.2.2.2.2.2.2.2.2.1, ⟨hk.2.2.2.2.2.2.2.2.2.2.2.2.2.2.2.2.1, hk.2.2.2.2.2.2.2.2.2.2.2.2.2.2.2.2.2⟩⟩⟩⟩⟩⟩⟩⟩⟩⟩⟩⟩, hk.2.2.1⟩))).2.1 (Kd.V_F (Kd.V_mono (ok' := (fun k_ => ((fun k_ => ((z2 k_ ∨ z3 k_) ∨ w.heap.size ≤ k_) ∧ some k_ ≠ (.slice Qq x16_4.length Qr : Value).ownBlock ∧ some k_ ≠ (.slice Qi y4.length Qj : Value).ownBlock ∧ some k_ ≠ (.slice Qk y5.length Ql : Value).ownBlock ∧ some k_ ≠ (.slice Qm y6.length Qn : Value).ownBlock ∧ some k_ ≠ (.slice Qo y7.length Qp : Value).ownBlock ∧ k_ ≠ j5 ∧ k_ ≠ j3 ∧ k_ ≠ j4 ∧ k_ ≠ q6 ∧ k_ ≠ q8 ∧ k_ ≠ q9 ∧ k_ ≠ q1)) k_ ∧ some k_ ≠ (j9 : Value).ownBlock)) (X5.out) (fun k_ hk => ⟨⟨hk.1, ⟨hk.2.1, ⟨hk.2.2.2.1, ⟨hk.2.2.2.2.1, ⟨hk.2.2.2.2.2.1, ⟨hk.2.2.2.2.2.2.1, ⟨hk.2.2.2.2.2.2.2.2.2.2.2.1, ⟨hk.2.2.2.2.2.2.2.2.2.2.2.2.1, ⟨hk.2.2.2.2.2.2.2.2.2.2.2.2.2.1, ⟨hk.2.2.2.2.2.2.2.2.2.2.2.2.2.2.1, ⟨hk.2.2.2.2.2.2.2.2.2.2.2.2.2.2.2.1, ⟨hk.2.2.2.2.2.2.2.2.2.2.2.2.2.2.2.2.1, hk.2.2.2.2.2.2.2.2.2.2.2.2.2.2.2.2.2⟩⟩⟩⟩⟩⟩⟩⟩⟩⟩⟩⟩, hk.2.2.1⟩))) (Kd.R_reads' (Kd.R_mono (ok' := (fun k_ => ((fun k_ => ((z2 k_ ∨ z3 k_) ∨ w.heap.size ≤ k_) ∧ some k_ ≠ (.slice Qq x16_4.length Qr : Value).ownBlock ∧ some k_ ≠ (.slice Qi y4.length Qj : Value).ownBlock ∧ some k_ ≠ (.slice Qk y5.length Ql : Value).ownBlock ∧ some k_ ≠ (.slice Qm y6.length Qn : Value).ownBlock ∧ some k_ ≠ (.slice Qo y7.length Qp : Value).ownBlock ∧ k_ ≠ j5 ∧ k_ ≠ j3 ∧ k_ ≠ j4 ∧ k_ ≠ q6 ∧ k_ ≠ q8 ∧ k_ ≠ q9 ∧ k_ ≠ q1)) k_ ∧ some k_ ≠ (j9 : Value).ownBlock)) (Kd.R_types (Kd.R_types (Kd.R_types (Kd.R_types (Kd.R_types (Kd.R_types (Kd.R_types (Kd.R_apart' (Kd.R_apart' (Kd.R_apart' (Kd.R_apart' (Xr.out) (Kd.R_typed j8.out) (by decide)) (Kd.R_typed z9.out) (by decide)) (Kd.R_typed y0.out) (by decide)) (Kd.N_typed q2.out) (by decide)) q4.out (by decide)) q5.out (by decide)) j0.out (by decide)) j6.out (by decide)) j7.out (by decide)) z0.out (by decide)) z1.out (by decide)) (fun k_ hk => ⟨⟨(.inr (hk.1.1.1.1.1.1.1.1.1.1.1.1)), ⟨hk.1.1.1.1.1.1.1.1.1.1.2, ⟨hk.1.1.1.1.1.1.1.1.1.1.1.2.1, ⟨hk.1.1.1.1.1.1.1.1.1.2, ⟨hk.1.1.1.1.1.1.1.1.2, ⟨hk.1.1.1.1.1.1.1.1.1.1.1.2.2.1, ⟨hk.1.1.1.1.1.1.2, ⟨hk.1.1.1.1.1.2, ⟨hk.1.1.1.1.2, ⟨hk.1.1.1.2, ⟨hk.1.1.2, ⟨hk.1.2, hk.2⟩⟩⟩⟩⟩⟩⟩⟩⟩⟩⟩⟩, hk.1.1.1.1.1.1.1.2⟩))).2.1 (Kd.R_F (Kd.R_mono (ok' := (fun k_ => ((fun k_ => ((z2 k_ ∨ z3 k_) ∨ w.heap.size ≤ k_) ∧ some k_ ≠ (.slice Qq x16_4.length Qr : Value).ownBlock ∧ some k_ ≠ (.slice Qi y4.length Qj : Value).ownBlock ∧ some k_ ≠ (.slice Qk y5.length Ql : Value).ownBlock ∧ some k_ ≠ (.slice Qm y6.length Qn : Value).ownBlock ∧ some k_ ≠ (.slice Qo y7.length Qp : Value).ownBlock ∧ k_ ≠ j5 ∧ k_ ≠ j3 ∧ k_ ≠ j4 ∧ k_ ≠ q6 ∧ k_ ≠ q8 ∧ k_ ≠ q9 ∧ k_ ≠ q1)) k_ ∧ some k_ ≠ (j9 : Value).ownBlock)) (Kd.R_types (Kd.R_types (Kd.R_types (Kd.R_types (Kd.R_types (Kd.R_types (Kd.R_types (Kd.R_apart' (Kd.R_apart' (Kd.R_apart' (Kd.R_apart' (Xr.out) (Kd.R_typed j8.out) (by decide)) (Kd.R_typed z9.out) (by decide)) (Kd.R_typed y0.out) (by decide)) (Kd.N_typed q2.out) (by decide)) q4.out (by decide)) q5.out (by decide)) j0.out (by decide)) j6.out (by decide)) j7.out (by decide)) z0.out (by decide)) z1.out (by decide)) (fun k_ hk => ⟨⟨(.inr (hk.1.1.1.1.1.1.1.1.1.1.1.1)), ⟨hk.1.1.1.1.1.1.1.1.1.1.2, ⟨hk.1.1.1.1.1.1.1.1.1.1.1.2.1, ⟨hk.1.1.1.1.1.1.1.1.1.2, ⟨hk.1.1.1.1.1.1.1.1.2, ⟨hk.1.1.1.1.1.1.1.1.1.1.1.2.2.1, ⟨hk.1.1.1.1.1.1.2, ⟨hk.1.1.1.1.1.2, ⟨hk.1.1.1.1.2, ⟨hk.1.1.1.2, ⟨hk.1.1.2, ⟨hk.1.2, hk.2⟩⟩⟩⟩⟩⟩⟩⟩⟩⟩⟩⟩, hk.1.1.1.1.1.1.1.2⟩))) (Kd.R_reads' (Kd.R_mono (ok' := (fun k_ => ((fun k_ => ((z2 k_ ∨ z3 k_) ∨ w.heap.size ≤ k_) ∧ some k_ ≠ (.slice Qq x16_4.length Qr : Value).ownBlock ∧ some k_ ≠ (.slice Qi y4.length Qj : Value).ownBlock ∧ some k_ ≠ (.slice Qk y5.length Ql : Value).ownBlock ∧ some k_ ≠ (.slice Qm y6.length Qn : Value).ownBlock ∧ some k_ ≠ (.slice Qo y7.length Qp : Value).ownBlock ∧ k_ ≠ j5 ∧ k_ ≠ j3 ∧ k_ ≠ j4 ∧ k_ ≠ q6 ∧ k_ ≠ q8 ∧ k_ ≠ q9 ∧ k_ ≠ q1)) k_ ∧ some k_ ≠ (j9 : Value).ownBlock)) (Kd.R_types (Kd.R_types (Kd.R_types (Kd.R_types (Kd.R_types (Kd.R_types (Kd.R_types (Kd.R_apart' (Kd.R_apart' (Kd.R_apart' (Kd.R_apart' (Xs.out) (Kd.R_typed j8.out) (by decide)) (Kd.R_typed z8.out) (by decide)) (Kd.R_typed y1.out) (by decide)) (Kd.N_typed q2.out) (by decide)) q4.out (by decide)) q5.out (by decide)) j0.out (by decide)) j6.out (by decide)) j7.out (by decide)) z0.out (by decide)) z1.out (by decide)) (fun k_ hk => ⟨⟨(.inr (hk.1.1.1.1.1.1.1.1.1.1.1.1)), ⟨hk.1.1.1.1.1.1.1.1.1.1.2, ⟨hk.1.1.1.1.1.1.1.1.1.2, ⟨hk.1.1.1.1.1.1.1.1.1.1.1.2.1, ⟨hk.1.1.1.1.1.1.1.1.1.1.1.2.2.1, ⟨hk.1.1.1.1.1.1.1.1.2, ⟨hk.1.1.1.1.1.1.2, ⟨hk.1.1.1.1.1.2, ⟨hk.1.1.1.1.2, ⟨hk.1.1.1.2, ⟨hk.1.1.2, ⟨hk.1.2, hk.2⟩⟩⟩⟩⟩⟩⟩⟩⟩⟩⟩⟩, hk.1.1.1.1.1.1.1.2⟩))).2.1 (Kd.R_F (Kd.R_mono (ok' := (fun k_ => ((fun k_ => ((z2 k_ ∨ z3 k_) ∨ w.heap.size ≤ k_) ∧ some k_ ≠ (.slice Qq x16_4.length Qr : Value).ownBlock ∧ some k_ ≠ (.slice Qi y4.length Qj : Value).ownBlock ∧ some k_ ≠ (.slice Qk y5.length Ql : Value).ownBlock ∧ some k_ ≠ (.slice Qm y6.length Qn : Value).ownBlock ∧ some k_ ≠ (.slice Qo y7.length Qp : Value).ownBlock ∧ k_ ≠ j5 ∧ k_ ≠ j3 ∧ k_ ≠ j4 ∧ k_ ≠ q6 ∧ k_ ≠ q8 ∧ k_ ≠ q9 ∧ k_ ≠ q1)) k_ ∧ some k_ ≠ (j9 : Value).ownBlock)) (Kd.R_types (Kd.R_types (Kd.R_types (Kd.R_types (Kd.R_types (Kd.R_types (Kd.R_types (Kd.R_apart' (Kd.R_apart' (Kd.R_apart' (Kd.R_apart' (Xs.out) (Kd.R_typed j8.out) (by decide)) (Kd.R_typed z8.out) (by decide)) (Kd.R_typed y1.out) (by decide)) (Kd.N_typed q2.out) (by decide)) q4.out (by decide)) q5.out (by decide)) j0.out (by decide)) j6.out (by decide)) j7.out (by decide)) z0.out (by decide)) z1.out (by decide)) (fun k_ hk => ⟨⟨(.inr (hk.1.1.1.1.1.1.1.1.1.1.1.1)), ⟨hk.1.1.1.1.1.1.1.1.1.1.2, ⟨hk.1.1.1.1.1.1.1.1.1.2, ⟨hk.1.1.1.1.1.1.1.1.1.1.1.2.1, ⟨hk.1.1.1.1.1.1.1.1.1.1.1.2.2.1, ⟨hk.1.1.1.1.1.1.1.1.2, ⟨hk.1.1.1.1.1.1.2, ⟨hk.1.1.1.1.1.2, ⟨hk.1.1.1.1.2, ⟨hk.1.1.1.2, ⟨hk.1.1.2, ⟨hk.1.2, hk.2⟩⟩⟩⟩⟩⟩⟩⟩⟩⟩⟩⟩, hk.1.1.1.1.1.1.1.2⟩))) (Kd.R_reads' (Kd.R_mono (ok' := (fun k_ => ((fun k_ => ((z2 k_ ∨ z3 k_) ∨ w.heap.size ≤ k_) ∧ some k_ ≠ (.slice Qq x16_4.length Qr : Value).ownBlock ∧ some k_ ≠ (.slice Qi y4.length Qj : Value).ownBlock ∧ some k_ ≠ (.slice Qk y5.length Ql : Value).ownBlock ∧ some k_ ≠ (.slice Qm y6.length Qn : Value).ownBlock ∧ some k_ ≠ (.slice Qo y7.length Qp : Value).ownBlock ∧ k_ ≠ j5 ∧ k_ ≠ j3 ∧ k_ ≠ j4 ∧ k_ ≠ q6 ∧ k_ ≠ q8 ∧ k_ ≠ q9 ∧ k_ ≠ q1)) k_ ∧ some k_ ≠ (j9 : Value).ownBlock)) (Kd.R_types (Kd.R_types (Kd.R_types (Kd.R_types (Kd.R_types (Kd.R_types (Kd.R_types (Kd.R_apart' (Kd.R_apart' (Kd.R_apart' (Kd.R_apart' (Xt.out) (Kd.R_typed j8.out) (by decide)) (Kd.R_typed z8.out) (by decide)) (Kd.R_typed y1.out) (by decide)) (Kd.N_typed q2.out) (by decide)) q4.out (by decide)) q5.out (by decide)) j0.out (by decide)) j6.out (by decide)) j7.out (by decide)) z0.out (by decide)) z1.out (by decide)) (fun k_ hk => ⟨⟨(.inr (hk.1.1.1.1.1.1.1.1.1.1.1.1)), ⟨hk.1.1.1.1.1.1.1.1.1.1.2, ⟨hk.1.1.1.1.1.1.1.1.1.2, ⟨hk.1.1.1.1.1.1.1.1.1.1.1.2.1, ⟨hk.1.1.1.1.1.1.1.1.1.1.1.2.2.1, ⟨hk.1.1.1.1.1.1.1.1.2, ⟨hk.1.1.1.1.1.1.2, ⟨hk.1.1.1.1.1.2, ⟨hk.1.1.1.1.2, ⟨hk.1.1.1.2, ⟨hk.1.1.2, ⟨hk.1.2, hk.2⟩⟩⟩⟩⟩⟩⟩⟩⟩⟩⟩⟩, hk.1.1.1.1.1.1.1.2⟩))).2.1 (Kd.R_F (Kd.R_mono (ok' := (fun k_ => ((fun k_ => ((z2 k_ ∨ z3 k_) ∨ w.heap.size ≤ k_) ∧ some k_ ≠ (.slice Qq x16_4.length Qr : Value).ownBlock ∧ some k_ ≠ (.slice Qi y4.length Qj : Value).ownBlock ∧ some k_ ≠ (.slice Qk y5.length Ql : Value).ownBlock ∧ some k_ ≠ (.slice Qm y6.length Qn : Value).ownBlock ∧ some k_ ≠ (.slice Qo y7.length Qp : Value).ownBlock ∧ k_ ≠ j5 ∧ k_ ≠ j3 ∧ k_ ≠ j4 ∧ k_ ≠ q6 ∧ k_ ≠ q8 ∧ k_ ≠ q9 ∧ k_ ≠ q1)) k_ ∧ some k_ ≠ (j9 : Value).ownBlock)) (Kd.R_types (Kd.R_types (Kd.R_types (Kd.R_types (Kd.R_types (Kd.R_types (Kd.R_types (Kd.R_apart' (Kd.R_apart' (Kd.R_apart' (Kd.R_apart' (Xt.out) (Kd.R_typed j8.out) (by decide)) (Kd.R_typed z8.out) (by decide)) (Kd.R_typed y1.out) (by decide)) (Kd.N_typed q2.out) (by decide)) q4.out (by decide)) q5.out (by decide)) j0.out (by decide)) j6.out (by decide)) j7.out (by decide)) z0.out (by decide)) z1.out (by decide)) (fun k_ hk => ⟨⟨(.inr (hk.1.1.1.1.1.1.1.1.1.1.1.1)), ⟨hk.1.1.1.1.1.1.1.1.1.1.2, ⟨hk.1.1.1.1.1.1.1.1.1.2, ⟨hk.1.1.1.1.1.1.1.1.1.1.1.2.1, ⟨hk.1.1.1.1.1.1.1.1.1.1.1.2.2.1, ⟨hk.1.1.1.1.1.1.1.1.2, ⟨hk.1.1.1.1.1.1.2, ⟨hk.1.1.1.1.1.2, ⟨hk.1.1.1.1.2, ⟨hk.1.1.1.2, ⟨hk.1.1.2, ⟨hk.1.2, hk.2⟩⟩⟩⟩⟩⟩⟩⟩⟩⟩⟩⟩, hk.1.1.1.1.1.1.1.2⟩))) (Kd.R_reads' (Kd.R_mono (ok' := (fun k_ => ((fun k_ => ((z2 k_ ∨ z3 k_) ∨ w.heap.size ≤ k_) ∧ some k_ ≠ (.slice Qq x16_4.length Qr : Value).ownBlock ∧ some k_ ≠ (.slice Qi y4.length Qj : Value).ownBlock ∧ some k_ ≠ (.slice Qk y5.length Ql : Value).ownBlock ∧ some k_ ≠ (.slice Qm y6.length Qn : Value).ownBlock ∧ some k_ ≠ (.slice Qo y7.length Qp : Value).ownBlock ∧ k_ ≠ j5 ∧ k_ ≠ j3 ∧ k_ ≠ j4 ∧ k_ ≠ q6 ∧ k_ ≠ q8 ∧ k_ ≠ q9 ∧ k_ ≠ q1)) k_ ∧ some k_ ≠ (j9 : Value).ownBlock)) (Kd.R_types (Kd.R_types (Kd.R_types (Kd.R_types (Kd.R_types (Kd.R_types (Kd.R_types (Kd.R_apart' (Kd.R_apart' (Kd.R_apart' (Kd.R_apart' (Xu.out) (Kd.R_typed j8.out) (by decide)) (Kd.R_typed z9.out) (by decide)) (Kd.R_typed y0.out) (by decide)) (Kd.N_typed q2.out) (by decide)) q4.out (by decide)) q5.out (by decide)) j0.out (by decide)) j6.out (by decide)) j7.out (by decide)) z0.out (by decide)) z1.out (by decide)) (fun k_ hk => ⟨⟨(.inr (hk.1.1.1.1.1.1.1.1.1.1.1.1)), ⟨hk.1.1.1.1.1.1.1.1.1.1.2, ⟨hk.1.1.1.1.1.1.1.1.1.1.1.2.1, ⟨hk.1.1.1.1.1.1.1.1.1.2, ⟨hk.1.1.1.1.1.1.1.1.2, ⟨hk.1.1.1.1.1.1.1.1.1.1.1.2.2.1, ⟨hk.1.1.1.1.1.1.2, ⟨hk.1.1.1.1.1.2, ⟨hk.1.1.1.1.2, ⟨hk.1.1.1.2, ⟨hk.1.1.2, ⟨hk.1.2, hk.2⟩⟩⟩⟩⟩⟩⟩⟩⟩⟩⟩⟩, hk.1.1.1.1.1.1.1.2⟩))).2.1 (Kd.R_F (Kd.R_mono (ok' := (fun k_ => ((fun k_ => ((z2 k_ ∨ z3 k_) ∨ w.heap.size ≤ k_) ∧ some k_ ≠ (.slice Qq x16_4.length Qr : Value).ownBlock ∧ some k_ ≠ (.slice Qi y4.length Qj : Value).ownBlock ∧ some k_ ≠ (.slice Qk y5.length Ql : Value).ownBlock ∧ some k_ ≠ (.slice Qm y6.length Qn : Value).ownBlock ∧ some k_ ≠ (.slice Qo y7.length Qp : Value).ownBlock ∧ k_ ≠ j5 ∧ k_ ≠ j3 ∧ k_ ≠ j4 ∧ k_ ≠ q6 ∧ k_ ≠ q8 ∧ k_ ≠ q9 ∧ k_ ≠ q1)) k_ ∧ some k_ ≠ (j9 : Value).ownBlock)) (Kd.R_types (Kd.R_types (Kd.R_types (Kd.R_types (Kd.R_types (Kd.R_types (Kd.R_types (Kd.R_apart' (Kd.R_apart' (Kd.R_apart' (Kd.R_apart' (Xu.out) (Kd.R_typed j8.out) (by decide)) (Kd.R_typed z9.out) (by decide)) (Kd.R_typed y0.out) (by decide)) (Kd.N_typed q2.out) (by decide)) q4.out (by decide)) q5.out (by decide)) j0.out (by decide)) j6.out (by decide)) j7.out (by decide)) z0.out (by decide)) z1.out (by decide)) (fun k_ hk => ⟨⟨(.inr (hk.1.1.1.1.1.1.1.1.1.1.1.1)), ⟨hk.1.1.1.1.1.1.1.1.1.1.2, ⟨hk.1.1.1.1.1.1.1.1.1.1.1.2.1, ⟨hk.1.1.1.1.1.1.1.1.1.2, ⟨hk.1.1.1.1.1.1.1.1.2, ⟨hk.1.1.1.1.1.1.1.1.1.1.1.2.2.1, ⟨hk.1.1.1.1.1.1.2, ⟨hk.1.1.1.1.1.2, ⟨hk.1.1.1.1.2, ⟨hk.1.1.1.2, ⟨hk.1.1.2, ⟨hk.1.2, hk.2⟩⟩⟩⟩⟩⟩⟩⟩⟩⟩⟩⟩, hk.1.1.1.1.1.1.1.2⟩))))); (case aB => exact (bl HB)); (case aF => exact (fun k_ hk => ⟨(.inr (Nat.le_trans (below_size (bl HB)) hk)), Kd.fresh' (Kd.R_lt (R_u j8.out)) k_ hk, Kd.fresh' (Kd.R_lt (R_u z8.out)) k_ hk, Kd.fresh' (Kd.R_lt (R_u z9.out)) k_ hk, Kd.fresh' (Kd.R_lt (R_u y0.out)) k_ hk, Kd.fresh' (Kd.R_lt (R_u y1.out)) k_ hk, Kd.freshB (Ub q4) k_ hk, Kd.freshB (Ub q5) k_ hk, Kd.freshB (Ub j0) k_ hk, Kd.freshB (Ub j6) k_ hk, Kd.freshB (Ub j7) k_ hk, Kd.freshB (Ub z0) k_ hk, Kd.freshB (Ub z1) k_ hk⟩)); (case aO => exact (by apply N_u; exact Nm q2.out)); (case aS => exact (below_size (bl HB))); (case aL => have := LMc119.out; omega); intro qs4 qs5 ho hb hg hat; rw [← Ny784.out] at ho; have Di := Qaa.mk (ho); replace y2 := Qaa.mk (Kd.V_afterv (ok := (fun k_ => ((z2 k_ ∨ z3 k_) ∨ w.heap.size ≤ k_) ∧ some k_ ≠ (.slice Qq x16_4.length Qr : Value).ownBlock ∧ some k_ ≠ (.slice Jc Q1.length Jd : Value).ownBlock ∧ some k_ ≠ (.slice Qi y4.length Qj : Value).ownBlock ∧ some k_ ≠ (.slice Qk y5.length Ql : Value).ownBlock ∧ some k_ ≠ (.slice Qm y6.length Qn : Value).ownBlock ∧ some k_ ≠ (.slice Qo y7.length Qp : Value).ownBlock ∧ some k_ ≠ (.slice Q4 Qd.length Q5 : Value).ownBlock ∧ some k_ ≠ (.slice Q6 Qe.length Q7 : Value).ownBlock ∧ some k_ ≠ (.slice Q8 Qf.length Q9 : Value).ownBlock ∧ some k_ ≠ (.slice Qa Qg.length Qb : Value).ownBlock ∧ k_ ≠ j5 ∧ k_ ≠ j3 ∧ k_ ≠ j4 ∧ k_ ≠ q6 ∧ k_ ≠ q8 ∧ k_ ≠ q9 ∧ k_ ≠ q1)) (by apply V_u; exact Vm y2.out) hg hat); replace y3 := Qaa.mk (Kd.V_afterv (ok := (fun k_ => ((z2 k_ ∨ z3 k_) ∨ w.heap.size ≤ k_) ∧ some k_ ≠ (.slice Qq x16_4.length Qr : Value).ownBlock ∧ some k_ ≠ (.slice Jc Q1.length Jd : Value).ownBlock ∧ some k_ ≠ (.slice Qi y4.length Qj : Value).ownBlock ∧ some k_ ≠ (.slice Qk y5.length Ql : Value).ownBlock ∧ some k_ ≠ (.slice Qm y6.length Qn : Value).ownBlock ∧ some k_ ≠ (.slice Qo y7.length Qp : Value).ownBlock ∧ some k_ ≠ (.slice Q4 Qd.length Q5 : Value).ownBlock ∧ some k_ ≠ (.slice Q6 Qe.length Q7 : Value).ownBlock ∧ some k_ ≠ (.slice Q8 Qf.length Q9 : Value).ownBlock ∧ some k_ ≠ (.slice Qa Qg.length Qb : Value).ownBlock ∧ k_ ≠ j5 ∧ k_ ≠ j3 ∧ k_ ≠ j4 ∧ k_ ≠ q6 ∧ k_ ≠ q8 ∧ k_ ≠ q9 ∧ k_ ≠ q1)) (by apply V_u; exact Vm y3.out) hg hat); replace j8 := Qaa.mk (Kd.R_over' (R_u j8.out) (Kd.N_typed (N_u q2.out)) (by decide) hg); replace Q0 := Qaa.mk (Kd.V_afterv (ok := (fun k_ => ((z2 k_ ∨ z3 k_) ∨ w.heap.size ≤ k_) ∧ some k_ ≠ (.slice Qq x16_4.length Qr : Value).ownBlock ∧ some k_ ≠ (.slice Jc Q1.length Jd : Value).ownBlock ∧ some k_ ≠ (.slice Qi y4.length Qj : Value).ownBlock ∧ some k_ ≠ (.slice Qk y5.length Ql : Value).ownBlock ∧ some k_ ≠ (.slice Qm y6.length Qn : Value).ownBlock ∧ some k_ ≠ (.slice Qo y7.length Qp : Value).ownBlock ∧ some k_ ≠ (.slice Q4 Qd.length Q5 : Value).ownBlock ∧ some k_ ≠ (.slice Q6 Qe.length Q7 : Value).ownBlock ∧ some k_ ≠ (.slice Q8 Qf.length Q9 : Value).ownBlock ∧ some k_ ≠ (.slice Qa Qg.length Qb : Value).ownBlock ∧ k_ ≠ j5 ∧ k_ ≠ j3 ∧ k_ ≠ j4 ∧ k_ ≠ q6 ∧ k_ ≠ q8 ∧ k_ ≠ q9 ∧ k_ ≠ q1)) (by apply V_u; exact Vm Q0.out) hg hat); replace j1 := Qaa.mk (Kd.V_afterv (ok := (fun k_ => ((z2 k_ ∨ z3 k_) ∨ w.heap.size ≤ k_) ∧ some k_ ≠ (.slice Qq x16_4.length Qr : Value).ownBlock ∧ some k_ ≠ (.slice Jc Q1.length Jd : Value).ownBlock ∧ some k_ ≠ (.slice Qi y4.length Qj : Value).ownBlock ∧ some k_ ≠ (.slice Qk y5.length Ql : Value).ownBlock ∧ some k_ ≠ (.slice Qm y6.length Qn : Value).ownBlock ∧ some k_ ≠ (.slice Qo y7.length Qp : Value).ownBlock ∧ some k_ ≠ (.slice Q4 Qd.length Q5 : Value).ownBlock ∧ some k_ ≠ (.slice Q6 Qe.length Q7 : Value).ownBlock ∧ some k_ ≠ (.slice Q8 Qf.length Q9 : Value).ownBlock ∧ some k_ ≠ (.slice Qa Qg.length Qb : Value).ownBlock ∧ k_ ≠ j5 ∧ k_ ≠ j3 ∧ k_ ≠ j4 ∧ k_ ≠ q6 ∧ k_ ≠ q8 ∧ k_ ≠ q9 ∧ k_ ≠ q1)) (by apply V_u; exact Vm j1.out) hg hat); replace j2 := Qaa.mk (Kd.V_afterv (ok := (fun k_ => ((z2 k_ ∨ z3 k_) ∨ w.heap.size ≤ k_) ∧ some k_ ≠ (.slice Qq x16_4.length Qr : Value).ownBlock ∧ some k_ ≠ (.slice Jc Q1.length Jd : Value).ownBlock ∧ some k_ ≠ (.slice Qi y4.length Qj : Value).ownBlock ∧ some k_ ≠ (.slice Qk y5.length Ql : Value).ownBlock ∧ some k_ ≠ (.slice Qm y6.length Qn : Value).ownBlock ∧ some k_ ≠ (.slice Qo y7.length Qp : Value).ownBlock ∧ some k_ ≠ (.slice Q4 Qd.length Q5 : Value).ownBlock ∧ some k_ ≠ (.slice Q6 Qe.length Q7 : Value).ownBlock ∧ some k_ ≠ (.slice Q8 Qf.length Q9 : Value).ownBlock ∧ some k_ ≠ (.slice Qa Qg.length Qb : Value).ownBlock ∧ k_ ≠ j5 ∧ k_ ≠ j3 ∧ k_ ≠ j4 ∧ k_ ≠ q6 ∧ k_ ≠ q8 ∧ k_ ≠ q9 ∧ k_ ≠ q1)) (by apply V_u; exact Vm j2.out) hg hat); replace q4 := Qaa.mk (blk_grown (Ub q4) hg (Kd.N_ne q2.out q4.out (by decide))); replace q5 := Qaa.mk (blk_grown (Ub q5) hg (Kd.N_ne q2.out q5.out (by decide))); replace j0 := Qaa.mk (blk_grown (Ub j0) hg (Kd.N_ne q2.out j0.out (by decide))); replace j6 := Qaa.mk (blk_grown (Ub j6) hg (Kd.N_ne q2.out j6.out (by decide))); replace j7 := Qaa.mk (blk_grown (Ub j7) hg (Kd.N_away q2.out (fun _ hk => hk.2.2.2.2.2.2.2.2.2.2.2.2.2.2.2.1))); replace z0 := Qaa.mk (blk_grown (Ub z0) hg (Kd.N_away q2.out (fun _ hk => hk.2.2.2.2.2.2.2.2.2.2.2.2.2.2.2.2.1))); replace y9 := Qaa.mk (Kd.R_over' (R_u y9.out) (Kd.N_typed (N_u q2.out)) (by decide) hg); replace z8 := Qaa.mk (Kd.R_over' (R_u z8.out) (Kd.N_typed (N_u q2.out)) (by decide) hg); replace z9 := Qaa.mk (Kd.R_over' (R_u z9.out) (Kd.N_typed (N_u q2.out)) (by decide) hg); replace y0 := Qaa.mk (Kd.R_over' (R_u y0.out) (Kd.N_typed (N_u q2.out)) (by decide) hg); replace y1 := Qaa.mk (Kd.R_over' (R_u y1.out) (Kd.N_typed (N_u q2.out)) (by decide) hg); replace z1 := Qaa.mk (blk_grown (Ub z1) hg (Kd.N_away q2.out (fun _ hk => hk.2.2.2.2.2.2.2.2.2.2.2.2.2.2.2.2.2))); replace X5 := Qaa.mk (Kd.V_afterv (ok := (fun k_ => ((z2 k_ ∨ z3 k_) ∨ w.heap.size ≤ k_) ∧ some k_ ≠ (.slice Qq x16_4.length Qr : Value).ownBlock ∧ some k_ ≠ (.slice Qi y4.length Qj : Value).ownBlock ∧ some k_ ≠ (.slice Qk y5.length Ql : Value).ownBlock ∧ some k_ ≠ (.slice Qm y6.length Qn : Value).ownBlock ∧ some k_ ≠ (.slice Qo y7.length Qp : Value).ownBlock ∧ some k_ ≠ (.slice Q4 Qd.length Q5 : Value).ownBlock ∧ some k_ ≠ (.slice Q6 Qe.length Q7 : Value).ownBlock ∧ some k_ ≠ (.slice Q8 Qf.length Q9 : Value).ownBlock ∧ some k_ ≠ (.slice Qa Qg.length Qb : Value).ownBlock ∧ k_ ≠ j5 ∧ k_ ≠ j3 ∧ k_ ≠ j4 ∧ k_ ≠ q6 ∧ k_ ≠ q8 ∧ k_ ≠ q9 ∧ k_ ≠ q1)) (by apply V_u; exact Vm X5.out) hg hat); replace HB := Qaa.mk (hb); clear q2; clear Xr; clear Xs; clear Xt; clear Xu; clear ho hb hg hat; obtain ⟨Xv, Xw, eo164⟩ := Kd.N_slice Di.out; subst eo164; obtain ⟨q3z, q40, q41, q42, q43, q44, q45, q46⟩ := cf4 j6))
                       go_roundg k4
                       case measure => have := HK1.out; have := HK2.out; have := HK3.out; have := HK4.out; omega
                       case rel => exact ⟨(wrap64 (x81_2 + 1)), (y784), (.slice Xv y784.length Xw), (by first | rfl | (simp; done) | (simp [*]; done)), H', ⟨by have := HK1.out; have := HK2.out; have := HK3.out; have := HK4.out; omega⟩, ⟨by apply V_u; exact Vm (Kd.V_far (p := ⟨q6, 1, none⟩) (Kd.V_mono y2.out (fun k_ hk => (⟨hk, hk.1.2.2.2.2.2.2.2.2.2.2.2.2.2.2.1⟩ : _ ∧ k_ ≠ q6))) (fun _ hk => hk.2) (.slice Xv y784.length Xw))⟩, ⟨by apply V_u; exact Vm (Kd.V_far (p := ⟨q6, 1, none⟩) (Kd.V_mono y3.out (fun k_ hk => (⟨hk, hk.1.2.2.2.2.2.2.2.2.2.2.2.2.2.2.1⟩ : _ ∧ k_ ≠ q6))) (fun _ hk => hk.2) (.slice Xv y784.length Xw))⟩, ⟨by apply V_u; exact Vm (Kd.V_far (p := ⟨q6, 1, none⟩) (Kd.V_mono j1.out (fun k_ hk => (⟨hk, hk.1.2.2.2.2.2.2.2.2.2.2.2.2.2.2.1⟩ : _ ∧ k_ ≠ q6))) (fun _ hk => hk.2) (.slice Xv y784.length Xw))⟩, ⟨by apply V_u; exact Vm (Kd.V_far (p := ⟨q6, 1, none⟩) (Kd.V_mono j2.out (fun k_ hk => (⟨hk, hk.1.2.2.2.2.2.2.2.2.2.2.2.2.2.2.1⟩ : _ ∧ k_ ≠ q6))) (fun _ hk => hk.2) (.slice Xv y784.length Xw))⟩, ⟨by apply N_u; exact Nm (Kd.N_far (p := ⟨q6, 1, none⟩) (Kd.N_mono Di.out (fun k_ hk => (⟨hk, hk.2.2.2.2.2.2.2.2.2.1⟩ : _ ∧ k_ ≠ q6))) (fun _ hk => hk.2) (.slice Xv y784.length Xw))⟩, ⟨by apply blk_u; refine blk_far ?_ Qz.out _; apply blk_u; exact q4.out⟩, ⟨by apply blk_u; refine blk_far ?_ Qt.out _; apply blk_u; exact q5.out⟩, ⟨by apply blk_u; refine blk_far ?_ Z0.out _; apply blk_u; exact j0.out⟩, ⟨by apply blk_u; refine blk_put (cs := #[.int .i64 (wrap64 ((z7.length : Int) + (z5.length : Int))), j9, .bool true, .slice none 0 0]) ?_ 1 _ rfl; apply blk_u; exact j6.out⟩, ⟨bl HB⟩⟩
                      ·
                       rw [if_neg Ft] at H
                       exact absurd H (by simp)
                     ·
                      replace Fs := Bool.eq_false_iff.mpr Fs
                      subst Fs
                      have H1 : (if z4.length < 1099511627776 then (Qad.l1 k4 z7 z5 q0 (q0.length : Int) (wrap64 (x81_2 + 1)) Q2 q3 Q3 y8 (wrap64 ((z7.length : Int) + (z5.length : Int))) (z4 ++ [(⟨Z3, Q1, y4, y5, y6, y7⟩ : S39)]) true) else (none)) = some (r1, r2, r3, r4, r5) := by rw [if_neg (show ¬ (false = true) by decide)] at H; exact H
                      clear H
                      have H := H1
                      clear H1
                      by_cases Fu : z4.length < 1099511627776
                      ·
                       rw [if_pos Fu] at H
                       have LMc166 := Qaa.mk Fu
                       clear Fu
                       obtain ⟨y787, hy787⟩ : ∃ y_ : List (S39), y_ = (z4 ++ [(⟨Z3, Q1, y4, y5, y6, y7⟩ : S39)]) := ⟨_, rfl⟩
                       replace H : (Qad.l1 k4 z7 z5 q0 (q0.length : Int) (wrap64 (x81_2 + 1)) Q2 q3 Q3 y8 (wrap64 ((z7.length : Int) + (z5.length : Int))) y787 true) = some (r1, r2, r3, r4, r5) := by first | (rw [hy787]; with_reducible exact H) | (have H2_ := (Option.bind_some _ _).symm.trans H; rw [hy787]; with_reducible exact H2_) | (have H2_ := (Option.bind_some _ _).symm.trans H; with_reducible exact H2_) | with_reducible exact H | (rw [hy787]; exact H) | exact H
                       have Ny787 := Qaa.mk hy787
                       clear hy787
                       have H' := Qaa.mk H
                       clear H
                       have qc5 := Y1.out
                       have qc6 := Y0.out
                       have qc7 := Y3.out
                       have qc8 := Y2.out
                       have qc9 := Y5.out
                       have qd0 := Y4.out
                       have qd1 := Y7.out
                       have qd2 := Y6.out
                       have qd3 := Z1.out
                       have qd4 := Jv.out
                       obtain ⟨q47, q48, q49, q4a, q4b, q4c, q4d, q4e, q4f, q4g, q4h, q4i⟩ := cf6 j7
                       obtain ⟨Zg, Zh, eo173⟩ := Kd.R_slice j8.out
                       subst eo173
                       go_wp2_with (first | ((with_reducible refine gate_callee (f := 29) rfl ?_); refine gL (some 120) Try.func29 #[.int .i64 ((rd_T39 q0 x81_2).f0), .slice Zg x16_4.length Zh] ?_; (with_reducible refine (Qax.calls k4 ((rd_T39 q0 x81_2).f0) _ _ x16_4 Z3 Q1 y4 y5 y6 y7 _ ?side1 ?side2 Fz.out).mono ?_); (case side1 => exact Cu (Kd.R_reads' j8.out).2.2); (case side2 => exact (Kd.R_reads' j8.out).2.1); rintro e qs6 ⟨q0f, q0g, q0h, q0i, q0j, rfl, ho0, ho1, ho2, ho3, ho4, hb⟩; refine ⟨_, rfl, ?_⟩; have y9 := Qaa.mk (Kd.R_lower (Kd.R_newM (M := fun k_ => (w.heap.size ≤ k_)) ho0 (below_size (bl HB)) (fun k_ h_ => h_)) (below_size (bl HB))); have z8 := Qaa.mk (Kd.R_lower (Kd.R_newM (M := fun k_ => (w.heap.size ≤ k_)) ho1 (below_size (bl HB)) (fun k_ h_ => h_)) (below_size (bl HB))); have z9 := Qaa.mk (Kd.R_lower (Kd.R_newM (M := fun k_ => (w.heap.size ≤ k_)) ho2 (below_size (bl HB)) (fun k_ h_ => h_)) (below_size (bl HB))); have y0 := Qaa.mk (Kd.R_lower (Kd.R_newM (M := fun k_ => (w.heap.size ≤ k_)) ho3 (below_size (bl HB)) (fun k_ h_ => h_)) (below_size (bl HB))); have y1 := Qaa.mk (Kd.R_lower (Kd.R_newM (M := fun k_ => (w.heap.size ≤ k_)) ho4 (below_size (bl HB)) (fun k_ h_ => h_)) (below_size (bl HB))); replace y2 := Qaa.mk (Kd.V_mono (Kd.V_told (Kd.V_told (Kd.V_told (Kd.V_told (Kd.V_told (Kd.V_old (V_u y2.out) hb) (Kd.R_base ho0)) (Kd.R_base ho1)) (Kd.R_base ho2)) (Kd.R_base ho3)) (Kd.R_base ho4)) (fun _ h_ => h_.1)); replace y3 := Qaa.mk (Kd.V_mono (Kd.V_told (Kd.V_told (Kd.V_told (Kd.V_told (Kd.V_told (Kd.V_old (V_u y3.out) hb) (Kd.R_base ho0)) (Kd.R_base ho1)) (Kd.R_base ho2)) (Kd.R_base ho3)) (Kd.R_base ho4)) (fun _ h_ => h_.1)); replace j8 := Rb j8 hb; replace Q0 := Qaa.mk (Kd.V_mono (Kd.V_told (Kd.V_told (Kd.V_told (Kd.V_told (Kd.V_told (Kd.V_old (V_u Q0.out) hb) (Kd.R_base ho0)) (Kd.R_base ho1)) (Kd.R_base ho2)) (Kd.R_base ho3)) (Kd.R_base ho4)) (fun _ h_ => h_.1)); replace j1 := Qaa.mk (Kd.V_mono (Kd.V_told (Kd.V_told (Kd.V_told (Kd.V_told (Kd.V_told (Kd.V_old (V_u j1.out) hb) (Kd.R_base ho0)) (Kd.R_base ho1)) (Kd.R_base ho2)) (Kd.R_base ho3)) (Kd.R_base ho4)) (fun _ h_ => h_.1)); replace j2 := Qaa.mk (Kd.V_mono (Kd.V_told (Kd.V_told (Kd.V_told (Kd.V_told (Kd.V_told (Kd.V_old (V_u j2.out) hb) (Kd.R_base ho0)) (Kd.R_base ho1)) (Kd.R_base ho2)) (Kd.R_base ho3)) (Kd.R_base ho4)) (fun _ h_ => h_.1)); replace q2 := Qaa.mk (Kd.N_mono (Kd.N_told (Kd.N_told (Kd.N_told (Kd.N_told (Kd.N_told (Kd.N_old (N_u q2.out) hb) (Kd.R_base ho0)) (Kd.R_base ho1)) (Kd.R_base ho2)) (Kd.R_base ho3)) (Kd.R_base ho4)) (fun _ h_ => h_.1)); replace q4 := Bb q4 hb; replace q5 := Bb q5 hb; replace j0 := Bb j0 hb; replace j6 := Bb j6 hb; replace j7 := Bb j7 hb; replace z0 := Bb z0 hb; replace HB := bs HB hb; (try clear hb); (try clear ho0); (try clear ho1); (try clear ho2); (try clear ho3); (try clear ho4)) | ((with_reducible refine gate_dst (N := 21) rfl ?_); refine bx 21 #[.int .i64 0, .slice none 0 0, .slice none 0 0, .slice none 0 0, .slice none 0 0, .slice none 0 0] 39 ?_; intro q1 hg qs7 hbox hb; have z1 := Qaa.mk (hbox); have Dg := Qaa.mk ((by rw [hg]; exact (below_size (bl HB)) : w.heap.size ≤ q1)); have Dh := Qaa.mk ((by rw [hg]; exact (below_size (bl HB)) : w.heap.size ≤ q1)); have Y9 := Qaa.mk ((by rw [hg]; exact Nat.ne_of_lt (blk_lt (Ub q4)) : j5 ≠ q1)); have Ya := Qaa.mk ((by rw [hg]; exact Nat.ne_of_gt (blk_lt (Ub q4)) : q1 ≠ j5)); have Yb := Qaa.mk ((by rw [hg]; exact Nat.ne_of_lt (blk_lt (Ub q5)) : j3 ≠ q1)); have Yc := Qaa.mk ((by rw [hg]; exact Nat.ne_of_gt (blk_lt (Ub q5)) : q1 ≠ j3)); have Yd := Qaa.mk ((by rw [hg]; exact Nat.ne_of_lt (blk_lt (Ub j0)) : j4 ≠ q1)); have Ye := Qaa.mk ((by rw [hg]; exact Nat.ne_of_gt (blk_lt (Ub j0)) : q1 ≠ j4)); have Yf := Qaa.mk ((by rw [hg]; exact Nat.ne_of_lt (blk_lt (Ub j6)) : q6 ≠ q1)); have Yg := Qaa.mk ((by rw [hg]; exact Nat.ne_of_gt (blk_lt (Ub j6)) : q1 ≠ q6)); have Yh := Qaa.mk ((by rw [hg]; exact Nat.ne_of_lt (blk_lt (Ub j7)) : q8 ≠ q1)); have Yi := Qaa.mk ((by rw [hg]; exact Nat.ne_of_gt (blk_lt (Ub j7)) : q1 ≠ q8)); have Yj := Qaa.mk ((by rw [hg]; exact Nat.ne_of_lt (blk_lt (Ub z0)) : q9 ≠ q1)); have Yk := Qaa.mk ((by rw [hg]; exact Nat.ne_of_gt (blk_lt (Ub z0)) : q1 ≠ q9)); replace y2 := Qaa.mk (Kd.V_below (Kd.V_elderB (V_u y2.out) q1 (Nat.le_of_eq hg.symm)) hb); replace y3 := Qaa.mk (Kd.V_below (Kd.V_elderB (V_u y3.out) q1 (Nat.le_of_eq hg.symm)) hb); replace j8 := Rb j8 hb; replace Q0 := Qaa.mk (Kd.V_below (Kd.V_elderB (V_u Q0.out) q1 (Nat.le_of_eq hg.symm)) hb); replace j1 := Qaa.mk (Kd.V_below (Kd.V_elderB (V_u j1.out) q1 (Nat.le_of_eq hg.symm)) hb); replace j2 := Qaa.mk (Kd.V_below (Kd.V_elderB (V_u j2.out) q1 (Nat.le_of_eq hg.symm)) hb); replace q2 := Qaa.mk (Kd.N_below (Kd.N_elderB (N_u q2.out) q1 (Nat.le_of_eq hg.symm)) hb); replace y9 := Rb y9 hb; replace z8 := Rb z8 hb; replace z9 := Rb z9 hb; replace y0 := Rb y0 hb; replace y1 := Rb y1 hb; replace q4 := Bb q4 hb; replace q5 := Bb q5 hb; replace j0 := Bb j0 hb; replace j6 := Bb j6 hb; replace j7 := Bb j7 hb; replace z0 := Bb z0 hb; replace HB := bs HB hb; clear hb hbox hg; have qd5 := Ya.out; have qd6 := Y9.out; have qd7 := Yc.out; have qd8 := Yb.out; have qd9 := Ye.out; have qe0 := Yd.out; have qe1 := Yg.out; have qe2 := Yf.out; have qe3 := Yi.out; have qe4 := Yh.out; have qe5 := Yk.out; have qe6 := Yj.out; obtain ⟨q4j, q4k, q4l, q4m, q4n, q4o, q4p, q4q, q4r, q4s, q4t, q4u⟩ := cf6 z1; obtain ⟨Xx, Xy, eo183⟩ := Kd.R_slice y9.out; subst eo183; obtain ⟨Xz, W0, eo184⟩ := Kd.R_slice z8.out; subst eo184; obtain ⟨W1, W2, eo185⟩ := Kd.R_slice z9.out; subst eo185; obtain ⟨W3, W4, eo186⟩ := Kd.R_slice y0.out; subst eo186; obtain ⟨W5, W6, eo187⟩ := Kd.R_slice y1.out; subst eo187; obtain ⟨q4v, q4w, q4x, q4y, q4z, q50, q51, q52, q53, q54, q55, q56⟩ := cf6 j7) | ((with_reducible refine gate_callee (f := 36) rfl ?_); refine gL (some 122) Try.func36 #[.agg #[.int .i64 ((rd_T39 q0 x81_2).f0), .slice Zv ((rd_T39 q0 x81_2).f1).length Zw, .slice Zx ((rd_T39 q0 x81_2).f2).length Zy, .slice Zz ((rd_T39 q0 x81_2).f3).length J0, .slice J1 ((rd_T39 q0 x81_2).f4).length J2, .slice J3 ((rd_T39 q0 x81_2).f5).length J4]] ?_; (with_reducible refine (Qar.calls ((rd_T39 q0 x81_2).f0) _ _ ((rd_T39 q0 x81_2).f1) _ _ ((rd_T39 q0 x81_2).f2) _ _ ((rd_T39 q0 x81_2).f3) _ _ ((rd_T39 q0 x81_2).f4) _ _ ((rd_T39 q0 x81_2).f5) true _ ?side1 ?side2 ?side3 ?side4 ?side5 ?side6 ?side7 ?side8 ?side9 ?side10 D0.out).mono ?_); (case side1 => exact Kd.C_below Xf.out (bl HB)); (case side2 => exact Xg.out); (case side3 => exact Kd.C_below Xh.out (bl HB)); (case side4 => exact Xi.out); (case side5 => exact Kd.C_below Xj.out (bl HB)); (case side6 => exact Xk.out); (case side7 => exact Kd.C_below Xl.out (bl HB)); (case side8 => exact Xm.out); (case side9 => exact Kd.C_below Xn.out (bl HB)); (case side10 => exact Xo.out); rintro e qs8 ⟨rfl, hb⟩; refine ⟨_, rfl, ?_⟩; replace y2 := Qaa.mk (Kd.V_below (Vf (g := q1) y2 (fun _ hk => hk.2)) hb); replace y3 := Qaa.mk (Kd.V_below (Vf (g := q1) y3 (fun _ hk => hk.2)) hb); replace j8 := Qaa.mk (Kd.R_below (Rf j8 z1) hb); replace Q0 := Qaa.mk (Kd.V_below (Vf (g := q1) Q0 (fun _ hk => hk.2)) hb); replace j1 := Qaa.mk (Kd.V_below (Vf (g := q1) j1 (fun _ hk => hk.2)) hb); replace j2 := Qaa.mk (Kd.V_below (Vf (g := q1) j2 (fun _ hk => hk.2)) hb); replace q2 := Qaa.mk (Kd.N_below (Nf (g := q1) q2 (fun _ hk => hk.2)) hb); replace y9 := Qaa.mk (Kd.R_below (Rf y9 z1) hb); replace z8 := Qaa.mk (Kd.R_below (Rf z8 z1) hb); replace z9 := Qaa.mk (Kd.R_below (Rf z9 z1) hb); replace y0 := Qaa.mk (Kd.R_below (Rf y0 z1) hb); replace y1 := Qaa.mk (Kd.R_below (Rf y1 z1) hb); replace q4 := Bb q4 hb; replace q5 := Bb q5 hb; replace j0 := Bb j0 hb; replace j6 := Bb j6 hb; replace j7 := Bb j7 hb; replace z0 := Bb z0 hb; replace z1 := Qaa.mk (blk_below (Uf6 z1) hb); replace HB := bs HB hb; (try clear hb); (try clear hk); have qe7 := Yu.out; have qe8 := Zb.out; have qe9 := Yv.out; have qf0 := Zc.out; have qf1 := Yw.out; have qf2 := Zd.out; have qf3 := Y8.out; have qf4 := Z2.out; obtain ⟨q57, q58, q59, q5a, q5b, q5c, q5d, q5e, q5f, q5g, q5h, q5i⟩ := cf6 z0) | (go_at_call 36; (with_reducible refine (Qar.calls ((rd_T39 q3 x81_2).f0) _ _ ((rd_T39 q3 x81_2).f1) _ _ ((rd_T39 q3 x81_2).f2) _ _ ((rd_T39 q3 x81_2).f3) _ _ ((rd_T39 q3 x81_2).f4) _ _ ((rd_T39 q3 x81_2).f5) false _ ?side1 ?side2 ?side3 ?side4 ?side5 ?side6 ?side7 ?side8 ?side9 ?side10 q0e.out).mono ?_); (case side1 => exact Cb V3 HB); (case side2 => exact V4.out); (case side3 => exact Cb V5 HB); (case side4 => exact V6.out); (case side5 => exact Cb V7 HB); (case side6 => exact V8.out); (case side7 => exact Cb V9 HB); (case side8 => exact Va.out); (case side9 => exact Cb Vb HB); (case side10 => exact Vc.out); rintro e qs9 ⟨rfl, hb⟩; replace y2 := Qaa.mk (Kd.V_below (V_u y2.out) hb); replace y3 := Qaa.mk (Kd.V_below (V_u y3.out) hb); replace j8 := Rb j8 hb; replace Q0 := Qaa.mk (Kd.V_below (V_u Q0.out) hb); replace j1 := Qaa.mk (Kd.V_below (V_u j1.out) hb); replace j2 := Qaa.mk (Kd.V_below (V_u j2.out) hb); replace q2 := Qaa.mk (Kd.N_below (N_u q2.out) hb); replace y9 := Rb y9 hb; replace z8 := Rb z8 hb; replace z9 := Rb z9 hb; replace y0 := Rb y0 hb; replace y1 := Rb y1 hb; replace q4 := Bb q4 hb; replace q5 := Bb q5 hb; replace j0 := Bb j0 hb; replace j6 := Bb j6 hb; replace j7 := Bb j7 hb; replace z0 := Bb z0 hb; replace z1 := Bb z1 hb; replace HB := bs HB hb; (try clear hb); have qf5 := Jy.out; have qf6 := Qz.out; have qf7 := Ju.out; have qf8 := Qt.out; have qf9 := Jz.out; have qg0 := Z0.out; obtain ⟨q5j, q5k, q5l, q5m, q5n, q5o, q5p, q5q⟩ := cf4 j6; obtain ⟨q5r, q5s, q5t, q5u, q5v, q5w, q5x, q5y, q5z, q60, q61, q62⟩ := cf6 z1) | ((with_reducible refine gate_builtin (b := .append) (xs := #[.tmp 130, .tmp 132]) rfl ?_); at_builtin; refine Kd.N_append k39 (w0 := w) w.heap.size rfl (.tmp 130) (.tmp 132) 23 39 (.agg #[(.int .i64 0), (.slice none 0 0), (.slice none 0 0), (.slice none 0 0), (.slice none 0 0), (.slice none 0 0)]) 128 rfl Try.underlying23 info39 rfl (by decide) (by omega) j9 z4 (⟨Z3, Q1, y4, y5, y6, y7⟩ : S39) [.int .i64 Z3, .slice Xx Q1.length Xy, .slice Xz y4.length W0, .slice W1 y5.length W2, .slice W3 y6.length W4, .slice W5 y7.length W6] (fun k_ => ((z2 k_ ∨ z3 k_) ∨ w.heap.size ≤ k_) ∧ some k_ ≠ (.slice Zg x16_4.length Zh : Value).ownBlock ∧ k_ ≠ j5 ∧ k_ ≠ j3 ∧ k_ ≠ j4 ∧ k_ ≠ q6 ∧ k_ ≠ q8 ∧ k_ ≠ q9 ∧ k_ ≠ q1) (fun k_ => ((fun k_ => ((z2 k_ ∨ z3 k_) ∨ w.heap.size ≤ k_) ∧ some k_ ≠ (.slice Zg x16_4.length Zh : Value).ownBlock ∧ k_ ≠ j5 ∧ k_ ≠ j3 ∧ k_ ≠ j4 ∧ k_ ≠ q6 ∧ k_ ≠ q8 ∧ k_ ≠ q9 ∧ k_ ≠ q1)) k_ ∧ some k_ ≠ (j9 : Value).ownBlock) rfl rfl ?aP (fun _ hk => hk) ?aF ?aO ?aB ?aS ?aL ?_; (case aP => exact (k39_mkF _ _ (⟨Z3, Q1, y4, y5, y6, y7⟩ : S39) (Kd.R_reads' (Kd.R_mono (ok' := (fun k_ => ((fun k_ => ((z2 k_ ∨ z3 k_) ∨ w.heap.size ≤ k_) ∧ some k_ ≠ (.slice Zg x16_4.length Zh : Value).ownBlock ∧ k_ ≠ j5 ∧ k_ ≠ j3 ∧ k_ ≠ j4 ∧ k_ ≠ q6 ∧ k_ ≠ q8 ∧ k_ ≠ q9 ∧ k_ ≠ q1)) k_ ∧ some k_ ≠ (j9 : Value).ownBlock)) (Kd.R_types (Kd.R_types (Kd.R_types (Kd.R_types (Kd.R_types (Kd.R_types (Kd.R_types (Kd.R_apart' (Kd.R_apart' (y9.out) (Kd.R_typed j8.out) (by decide)) (Kd.N_typed q2.out) (by decide)) q4.out (by decide)) q5.out (by decide)) j0.out (by decide)) j6.out (by decide)) j7.out (by decide)) z0.out (by decide)) z1.out (by decide)) (fun k_ hk => ⟨⟨(.inr (hk.1.1.1.1.1.1.1.1.1.1)), ⟨hk.1.1.1.1.1.1.1.1.2, ⟨hk.1.1.1.1.1.1.2, ⟨hk.1.1.1.1.1.2, ⟨hk.1.1.1.1.2, ⟨hk.1.1.1.2, ⟨hk.1.1.2, ⟨hk.1.2, hk.2⟩⟩⟩⟩⟩⟩⟩⟩, hk.1.1.1.1.1.1.1.2⟩))).2.1 (Kd.R_F (Kd.R_mono (ok' := (fun k_ => ((fun k_ => ((z2 k_ ∨ z3 k_) ∨ w.heap.size ≤ k_) ∧ some k_ ≠ (.slice Zg x16_4.length Zh : Value).ownBlock ∧ k_ ≠ j5 ∧ k_ ≠ j3 ∧ k_ ≠ j4 ∧ k_ ≠ q6 ∧ k_ ≠ q8 ∧ k_ ≠ q9 ∧ k_ ≠ q1)) k_ ∧ some k_ ≠ (j9 : Value).ownBlock)) (Kd.R_types (Kd.R_types (Kd.R_types (Kd.R_types (Kd.R_types (Kd.R_types (Kd.R_types (Kd.R_apart' (Kd.R_apart' (y9.out) (Kd.R_typed j8.out) (by decide)) (Kd.N_typed q2.out) (by decide)) q4.out (by decide)) q5.out (by decide)) j0.out (by decide)) j6.out (by decide)) j7.out (by decide)) z0.out (by decide)) z1.out (by decide)) (fun k_ hk => ⟨⟨(.inr (hk.1.1.1.1.1.1.1.1.1.1)), ⟨hk.1.1.1.1.1.1.1.1.2, ⟨hk.1.1.1.1.1.1.2, ⟨hk.1.1.1.1.1.2, ⟨hk.1.1.1.1.2, ⟨hk.1.1.1.2, ⟨hk.1.1.2, ⟨hk.1.2, hk.2⟩⟩⟩⟩⟩⟩⟩⟩, hk.1.1.1.1.1.1.1.2⟩))) (Kd.R_reads' (Kd.R_mono (ok' := (fun k_ => ((fun k_ => ((z2 k_ ∨ z3 k_) ∨ w.heap.size ≤ k_) ∧ some k_ ≠ (.slice Zg x16_4.length Zh : Value).ownBlock ∧ k_ ≠ j5 ∧ k_ ≠ j3 ∧ k_ ≠ j4 ∧ k_ ≠ q6 ∧ k_ ≠ q8 ∧ k_ ≠ q9 ∧ k_ ≠ q1)) k_ ∧ some k_ ≠ (j9 : Value).ownBlock)) (Kd.R_types (Kd.R_types (Kd.R_types (Kd.R_types (Kd.R_types (Kd.R_types (Kd.R_types (Kd.R_apart' (Kd.R_apart' (z8.out) (Kd.R_typed j8.out) (by decide)) (Kd.N_typed q2.out) (by decide)) q4.out (by decide)) q5.out (by decide)) j0.out (by decide)) j6.out (by decide)) j7.out (by decide)) z0.out (by decide)) z1.out (by decide)) (fun k_ hk => ⟨⟨(.inr (hk.1.1.1.1.1.1.1.1.1.1)), ⟨hk.1.1.1.1.1.1.1.1.2, ⟨hk.1.1.1.1.1.1.2, ⟨hk.1.1.1.1.1.2, ⟨hk.1.1.1.1.2, ⟨hk.1.1.1.2, ⟨hk.1.1.2, ⟨hk.1.2, hk.2⟩⟩⟩⟩⟩⟩⟩⟩, hk.1.1.1.1.1.1.1.2⟩))).2.1 (Kd.R_F (Kd.R_mono (ok' := (fun k_ => ((fun k_ => ((z2 k_ ∨ z3 k_) ∨ w.heap.size ≤ k_) ∧ some k_ ≠ (.slice Zg x16_4.length Zh : Value).ownBlock ∧ k_ ≠ j5 ∧ k_ ≠ j3 ∧ k_ ≠ j4 ∧ k_ ≠ q6 ∧ k_ ≠ q8 ∧ k_ ≠ q9 ∧ k_ ≠ q1)) k_ ∧ some k_ ≠ (j9 : Value).ownBlock)) (Kd.R_types (Kd.R_types (Kd.R_types (Kd.R_types (Kd.R_types (Kd.R_types (Kd.R_types (Kd.R_apart' (Kd.R_apart' (z8.out) (Kd.R_typed j8.out) (by decide)) (Kd.N_typed q2.out) (by decide)) q4.out (by decide)) q5.out (by decide)) j0.out (by decide)) j6.out (by decide)) j7.out (by decide)) z0.out (by decide)) z1.out (by decide)) (fun k_ hk => ⟨⟨(.inr (hk.1.1.1.1.1.1.1.1.1.1)), ⟨hk.1.1.1.1.1.1.1.1.2, ⟨hk.1.1.1.1.1.1.2, ⟨hk.1.1.1.1.1.2, ⟨hk.1.1.1.1.2, ⟨hk.1.1.1.2, ⟨hk.1.1.2, ⟨hk.1.2, hk.2⟩⟩⟩⟩⟩⟩⟩⟩, hk.1.1.1.1.1.1.1.2⟩))) (Kd.R_reads' (Kd.R_mono (ok' := (fun k_ => ((fun k_ => ((z2 k_ ∨ z3 k_) ∨ w.heap.size ≤ k_) ∧ some k_ ≠ (.slice Zg x16_4.length Zh : Value).ownBlock ∧ k_ ≠ j5 ∧ k_ ≠ j3 ∧ k_ ≠ j4 ∧ k_ ≠ q6 ∧ k_ ≠ q8 ∧ k_ ≠ q9 ∧ k_ ≠ q1)) k_ ∧ some k_ ≠ (j9 : Value).ownBlock)) (Kd.R_types (Kd.R_types (Kd.R_types (Kd.R_types (Kd.R_types (Kd.R_types (Kd.R_types (Kd.R_apart' (Kd.R_apart' (z9.out) (Kd.R_typed j8.out) (by decide)) (Kd.N_typed q2.out) (by decide)) q4.out (by decide)) q5.out (by decide)) j0.out (by decide)) j6.out (by decide)) j7.out (by decide)) z0.out (by decide)) z1.out (by decide)) (fun k_ hk => ⟨⟨(.inr (hk.1.1.1.1.1.1.1.1.1.1)), ⟨hk.1.1.1.1.1.1.1.1.2, ⟨hk.1.1.1.1.1.1.2, ⟨hk.1.1.1.1.1.2, ⟨hk.1.1.1.1.2, ⟨hk.1.1.1.2, ⟨hk.1.1.2, ⟨hk.1.2, hk.2⟩⟩⟩⟩⟩⟩⟩⟩, hk.1.1.1.1.1.1.1.2⟩))).2.1 (Kd.R_F (Kd.R_mono (ok' := (fun k_ => ((fun k_ => ((z2 k_ ∨ z3 k_) ∨ w.heap.size ≤ k_) ∧ some k_ ≠ (.slice Zg x16_4.length Zh : Value).ownBlock ∧ k_ ≠ j5 ∧ k_ ≠ j3 ∧ k_ ≠ j4 ∧ k_ ≠ q6 ∧ k_ ≠ q8 ∧ k_ ≠ q9 ∧ k_ ≠ q1)) k_ ∧ some k_ ≠ (j9 : Value).ownBlock)) (Kd.R_types (Kd.R_types (Kd.R_types (Kd.R_types (Kd.R_types (Kd.R_types (Kd.R_types (Kd.R_apart' (Kd.R_apart' (z9.out) (Kd.R_typed j8.out) (by decide)) (Kd.N_typed q2.out) (by decide)) q4.out (by decide)) q5.out (by decide)) j0.out (by decide)) j6.out (by decide)) j7.out (by decide)) z0.out (by decide)) z1.out (by decide)) (fun k_ hk => ⟨⟨(.inr (hk.1.1.1.1.1.1.1.1.1.1)), ⟨hk.1.1.1.1.1.1.1.1.2, ⟨hk.1.1.1.1.1.1.2, ⟨hk.1.1.1.1.1.2, ⟨hk.1.1.1.1.2, ⟨hk.1.1.1.2, ⟨hk.1.1.2, ⟨hk.1.2, hk.2⟩⟩⟩⟩⟩⟩⟩⟩, hk.1.1.1.1.1.1.1.2⟩))) (Kd.R_reads' (Kd.R_mono (ok' := (fun k_ => ((fun k_ => ((z2 k_ ∨ z3 k_) ∨ w.heap.size ≤ k_) ∧ some k_ ≠ (.slice Zg x16_4.length Zh : Value).ownBlock ∧ k_ ≠ j5 ∧ k_ ≠ j3 ∧ k_ ≠ j4 ∧ k_ ≠ q6 ∧ k_ ≠ q8 ∧ k_ ≠ q9 ∧ k_ ≠ q1)) k_ ∧ some k_ ≠ (j9 : Value).ownBlock)) (Kd.R_types (Kd.R_types (Kd.R_types (Kd.R_types (Kd.R_types (Kd.R_types (Kd.R_types (Kd.R_apart' (Kd.R_apart' (y0.out) (Kd.R_typed j8.out) (by decide)) (Kd.N_typed q2.out) (by decide)) q4.out (by decide)) q5.out (by decide)) j0.out (by decide)) j6.out (by decide)) j7.out (by decide)) z0.out (by decide)) z1.out (by decide)) (fun k_ hk => ⟨⟨(.inr (hk.1.1.1.1.1.1.1.1.1.1)), ⟨hk.1.1.1.1.1.1.1.1.2, ⟨hk.1.1.1.1.1.1.2, ⟨hk.1.1.1.1.1.2, ⟨hk.1.1.1.1.2, ⟨hk.1.1.1.2, ⟨hk.1.1.2, ⟨hk.1.2, hk.2⟩⟩⟩⟩⟩⟩⟩⟩, hk.1.1.1.1.1.1.1.2⟩))).2.1 (Kd.R_F (Kd.R_mono (ok' := (fun k_ => ((fun k_ => ((z2 k_ ∨ z3 k_) ∨ w.heap.size ≤ k_) ∧ some k_ ≠ (.slice Zg x16_4.length Zh : Value).ownBlock ∧ k_ ≠ j5 ∧ k_ ≠ j3 ∧ k_ ≠ j4 ∧ k_ ≠ q6 ∧ k_ ≠ q8 ∧ k_ ≠ q9 ∧ k_ ≠ q1)) k_ ∧ some k_ ≠ (j9 : Value).ownBlock)) (Kd.R_types (Kd.R_types (Kd.R_types (Kd.R_types (Kd.R_types (Kd.R_types (Kd.R_types (Kd.R_apart' (Kd.R_apart' (y0.out) (Kd.R_typed j8.out) (by decide)) (Kd.N_typed q2.out) (by decide)) q4.out (by decide)) q5.out (by decide)) j0.out (by decide)) j6.out (by decide)) j7.out (by decide)) z0.out (by decide)) z1.out (by decide)) (fun k_ hk => ⟨⟨(.inr (hk.1.1.1.1.1.1.1.1.1.1)), ⟨hk.1.1.1.1.1.1.1.1.2, ⟨hk.1.1.1.1.1.1.2, ⟨hk.1.1.1.1.1.2, ⟨hk.1.1.1.1.2, ⟨hk.1.1.1.2, ⟨hk.1.1.2, ⟨hk.1.2, hk.2⟩⟩⟩⟩⟩⟩⟩⟩, hk.1.1.1.1.1.1.1.2⟩))) (Kd.R_reads' (Kd.R_mono (ok' := (fun k_ => ((fun k_ => ((z2 k_ ∨ z3 k_) ∨ w.heap.size ≤ k_) ∧ some k_ ≠ (.slice Zg x16_4.length Zh : Value).ownBlock ∧ k_ ≠ j5 ∧ k_ ≠ j3 ∧ k_ ≠ j4 ∧ k_ ≠ q6 ∧ k_ ≠ q8 ∧ k_ ≠ q9 ∧ k_ ≠ q1)) k_ ∧ some k_ ≠ (j9 : Value).ownBlock)) (Kd.R_types (Kd.R_types (Kd.R_types (Kd.R_types (Kd.R_types (Kd.R_types (Kd.R_types (Kd.R_apart' (Kd.R_apart' (y1.out) (Kd.R_typed j8.out) (by decide)) (Kd.N_typed q2.out) (by decide)) q4.out (by decide)) q5.out (by decide)) j0.out (by decide)) j6.out (by decide)) j7.out (by decide)) z0.out (by decide)) z1.out (by decide)) (fun k_ hk => ⟨⟨(.inr (hk.1.1.1.1.1.1.1.1.1.1)), ⟨hk.1.1.1.1.1.1.1.1.2, ⟨hk.1.1.1.1.1.1.2, ⟨hk.1.1.1.1.1.2, ⟨hk.1.1.1.1.2, ⟨hk.1.1.1.2, ⟨hk.1.1.2, ⟨hk.1.2, hk.2⟩⟩⟩⟩⟩⟩⟩⟩, hk.1.1.1.1.1.1.1.2⟩))).2.1 (Kd.R_F (Kd.R_mono (ok' := (fun k_ => ((fun k_ => ((z2 k_ ∨ z3 k_) ∨ w.heap.size ≤ k_) ∧ some k_ ≠ (.slice Zg x16_4.length Zh : Value).ownBlock ∧ k_ ≠ j5 ∧ k_ ≠ j3 ∧ k_ ≠ j4 ∧ k_ ≠ q6 ∧ k_ ≠ q8 ∧ k_ ≠ q9 ∧ k_ ≠ q1)) k_ ∧ some k_ ≠ (j9 : Value).ownBlock)) (Kd.R_types (Kd.R_types (Kd.R_types (Kd.R_types (Kd.R_types (Kd.R_types (Kd.R_types (Kd.R_apart' (Kd.R_apart' (y1.out) (Kd.R_typed j8.out) (by decide)) (Kd.N_typed q2.out) (by decide)) q4.out (by decide)) q5.out (by decide)) j0.out (by decide)) j6.out (by decide)) j7.out (by decide)) z0.out (by decide)) z1.out (by decide)) (fun k_ hk => ⟨⟨(.inr (hk.1.1.1.1.1.1.1.1.1.1)), ⟨hk.1.1.1.1.1.1.1.1.2, ⟨hk.1.1.1.1.1.1.2, ⟨hk.1.1.1.1.1.2, ⟨hk.1.1.1.1.2, ⟨hk.1.1.1.2, ⟨hk.1.1.2, ⟨hk.1.2, hk.2⟩⟩⟩⟩⟩⟩⟩⟩, hk.1.1.1.1.1.1.1.2⟩))))); (case aB => exact (bl HB)); (case aF => exact (fun k_ hk => ⟨(.inr (Nat.le_trans (below_size (bl HB)) hk)), Kd.fresh' (Kd.R_lt (R_u j8.out)) k_ hk, Kd.freshB (Ub q4) k_ hk, Kd.freshB (Ub q5) k_ hk, Kd.freshB (Ub j0) k_ hk, Kd.freshB (Ub j6) k_ hk, Kd.freshB (Ub j7) k_ hk, Kd.freshB (Ub z0) k_ hk, Kd.freshB (Ub z1) k_ hk⟩)); (case aO => exact (by apply N_u; exact Nm q2.out)); (case aS => exact (below_size (bl HB))); (case aL => have := LMc166.out; omega); intro qt0 qt1 ho hb hg hat; rw [← Ny787.out] at ho; have Dj := Qaa.mk (ho); replace y2 := Qaa.mk (Kd.V_afterv (ok := (fun k_ => ((z2 k_ ∨ z3 k_) ∨ w.heap.size ≤ k_) ∧ some k_ ≠ (.slice Zg x16_4.length Zh : Value).ownBlock ∧ some k_ ≠ (.slice Xx Q1.length Xy : Value).ownBlock ∧ some k_ ≠ (.slice Xz y4.length W0 : Value).ownBlock ∧ some k_ ≠ (.slice W1 y5.length W2 : Value).ownBlock ∧ some k_ ≠ (.slice W3 y6.length W4 : Value).ownBlock ∧ some k_ ≠ (.slice W5 y7.length W6 : Value).ownBlock ∧ k_ ≠ j5 ∧ k_ ≠ j3 ∧ k_ ≠ j4 ∧ k_ ≠ q6 ∧ k_ ≠ q8 ∧ k_ ≠ q9 ∧ k_ ≠ q1)) (by apply V_u; exact Vm y2.out) hg hat); replace y3 := Qaa.mk (Kd.V_afterv (ok := (fun k_ => ((z2 k_ ∨ z3 k_) ∨ w.heap.size ≤ k_) ∧ some k_ ≠ (.slice Zg x16_4.length Zh : Value).ownBlock ∧ some k_ ≠ (.slice Xx Q1.length Xy : Value).ownBlock ∧ some k_ ≠ (.slice Xz y4.length W0 : Value).ownBlock ∧ some k_ ≠ (.slice W1 y5.length W2 : Value).ownBlock ∧ some k_ ≠ (.slice W3 y6.length W4 : Value).ownBlock ∧ some k_ ≠ (.slice W5 y7.length W6 : Value).ownBlock ∧ k_ ≠ j5 ∧ k_ ≠ j3 ∧ k_ ≠ j4 ∧ k_ ≠ q6 ∧ k_ ≠ q8 ∧ k_ ≠ q9 ∧ k_ ≠ q1)) (by apply V_u; exact Vm y3.out) hg hat); replace j8 := Qaa.mk (Kd.R_over' (R_u j8.out) (Kd.N_typed (N_u q2.out)) (by decide) hg); replace Q0 := Qaa.mk (Kd.V_afterv (ok := (fun k_ => ((z2 k_ ∨ z3 k_) ∨ w.heap.size ≤ k_) ∧ some k_ ≠ (.slice Zg x16_4.length Zh : Value).ownBlock ∧ some k_ ≠ (.slice Xx Q1.length Xy : Value).ownBlock ∧ some k_ ≠ (.slice Xz y4.length W0 : Value).ownBlock ∧ some k_ ≠ (.slice W1 y5.length W2 : Value).ownBlock ∧ some k_ ≠ (.slice W3 y6.length W4 : Value).ownBlock ∧ some k_ ≠ (.slice W5 y7.length W6 : Value).ownBlock ∧ k_ ≠ j5 ∧ k_ ≠ j3 ∧ k_ ≠ j4 ∧ k_ ≠ q6 ∧ k_ ≠ q8 ∧ k_ ≠ q9 ∧ k_ ≠ q1)) (by apply V_u; exact Vm Q0.out) hg hat); replace j1 := Qaa.mk (Kd.V_afterv (ok := (fun k_ => ((z2 k_ ∨ z3 k_) ∨ w.heap.size ≤ k_) ∧ some k_ ≠ (.slice Zg x16_4.length Zh : Value).ownBlock ∧ some k_ ≠ (.slice Xx Q1.length Xy : Value).ownBlock ∧ some k_ ≠ (.slice Xz y4.length W0 : Value).ownBlock ∧ some k_ ≠ (.slice W1 y5.length W2 : Value).ownBlock ∧ some k_ ≠ (.slice W3 y6.length W4 : Value).ownBlock ∧ some k_ ≠ (.slice W5 y7.length W6 : Value).ownBlock ∧ k_ ≠ j5 ∧ k_ ≠ j3 ∧ k_ ≠ j4 ∧ k_ ≠ q6 ∧ k_ ≠ q8 ∧ k_ ≠ q9 ∧ k_ ≠ q1)) (by apply V_u; exact Vm j1.out) hg hat); replace j2 := Qaa.mk (Kd.V_afterv (ok := (fun k_ => ((z2 k_ ∨ z3 k_) ∨ w.heap.size ≤ k_) ∧ some k_ ≠ (.slice Zg x16_4.length Zh : Value).ownBlock ∧ some k_ ≠ (.slice Xx Q1.length Xy : Value).ownBlock ∧ some k_ ≠ (.slice Xz y4.length W0 : Value).ownBlock ∧ some k_ ≠ (.slice W1 y5.length W2 : Value).ownBlock ∧ some k_ ≠ (.slice W3 y6.length W4 : Value).ownBlock ∧ some k_ ≠ (.slice W5 y7.length W6 : Value).ownBlock ∧ k_ ≠ j5 ∧ k_ ≠ j3 ∧ k_ ≠ j4 ∧ k_ ≠ q6 ∧ k_ ≠ q8 ∧ k_ ≠ q9 ∧ k_ ≠ q1)) (by apply V_u; exact Vm j2.out) hg hat); replace q4 := Qaa.mk (blk_grown (Ub q4) hg (Kd.N_ne q2.out q4.out (by decide))); replace q5 := Qaa.mk (blk_grown (Ub q5) hg (Kd.N_ne q2.out q5.out (by decide))); replace j0 := Qaa.mk (blk_grown (Ub j0) hg (Kd.N_ne q2.out j0.out (by decide))); replace j6 := Qaa.mk (blk_grown (Ub j6) hg (Kd.N_ne q2.out j6.out (by decide))); replace j7 := Qaa.mk (blk_grown (Ub j7) hg (Kd.N_away q2.out (fun _ hk => hk.1.1.1.1.1.1.2.2.2.2.2.2.1))); replace z0 := Qaa.mk (blk_grown (Ub z0) hg (Kd.N_away q2.out (fun _ hk => hk.1.1.1.1.1.1.2.2.2.2.2.2.2))); replace z1 := Qaa.mk (blk_grown (Ub z1) hg (Kd.N_away q2.out (fun _ hk => hk.2))); replace HB := Qaa.mk (hb); clear q2; clear y9; clear z8; clear z9; clear y0; clear y1; clear ho hb hg hat; obtain ⟨W7, W8, eo202⟩ := Kd.N_slice Dj.out; subst eo202; obtain ⟨q63, q64, q65, q66, q67, q68, q69, q6a⟩ := cf4 j6))
                       go_roundg k4
                       case measure => have := HK1.out; have := HK2.out; have := HK3.out; have := HK4.out; omega
                       case rel => exact ⟨(wrap64 (x81_2 + 1)), (y787), (.slice W7 y787.length W8), (by first | rfl | (simp; done) | (simp [*]; done)), H', ⟨by have := HK1.out; have := HK2.out; have := HK3.out; have := HK4.out; omega⟩, ⟨by apply V_u; exact Vm (Kd.V_far (p := ⟨q6, 1, none⟩) (Kd.V_mono y2.out (fun k_ hk => (⟨hk, hk.1.2.2.2.2.2.2.2.2.2.2.1⟩ : _ ∧ k_ ≠ q6))) (fun _ hk => hk.2) (.slice W7 y787.length W8))⟩, ⟨by apply V_u; exact Vm (Kd.V_far (p := ⟨q6, 1, none⟩) (Kd.V_mono y3.out (fun k_ hk => (⟨hk, hk.1.2.2.2.2.2.2.2.2.2.2.1⟩ : _ ∧ k_ ≠ q6))) (fun _ hk => hk.2) (.slice W7 y787.length W8))⟩, ⟨by apply V_u; exact Vm (Kd.V_far (p := ⟨q6, 1, none⟩) (Kd.V_mono j1.out (fun k_ hk => (⟨hk, hk.1.2.2.2.2.2.2.2.2.2.2.1⟩ : _ ∧ k_ ≠ q6))) (fun _ hk => hk.2) (.slice W7 y787.length W8))⟩, ⟨by apply V_u; exact Vm (Kd.V_far (p := ⟨q6, 1, none⟩) (Kd.V_mono j2.out (fun k_ hk => (⟨hk, hk.1.2.2.2.2.2.2.2.2.2.2.1⟩ : _ ∧ k_ ≠ q6))) (fun _ hk => hk.2) (.slice W7 y787.length W8))⟩, ⟨by apply N_u; exact Nm (Kd.N_far (p := ⟨q6, 1, none⟩) (Kd.N_mono Dj.out (fun k_ hk => (⟨hk, hk.2.2.2.2.2.1⟩ : _ ∧ k_ ≠ q6))) (fun _ hk => hk.2) (.slice W7 y787.length W8))⟩, ⟨by apply blk_u; refine blk_far ?_ Qz.out _; apply blk_u; exact q4.out⟩, ⟨by apply blk_u; refine blk_far ?_ Qt.out _; apply blk_u; exact q5.out⟩, ⟨by apply blk_u; refine blk_far ?_ Z0.out _; apply blk_u; exact j0.out⟩, ⟨by apply blk_u; refine blk_put (cs := #[.int .i64 (wrap64 ((z7.length : Int) + (z5.length : Int))), j9, .bool true, .slice none 0 0]) ?_ 1 _ rfl; apply blk_u; exact j6.out⟩, ⟨bl HB⟩⟩
                      ·
                       rw [if_neg Fu] at H
                       exact absurd H (by simp)
                    ·
                     replace Fr := Bool.eq_false_iff.mpr Fr
                     subst Fr
                     have H1 : (if z4.length < 1099511627776 then (Qad.l1 k4 z7 z5 q0 (q0.length : Int) (wrap64 (x81_2 + 1)) Q2 q3 Q3 y8 (wrap64 ((z7.length : Int) + (z5.length : Int))) (z4 ++ [(⟨Z3, Q1, y4, y5, y6, y7⟩ : S39)]) true) else (none)) = some (r1, r2, r3, r4, r5) := by rw [if_neg (show ¬ (false = true) by decide)] at H; exact H
                     clear H
                     have H := H1
                     clear H1
                     by_cases Fv : z4.length < 1099511627776
                     ·
                      rw [if_pos Fv] at H
                      have LMc204 := Qaa.mk Fv
                      clear Fv
                      obtain ⟨y790, hy790⟩ : ∃ y_ : List (S39), y_ = (z4 ++ [(⟨Z3, Q1, y4, y5, y6, y7⟩ : S39)]) := ⟨_, rfl⟩
                      replace H : (Qad.l1 k4 z7 z5 q0 (q0.length : Int) (wrap64 (x81_2 + 1)) Q2 q3 Q3 y8 (wrap64 ((z7.length : Int) + (z5.length : Int))) y790 true) = some (r1, r2, r3, r4, r5) := by first | (rw [hy790]; with_reducible exact H) | (have H2_ := (Option.bind_some _ _).symm.trans H; rw [hy790]; with_reducible exact H2_) | (have H2_ := (Option.bind_some _ _).symm.trans H; with_reducible exact H2_) | with_reducible exact H | (rw [hy790]; exact H) | exact H
                      have Ny790 := Qaa.mk hy790
                      clear hy790
                      have H' := Qaa.mk H
                      clear H
                      have qg1 := Y1.out
                      have qg2 := Y0.out
                      have qg3 := Y3.out
                      have qg4 := Y2.out
                      have qg5 := Y5.out
                      have qg6 := Y4.out
                      have qg7 := Y7.out
                      have qg8 := Y6.out
                      have qg9 := Z1.out
                      have qh0 := Jv.out
                      obtain ⟨q6b, q6c, q6d, q6e, q6f, q6g, q6h, q6i, q6j, q6k, q6l, q6m⟩ := cf6 j7
                      obtain ⟨Zi, Zj, eo211⟩ := Kd.R_slice j8.out
                      subst eo211
                      go_wp2_with (first | ((with_reducible refine gate_callee (f := 29) rfl ?_); refine gL (some 120) Try.func29 #[.int .i64 ((rd_T39 q0 x81_2).f0), .slice Zi x16_4.length Zj] ?_; (with_reducible refine (Qax.calls k4 ((rd_T39 q0 x81_2).f0) _ _ x16_4 Z3 Q1 y4 y5 y6 y7 _ ?side1 ?side2 Fz.out).mono ?_); (case side1 => exact Cu (Kd.R_reads' j8.out).2.2); (case side2 => exact (Kd.R_reads' j8.out).2.1); rintro e qt2 ⟨q0f, q0g, q0h, q0i, q0j, rfl, ho0, ho1, ho2, ho3, ho4, hb⟩; refine ⟨_, rfl, ?_⟩; have y9 := Qaa.mk (Kd.R_lower (Kd.R_newM (M := fun k_ => (w.heap.size ≤ k_)) ho0 (below_size (bl HB)) (fun k_ h_ => h_)) (below_size (bl HB))); have z8 := Qaa.mk (Kd.R_lower (Kd.R_newM (M := fun k_ => (w.heap.size ≤ k_)) ho1 (below_size (bl HB)) (fun k_ h_ => h_)) (below_size (bl HB))); have z9 := Qaa.mk (Kd.R_lower (Kd.R_newM (M := fun k_ => (w.heap.size ≤ k_)) ho2 (below_size (bl HB)) (fun k_ h_ => h_)) (below_size (bl HB))); have y0 := Qaa.mk (Kd.R_lower (Kd.R_newM (M := fun k_ => (w.heap.size ≤ k_)) ho3 (below_size (bl HB)) (fun k_ h_ => h_)) (below_size (bl HB))); have y1 := Qaa.mk (Kd.R_lower (Kd.R_newM (M := fun k_ => (w.heap.size ≤ k_)) ho4 (below_size (bl HB)) (fun k_ h_ => h_)) (below_size (bl HB))); replace y2 := Qaa.mk (Kd.V_mono (Kd.V_told (Kd.V_told (Kd.V_told (Kd.V_told (Kd.V_told (Kd.V_old (V_u y2.out) hb) (Kd.R_base ho0)) (Kd.R_base ho1)) (Kd.R_base ho2)) (Kd.R_base ho3)) (Kd.R_base ho4)) (fun _ h_ => h_.1)); replace y3 := Qaa.mk (Kd.V_mono (Kd.V_told (Kd.V_told (Kd.V_told (Kd.V_told (Kd.V_told (Kd.V_old (V_u y3.out) hb) (Kd.R_base ho0)) (Kd.R_base ho1)) (Kd.R_base ho2)) (Kd.R_base ho3)) (Kd.R_base ho4)) (fun _ h_ => h_.1)); replace j8 := Rb j8 hb; replace Q0 := Qaa.mk (Kd.V_mono (Kd.V_told (Kd.V_told (Kd.V_told (Kd.V_told (Kd.V_told (Kd.V_old (V_u Q0.out) hb) (Kd.R_base ho0)) (Kd.R_base ho1)) (Kd.R_base ho2)) (Kd.R_base ho3)) (Kd.R_base ho4)) (fun _ h_ => h_.1)); replace j1 := Qaa.mk (Kd.V_mono (Kd.V_told (Kd.V_told (Kd.V_told (Kd.V_told (Kd.V_told (Kd.V_old (V_u j1.out) hb) (Kd.R_base ho0)) (Kd.R_base ho1)) (Kd.R_base ho2)) (Kd.R_base ho3)) (Kd.R_base ho4)) (fun _ h_ => h_.1)); replace j2 := Qaa.mk (Kd.V_mono (Kd.V_told (Kd.V_told (Kd.V_told (Kd.V_told (Kd.V_told (Kd.V_old (V_u j2.out) hb) (Kd.R_base ho0)) (Kd.R_base ho1)) (Kd.R_base ho2)) (Kd.R_base ho3)) (Kd.R_base ho4)) (fun _ h_ => h_.1)); replace q2 := Qaa.mk (Kd.N_mono (Kd.N_told (Kd.N_told (Kd.N_told (Kd.N_told (Kd.N_told (Kd.N_old (N_u q2.out) hb) (Kd.R_base ho0)) (Kd.R_base ho1)) (Kd.R_base ho2)) (Kd.R_base ho3)) (Kd.R_base ho4)) (fun _ h_ => h_.1)); replace q4 := Bb q4 hb; replace q5 := Bb q5 hb; replace j0 := Bb j0 hb; replace j6 := Bb j6 hb; replace j7 := Bb j7 hb; replace z0 := Bb z0 hb; replace HB := bs HB hb; (try clear hb); (try clear ho0); (try clear ho1); (try clear ho2); (try clear ho3); (try clear ho4)) | ((with_reducible refine gate_dst (N := 21) rfl ?_); refine bx 21 #[.int .i64 0, .slice none 0 0, .slice none 0 0, .slice none 0 0, .slice none 0 0, .slice none 0 0] 39 ?_; intro q1 hg qt3 hbox hb; have z1 := Qaa.mk (hbox); have Dg := Qaa.mk ((by rw [hg]; exact (below_size (bl HB)) : w.heap.size ≤ q1)); have Dh := Qaa.mk ((by rw [hg]; exact (below_size (bl HB)) : w.heap.size ≤ q1)); have Y9 := Qaa.mk ((by rw [hg]; exact Nat.ne_of_lt (blk_lt (Ub q4)) : j5 ≠ q1)); have Ya := Qaa.mk ((by rw [hg]; exact Nat.ne_of_gt (blk_lt (Ub q4)) : q1 ≠ j5)); have Yb := Qaa.mk ((by rw [hg]; exact Nat.ne_of_lt (blk_lt (Ub q5)) : j3 ≠ q1)); have Yc := Qaa.mk ((by rw [hg]; exact Nat.ne_of_gt (blk_lt (Ub q5)) : q1 ≠ j3)); have Yd := Qaa.mk ((by rw [hg]; exact Nat.ne_of_lt (blk_lt (Ub j0)) : j4 ≠ q1)); have Ye := Qaa.mk ((by rw [hg]; exact Nat.ne_of_gt (blk_lt (Ub j0)) : q1 ≠ j4)); have Yf := Qaa.mk ((by rw [hg]; exact Nat.ne_of_lt (blk_lt (Ub j6)) : q6 ≠ q1)); have Yg := Qaa.mk ((by rw [hg]; exact Nat.ne_of_gt (blk_lt (Ub j6)) : q1 ≠ q6)); have Yh := Qaa.mk ((by rw [hg]; exact Nat.ne_of_lt (blk_lt (Ub j7)) : q8 ≠ q1)); have Yi := Qaa.mk ((by rw [hg]; exact Nat.ne_of_gt (blk_lt (Ub j7)) : q1 ≠ q8)); have Yj := Qaa.mk ((by rw [hg]; exact Nat.ne_of_lt (blk_lt (Ub z0)) : q9 ≠ q1)); have Yk := Qaa.mk ((by rw [hg]; exact Nat.ne_of_gt (blk_lt (Ub z0)) : q1 ≠ q9)); replace y2 := Qaa.mk (Kd.V_below (Kd.V_elderB (V_u y2.out) q1 (Nat.le_of_eq hg.symm)) hb); replace y3 := Qaa.mk (Kd.V_below (Kd.V_elderB (V_u y3.out) q1 (Nat.le_of_eq hg.symm)) hb); replace j8 := Rb j8 hb; replace Q0 := Qaa.mk (Kd.V_below (Kd.V_elderB (V_u Q0.out) q1 (Nat.le_of_eq hg.symm)) hb); replace j1 := Qaa.mk (Kd.V_below (Kd.V_elderB (V_u j1.out) q1 (Nat.le_of_eq hg.symm)) hb); replace j2 := Qaa.mk (Kd.V_below (Kd.V_elderB (V_u j2.out) q1 (Nat.le_of_eq hg.symm)) hb); replace q2 := Qaa.mk (Kd.N_below (Kd.N_elderB (N_u q2.out) q1 (Nat.le_of_eq hg.symm)) hb); replace y9 := Rb y9 hb; replace z8 := Rb z8 hb; replace z9 := Rb z9 hb; replace y0 := Rb y0 hb; replace y1 := Rb y1 hb; replace q4 := Bb q4 hb; replace q5 := Bb q5 hb; replace j0 := Bb j0 hb; replace j6 := Bb j6 hb; replace j7 := Bb j7 hb; replace z0 := Bb z0 hb; replace HB := bs HB hb; clear hb hbox hg; have qh1 := Ya.out; have qh2 := Y9.out; have qh3 := Yc.out; have qh4 := Yb.out; have qh5 := Ye.out; have qh6 := Yd.out; have qh7 := Yg.out; have qh8 := Yf.out; have qh9 := Yi.out; have qi0 := Yh.out; have qi1 := Yk.out; have qi2 := Yj.out; obtain ⟨q6n, q6o, q6p, q6q, q6r, q6s, q6t, q6u, q6v, q6w, q6x, q6y⟩ := cf6 z1; obtain ⟨W9, Wa, eo221⟩ := Kd.R_slice y9.out; subst eo221; obtain ⟨Wb, Wc, eo222⟩ := Kd.R_slice z8.out; subst eo222; obtain ⟨Wd, We, eo223⟩ := Kd.R_slice z9.out; subst eo223; obtain ⟨Wf, Wg, eo224⟩ := Kd.R_slice y0.out; subst eo224; obtain ⟨Wh, Wi, eo225⟩ := Kd.R_slice y1.out; subst eo225; obtain ⟨q6z, q70, q71, q74, q75, q76, q77, q78, q79, q7a, q7b, q7c⟩ := cf6 j7) | ((with_reducible refine gate_callee (f := 36) rfl ?_); refine gL (some 122) Try.func36 #[.agg #[.int .i64 ((rd_T39 q0 x81_2).f0), .slice Zv ((rd_T39 q0 x81_2).f1).length Zw, .slice Zx ((rd_T39 q0 x81_2).f2).length Zy, .slice Zz ((rd_T39 q0 x81_2).f3).length J0, .slice J1 ((rd_T39 q0 x81_2).f4).length J2, .slice J3 ((rd_T39 q0 x81_2).f5).length J4]] ?_; (with_reducible refine (Qar.calls ((rd_T39 q0 x81_2).f0) _ _ ((rd_T39 q0 x81_2).f1) _ _ ((rd_T39 q0 x81_2).f2) _ _ ((rd_T39 q0 x81_2).f3) _ _ ((rd_T39 q0 x81_2).f4) _ _ ((rd_T39 q0 x81_2).f5) false _ ?side1 ?side2 ?side3 ?side4 ?side5 ?side6 ?side7 ?side8 ?side9 ?side10 D0.out).mono ?_); (case side1 => exact Kd.C_below Xf.out (bl HB)); (case side2 => exact Xg.out); (case side3 => exact Kd.C_below Xh.out (bl HB)); (case side4 => exact Xi.out); (case side5 => exact Kd.C_below Xj.out (bl HB)); (case side6 => exact Xk.out); (case side7 => exact Kd.C_below Xl.out (bl HB)); (case side8 => exact Xm.out); (case side9 => exact Kd.C_below Xn.out (bl HB)); (case side10 => exact Xo.out); rintro e qt4 ⟨rfl, hb⟩; refine ⟨_, rfl, ?_⟩; replace y2 := Qaa.mk (Kd.V_below (Vf (g := q1) y2 (fun _ hk => hk.2)) hb); replace y3 := Qaa.mk (Kd.V_below (Vf (g := q1) y3 (fun _ hk => hk.2)) hb); replace j8 := Qaa.mk (Kd.R_below (Rf j8 z1) hb); replace Q0 := Qaa.mk (Kd.V_below (Vf (g := q1) Q0 (fun _ hk => hk.2)) hb); replace j1 := Qaa.mk (Kd.V_below (Vf (g := q1) j1 (fun _ hk => hk.2)) hb); replace j2 := Qaa.mk (Kd.V_below (Vf (g := q1) j2 (fun _ hk => hk.2)) hb); replace q2 := Qaa.mk (Kd.N_below (Nf (g := q1) q2 (fun _ hk => hk.2)) hb); replace y9 := Qaa.mk (Kd.R_below (Rf y9 z1) hb); replace z8 := Qaa.mk (Kd.R_below (Rf z8 z1) hb); replace z9 := Qaa.mk (Kd.R_below (Rf z9 z1) hb); replace y0 := Qaa.mk (Kd.R_below (Rf y0 z1) hb); replace y1 := Qaa.mk (Kd.R_below (Rf y1 z1) hb); replace q4 := Bb q4 hb; replace q5 := Bb q5 hb; replace j0 := Bb j0 hb; replace j6 := Bb j6 hb; replace j7 := Bb j7 hb; replace z0 := Bb z0 hb; replace z1 := Qaa.mk (blk_below (Uf6 z1) hb); replace HB := bs HB hb; (try clear hb); (try clear hk); have qi3 := Jy.out; have qi4 := Qz.out; have qi5 := Ju.out; have qi6 := Qt.out; have qi7 := Jz.out; have qi8 := Z0.out; have qi9 := Z2.out; have qj0 := Y8.out; obtain ⟨q7d, q7e, q7f, q7g, q7h, q7i, q7j, q7k⟩ := cf4 j6; obtain ⟨q7l, q7m, q7n, q7o, q7p, q7q, q7r, q7s, q7t, q7u, q7v, q7w⟩ := cf6 z1) | ((with_reducible refine gate_builtin (b := .append) (xs := #[.tmp 130, .tmp 132]) rfl ?_); at_builtin; refine Kd.N_append k39 (w0 := w) w.heap.size rfl (.tmp 130) (.tmp 132) 23 39 (.agg #[(.int .i64 0), (.slice none 0 0), (.slice none 0 0), (.slice none 0 0), (.slice none 0 0), (.slice none 0 0)]) 128 rfl Try.underlying23 info39 rfl (by decide) (by omega) j9 z4 (⟨Z3, Q1, y4, y5, y6, y7⟩ : S39) [.int .i64 Z3, .slice W9 Q1.length Wa, .slice Wb y4.length Wc, .slice Wd y5.length We, .slice Wf y6.length Wg, .slice Wh y7.length Wi] (fun k_ => ((z2 k_ ∨ z3 k_) ∨ w.heap.size ≤ k_) ∧ some k_ ≠ (.slice Zi x16_4.length Zj : Value).ownBlock ∧ k_ ≠ j5 ∧ k_ ≠ j3 ∧ k_ ≠ j4 ∧ k_ ≠ q6 ∧ k_ ≠ q8 ∧ k_ ≠ q9 ∧ k_ ≠ q1) (fun k_ => ((fun k_ => ((z2 k_ ∨ z3 k_) ∨ w.heap.size ≤ k_) ∧ some k_ ≠ (.slice Zi x16_4.length Zj : Value).ownBlock ∧ k_ ≠ j5 ∧ k_ ≠ j3 ∧ k_ ≠ j4 ∧ k_ ≠ q6 ∧ k_ ≠ q8 ∧ k_ ≠ q9 ∧ k_ ≠ q1)) k_ ∧ some k_ ≠ (j9 : Value).ownBlock) rfl rfl ?aP (fun _ hk => hk) ?aF ?aO ?aB ?aS ?aL ?_; (case aP => exact (k39_mkF _ _ (⟨Z3, Q1, y4, y5, y6, y7⟩ : S39) (Kd.R_reads' (Kd.R_mono (ok' := (fun k_ => ((fun k_ => ((z2 k_ ∨ z3 k_) ∨ w.heap.size ≤ k_) ∧ some k_ ≠ (.slice Zi x16_4.length Zj : Value).ownBlock ∧ k_ ≠ j5 ∧ k_ ≠ j3 ∧ k_ ≠ j4 ∧ k_ ≠ q6 ∧ k_ ≠ q8 ∧ k_ ≠ q9 ∧ k_ ≠ q1)) k_ ∧ some k_ ≠ (j9 : Value).ownBlock)) (Kd.R_types (Kd.R_types (Kd.R_types (Kd.R_types (Kd.R_types (Kd.R_types (Kd.R_types (Kd.R_apart' (Kd.R_apart' (y9.out) (Kd.R_typed j8.out) (by decide)) (Kd.N_typed q2.out) (by decide)) q4.out (by decide)) q5.out (by decide)) j0.out (by decide)) j6.out (by decide)) j7.out (by decide)) z0.out (by decide)) z1.out (by decide)) (fun k_ hk => ⟨⟨(.inr (hk.1.1.1.1.1.1.1.1.1.1)), ⟨hk.1.1.1.1.1.1.1.1.2, ⟨hk.1.1.1.1.1.1.2, ⟨hk.1.1.1.1.1.2, ⟨hk.1.1.1.1.2, ⟨hk.1.1.1.2, ⟨hk.1.1.2, ⟨hk.1.2, hk.2⟩⟩⟩⟩⟩⟩⟩⟩, hk.1.1.1.1.1.1.1.2⟩))).2.1 (Kd.R_F (Kd.R_mono (ok' := (fun k_ => ((fun k_ => ((z2 k_ ∨ z3 k_) ∨ w.heap.size ≤ k_) ∧ some k_ ≠ (.slice Zi x16_4.length Zj : Value).ownBlock ∧ k_ ≠ j5 ∧ k_ ≠ j3 ∧ k_ ≠ j4 ∧ k_ ≠ q6 ∧ k_ ≠ q8 ∧ k_ ≠ q9 ∧ k_ ≠ q1)) k_ ∧ some k_ ≠ (j9 : Value).ownBlock)) (Kd.R_types (Kd.R_types (Kd.R_types (Kd.R_types (Kd.R_types (Kd.R_types (Kd.R_types (Kd.R_apart' (Kd.R_apart' (y9.out) (Kd.R_typed j8.out) (by decide)) (Kd.N_typed q2.out) (by decide)) q4.out (by decide)) q5.out (by decide)) j0.out (by decide)) j6.out (by decide)) j7.out (by decide)) z0.out (by decide)) z1.out (by decide)) (fun k_ hk => ⟨⟨(.inr (hk.1.1.1.1.1.1.1.1.1.1)), ⟨hk.1.1.1.1.1.1.1.1.2, ⟨hk.1.1.1.1.1.1.2, ⟨hk.1.1.1.1.1.2, ⟨hk.1.1.1.1.2, ⟨hk.1.1.1.2, ⟨hk.1.1.2, ⟨hk.1.2, hk.2⟩⟩⟩⟩⟩⟩⟩⟩, hk.1.1.1.1.1.1.1.2⟩))) (Kd.R_reads' (Kd.R_mono (ok' := (fun k_ => ((fun k_ => ((z2 k_ ∨ z3 k_) ∨ w.heap.size ≤ k_) ∧ some k_ ≠ (.slice Zi x16_4.length Zj : Value).ownBlock ∧ k_ ≠ j5 ∧ k_ ≠ j3 ∧ k_ ≠ j4 ∧ k_ ≠ q6 ∧ k_ ≠ q8 ∧ k_ ≠ q9 ∧ k_ ≠ q1)) k_ ∧ some k_ ≠ (j9 : Value).ownBlock)) (Kd.R_types (Kd.R_types (Kd.R_types (Kd.R_types (Kd.R_types (Kd.R_types (Kd.R_types (Kd.R_apart' (Kd.R_apart' (z8.out) (Kd.R_typed j8.out) (by decide)) (Kd.N_typed q2.out) (by decide)) q4.out (by decide)) q5.out (by decide)) j0.out (by decide)) j6.out (by decide)) j7.out (by decide)) z0.out (by decide)) z1.out (by decide)) (fun k_ hk => ⟨⟨(.inr (hk.1.1.1.1.1.1.1.1.1.1)), ⟨hk.1.1.1.1.1.1.1.1.2, ⟨hk.1.1.1.1.1.1.2, ⟨hk.1.1.1.1.1.2, ⟨hk.1.1.1.1.2, ⟨hk.1.1.1.2, ⟨hk.1.1.2, ⟨hk.1.2, hk.2⟩⟩⟩⟩⟩⟩⟩⟩, hk.1.1.1.1.1.1.1.2⟩))).2.1 (Kd.R_F (Kd.R_mono (ok' := (fun k_ => ((fun k_ => ((z2 k_ ∨ z3 k_) ∨ w.heap.size ≤ k_) ∧ some k_ ≠ (.slice Zi x16_4.length Zj : Value).ownBlock ∧ k_ ≠ j5 ∧ k_ ≠ j3 ∧ k_ ≠ j4 ∧ k_ ≠ q6 ∧ k_ ≠ q8 ∧ k_ ≠ q9 ∧ k_ ≠ q1)) k_ ∧ some k_ ≠ (j9 : Value).ownBlock)) (Kd.R_types (Kd.R_types (Kd.R_types (Kd.R_types (Kd.R_types (Kd.R_types (Kd.R_types (Kd.R_apart' (Kd.R_apart' (z8.out) (Kd.R_typed j8.out) (by decide)) (Kd.N_typed q2.out) (by decide)) q4.out (by decide)) q5.out (by decide)) j0.out (by decide)) j6.out (by decide)) j7.out (by decide)) z0.out (by decide)) z1.out (by decide)) (fun k_ hk => ⟨⟨(.inr (hk.1.1.1.1.1.1.1.1.1.1)), ⟨hk.1.1.1.1.1.1.1.1.2, ⟨hk.1.1.1.1.1.1.2, ⟨hk.1.1.1.1.1.2, ⟨hk.1.1.1.1.2, ⟨hk.1.1.1.2, ⟨hk.1.1.2, ⟨hk.1.2, hk.2⟩⟩⟩⟩⟩⟩⟩⟩, hk.1.1.1.1.1.1.1.2⟩))) (Kd.R_reads' (Kd.R_mono (ok' := (fun k_ => ((fun k_ => ((z2 k_ ∨ z3 k_) ∨ w.heap.size ≤ k_) ∧ some k_ ≠ (.slice Zi x16_4.length Zj : Value).ownBlock ∧ k_ ≠ j5 ∧ k_ ≠ j3 ∧ k_ ≠ j4 ∧ k_ ≠ q6 ∧ k_ ≠ q8 ∧ k_ ≠ q9 ∧ k_ ≠ q1)) k_ ∧ some k_ ≠ (j9 : Value).ownBlock)) (Kd.R_types (Kd.R_types (Kd.R_types (Kd.R_types (Kd.R_types (Kd.R_types (Kd.R_types (Kd.R_apart' (Kd.R_apart' (z9.out) (Kd.R_typed j8.out) (by decide)) (Kd.N_typed q2.out) (by decide)) q4.out (by decide)) q5.out (by decide)) j0.out (by decide)) j6.out (by decide)) j7.out (by decide)) z0.out (by decide)) z1.out (by decide)) (fun k_ hk => ⟨⟨(.inr (hk.1.1.1.1.1.1.1.1.1.1)), ⟨hk.1.1.1.1.1.1.1.1.2, ⟨hk.1.1.1.1.1.1.2, ⟨hk.1.1.1.1.1.2, ⟨hk.1.1.1.1.2, ⟨hk.1.1.1.2, ⟨hk.1.1.2, ⟨hk.1.2, hk.2⟩⟩⟩⟩⟩⟩⟩⟩, hk.1.1.1.1.1.1.1.2⟩))).2.1 (Kd.R_F (Kd.R_mono (ok' := (fun k_ => ((fun k_ => ((z2 k_ ∨ z3 k_) ∨ w.heap.size ≤ k_) ∧ some k_ ≠ (.slice Zi x16_4.length Zj : Value).ownBlock ∧ k_ ≠ j5 ∧ k_ ≠ j3 ∧ k_ ≠ j4 ∧ k_ ≠ q6 ∧ k_ ≠ q8 ∧ k_ ≠ q9 ∧ k_ ≠ q1)) k_ ∧ some k_ ≠ (j9 : Value).ownBlock)) (Kd.R_types (Kd.R_types (Kd.R_types (Kd.R_types (Kd.R_types (Kd.R_types (Kd.R_types (Kd.R_apart' (Kd.R_apart' (z9.out) (Kd.R_typed j8.out) (by decide)) (Kd.N_typed q2.out) (by decide)) q4.out (by decide)) q5.out (by decide)) j0.out (by decide)) j6.out (by decide)) j7.out (by decide)) z0.out (by decide)) z1.out (by decide)) (fun k_ hk => ⟨⟨(.inr (hk.1.1.1.1.1.1.1.1.1.1)), ⟨hk.1.1.1.1.1.1.1.1.2, ⟨hk.1.1.1.1.1.1.2, ⟨hk.1.1.1.1.1.2, ⟨hk.1.1.1.1.2, ⟨hk.1.1.1.2, ⟨hk.1.1.2, ⟨hk.1.2, hk.2⟩⟩⟩⟩⟩⟩⟩⟩, hk.1.1.1.1.1.1.1.2⟩))) (Kd.R_reads' (Kd.R_mono (ok' := (fun k_ => ((fun k_ => ((z2 k_ ∨ z3 k_) ∨ w.heap.size ≤ k_) ∧ some k_ ≠ (.slice Zi x16_4.length Zj : Value).ownBlock ∧ k_ ≠ j5 ∧ k_ ≠ j3 ∧ k_ ≠ j4 ∧ k_ ≠ q6 ∧ k_ ≠ q8 ∧ k_ ≠ q9 ∧ k_ ≠ q1)) k_ ∧ some k_ ≠ (j9 : Value).ownBlock)) (Kd.R_types (Kd.R_types (Kd.R_types (Kd.R_types (Kd.R_types (Kd.R_types (Kd.R_types (Kd.R_apart' (Kd.R_apart' (y0.out) (Kd.R_typed j8.out) (by decide)) (Kd.N_typed q2.out) (by decide)) q4.out (by decide)) q5.out (by decide)) j0.out (by decide)) j6.out (by decide)) j7.out (by decide)) z0.out (by decide)) z1.out (by decide)) (fun k_ hk => ⟨⟨(.inr (hk.1.1.1.1.1.1.1.1.1.1)), ⟨hk.1.1.1.1.1.1.1.1.2, ⟨hk.1.1.1.1.1.1.2, ⟨hk.1.1.1.1.1.2, ⟨hk.1.1.1.1.2, ⟨hk.1.1.1.2, ⟨hk.1.1.2, ⟨hk.1.2, hk.2⟩⟩⟩⟩⟩⟩⟩⟩, hk.1.1.1.1.1.1.1.2⟩))).2.1 (Kd.R_F (Kd.R_mono (ok' := (fun k_ => ((fun k_ => ((z2 k_ ∨ z3 k_) ∨ w.heap.size ≤ k_) ∧ some k_ ≠ (.slice Zi x16_4.length Zj : Value).ownBlock ∧ k_ ≠ j5 ∧ k_ ≠ j3 ∧ k_ ≠ j4 ∧ k_ ≠ q6 ∧ k_ ≠ q8 ∧ k_ ≠ q9 ∧ k_ ≠ q1)) k_ ∧ some k_ ≠ (j9 : Value).ownBlock)) (Kd.R_types (Kd.R_types (Kd.R_types (Kd.R_types (Kd.R_types (Kd.R_types (Kd.R_types (Kd.R_apart' (Kd.R_apart' (y0.out) (Kd.R_typed j8.out) (by decide)) (Kd.N_typed q2.out) (by decide)) q4.out (by decide)) q5.out (by decide)) j0.out (by decide)) j6.out (by decide)) j7.out (by decide)) z0.out (by decide)) z1.out (by decide)) (fun k_ hk => ⟨⟨(.inr (hk.1.1.1.1.1.1.1.1.1.1)), ⟨hk.1.1.1.1.1.1.1.1.2, ⟨hk.1.1.1.1.1.1.2, ⟨hk.1.1.1.1.1.2, ⟨hk.1.1.1.1.2, ⟨hk.1.1.1.2, ⟨hk.1.1.2, ⟨hk.1.2, hk.2⟩⟩⟩⟩⟩⟩⟩⟩, hk.1.1.1.1.1.1.1.2⟩))) (Kd.R_reads' (Kd.R_mono (ok' := (fun k_ => ((fun k_ => ((z2 k_ ∨ z3 k_) ∨ w.heap.size ≤ k_) ∧ some k_ ≠ (.slice Zi x16_4.length Zj : Value).ownBlock ∧ k_ ≠ j5 ∧ k_ ≠ j3 ∧ k_ ≠ j4 ∧ k_ ≠ q6 ∧ k_ ≠ q8 ∧ k_ ≠ q9 ∧ k_ ≠ q1)) k_ ∧ some k_ ≠ (j9 : Value).ownBlock)) (Kd.R_types (Kd.R_types (Kd.R_types (Kd.R_types (Kd.R_types (Kd.R_types (Kd.R_types (Kd.R_apart' (Kd.R_apart' (y1.out) (Kd.R_typed j8.out) (by decide)) (Kd.N_typed q2.out) (by decide)) q4.out (by decide)) q5.out (by decide)) j0.out (by decide)) j6.out (by decide)) j7.out (by decide)) z0.out (by decide)) z1.out (by decide)) (fun k_ hk => ⟨⟨(.inr (hk.1.1.1.1.1.1.1.1.1.1)), ⟨hk.1.1.1.1.1.1.1.1.2, ⟨hk.1.1.1.1.1.1.2, ⟨hk.1.1.1.1.1.2, ⟨hk.1.1.1.1.2, ⟨hk.1.1.1.2, ⟨hk.1.1.2, ⟨hk.1.2, hk.2⟩⟩⟩⟩⟩⟩⟩⟩, hk.1.1.1.1.1.1.1.2⟩))).2.1 (Kd.R_F (Kd.R_mono (ok' := (fun k_ => ((fun k_ => ((z2 k_ ∨ z3 k_) ∨ w.heap.size ≤ k_) ∧ some k_ ≠ (.slice Zi x16_4.length Zj : Value).ownBlock ∧ k_ ≠ j5 ∧ k_ ≠ j3 ∧ k_ ≠ j4 ∧ k_ ≠ q6 ∧ k_ ≠ q8 ∧ k_ ≠ q9 ∧ k_ ≠ q1)) k_ ∧ some k_ ≠ (j9 : Value).ownBlock)) (Kd.R_types (Kd.R_types (Kd.R_types (Kd.R_types (Kd.R_types (Kd.R_types (Kd.R_types (Kd.R_apart' (Kd.R_apart' (y1.out) (Kd.R_typed j8.out) (by decide)) (Kd.N_typed q2.out) (by decide)) q4.out (by decide)) q5.out (by decide)) j0.out (by decide)) j6.out (by decide)) j7.out (by decide)) z0.out (by decide)) z1.out (by decide)) (fun k_ hk => ⟨⟨(.inr (hk.1.1.1.1.1.1.1.1.1.1)), ⟨hk.1.1.1.1.1.1.1.1.2, ⟨hk.1.1.1.1.1.1.2, ⟨hk.1.1.1.1.1.2, ⟨hk.1.1.1.1.2, ⟨hk.1.1.1.2, ⟨hk.1.1.2, ⟨hk.1.2, hk.2⟩⟩⟩⟩⟩⟩⟩⟩, hk.1.1.1.1.1.1.1.2⟩))))); (case aB => exact (bl HB)); (case aF => exact (fun k_ hk => ⟨(.inr (Nat.le_trans (below_size (bl HB)) hk)), Kd.fresh' (Kd.R_lt (R_u j8.out)) k_ hk, Kd.freshB (Ub q4) k_ hk, Kd.freshB (Ub q5) k_ hk, Kd.freshB (Ub j0) k_ hk, Kd.freshB (Ub j6) k_ hk, Kd.freshB (Ub j7) k_ hk, Kd.freshB (Ub z0) k_ hk, Kd.freshB (Ub z1) k_ hk⟩)); (case aO => exact (by apply N_u; exact Nm q2.out)); (case aS => exact (below_size (bl HB))); (case aL => have := LMc204.out; omega); intro qt5 qt6 ho hb hg hat; rw [← Ny790.out] at ho; have Dk := Qaa.mk (ho); replace y2 := Qaa.mk (Kd.V_afterv (ok := (fun k_ => ((z2 k_ ∨ z3 k_) ∨ w.heap.size ≤ k_) ∧ some k_ ≠ (.slice Zi x16_4.length Zj : Value).ownBlock ∧ some k_ ≠ (.slice W9 Q1.length Wa : Value).ownBlock ∧ some k_ ≠ (.slice Wb y4.length Wc : Value).ownBlock ∧ some k_ ≠ (.slice Wd y5.length We : Value).ownBlock ∧ some k_ ≠ (.slice Wf y6.length Wg : Value).ownBlock ∧ some k_ ≠ (.slice Wh y7.length Wi : Value).ownBlock ∧ k_ ≠ j5 ∧ k_ ≠ j3 ∧ k_ ≠ j4 ∧ k_ ≠ q6 ∧ k_ ≠ q8 ∧ k_ ≠ q9 ∧ k_ ≠ q1)) (by apply V_u; exact Vm y2.out) hg hat); replace y3 := Qaa.mk (Kd.V_afterv (ok := (fun k_ => ((z2 k_ ∨ z3 k_) ∨ w.heap.size ≤ k_) ∧ some k_ ≠ (.slice Zi x16_4.length Zj : Value).ownBlock ∧ some k_ ≠ (.slice W9 Q1.length Wa : Value).ownBlock ∧ some k_ ≠ (.slice Wb y4.length Wc : Value).ownBlock ∧ some k_ ≠ (.slice Wd y5.length We : Value).ownBlock ∧ some k_ ≠ (.slice Wf y6.length Wg : Value).ownBlock ∧ some k_ ≠ (.slice Wh y7.length Wi : Value).ownBlock ∧ k_ ≠ j5 ∧ k_ ≠ j3 ∧ k_ ≠ j4 ∧ k_ ≠ q6 ∧ k_ ≠ q8 ∧ k_ ≠ q9 ∧ k_ ≠ q1)) (by apply V_u; exact Vm y3.out) hg hat); replace j8 := Qaa.mk (Kd.R_over' (R_u j8.out) (Kd.N_typed (N_u q2.out)) (by decide) hg); replace Q0 := Qaa.mk (Kd.V_afterv (ok := (fun k_ => ((z2 k_ ∨ z3 k_) ∨ w.heap.size ≤ k_) ∧ some k_ ≠ (.slice Zi x16_4.length Zj : Value).ownBlock ∧ some k_ ≠ (.slice W9 Q1.length Wa : Value).ownBlock ∧ some k_ ≠ (.slice Wb y4.length Wc : Value).ownBlock ∧ some k_ ≠ (.slice Wd y5.length We : Value).ownBlock ∧ some k_ ≠ (.slice Wf y6.length Wg : Value).ownBlock ∧ some k_ ≠ (.slice Wh y7.length Wi : Value).ownBlock ∧ k_ ≠ j5 ∧ k_ ≠ j3 ∧ k_ ≠ j4 ∧ k_ ≠ q6 ∧ k_ ≠ q8 ∧ k_ ≠ q9 ∧ k_ ≠ q1)) (by apply V_u; exact Vm Q0.out) hg hat); replace j1 := Qaa.mk (Kd.V_afterv (ok := (fun k_ => ((z2 k_ ∨ z3 k_) ∨ w.heap.size ≤ k_) ∧ some k_ ≠ (.slice Zi x16_4.length Zj : Value).ownBlock ∧ some k_ ≠ (.slice W9 Q1.length Wa : Value).ownBlock ∧ some k_ ≠ (.slice Wb y4.length Wc : Value).ownBlock ∧ some k_ ≠ (.slice Wd y5.length We : Value).ownBlock ∧ some k_ ≠ (.slice Wf y6.length Wg : Value).ownBlock ∧ some k_ ≠ (.slice Wh y7.length Wi : Value).ownBlock ∧ k_ ≠ j5 ∧ k_ ≠ j3 ∧ k_ ≠ j4 ∧ k_ ≠ q6 ∧ k_ ≠ q8 ∧ k_ ≠ q9 ∧ k_ ≠ q1)) (by apply V_u; exact Vm j1.out) hg hat); replace j2 := Qaa.mk (Kd.V_afterv (ok := (fun k_ => ((z2 k_ ∨ z3 k_) ∨ w.heap.size ≤ k_) ∧ some k_ ≠ (.slice Zi x16_4.length Zj : Value).ownBlock ∧ some k_ ≠ (.slice W9 Q1.length Wa : Value).ownBlock ∧ some k_ ≠ (.slice Wb y4.length Wc : Value).ownBlock ∧ some k_ ≠ (.slice Wd y5.length We : Value).ownBlock ∧ some k_ ≠ (.slice Wf y6.length Wg : Value).ownBlock ∧ some k_ ≠ (.slice Wh y7.length Wi : Value).ownBlock ∧ k_ ≠ j5 ∧ k_ ≠ j3 ∧ k_ ≠ j4 ∧ k_ ≠ q6 ∧ k_ ≠ q8 ∧ k_ ≠ q9 ∧ k_ ≠ q1)) (by apply V_u; exact Vm j2.out) hg hat); replace q4 := Qaa.mk (blk_grown (Ub q4) hg (Kd.N_ne q2.out q4.out (by decide))); replace q5 := Qaa.mk (blk_grown (Ub q5) hg (Kd.N_ne q2.out q5.out (by decide))); replace j0 := Qaa.mk (blk_grown (Ub j0) hg (Kd.N_ne q2.out j0.out (by decide))); replace j6 := Qaa.mk (blk_grown (Ub j6) hg (Kd.N_ne q2.out j6.out (by decide))); replace j7 := Qaa.mk (blk_grown (Ub j7) hg (Kd.N_away q2.out (fun _ hk => hk.1.1.1.1.1.1.2.2.2.2.2.2.1))); replace z0 := Qaa.mk (blk_grown (Ub z0) hg (Kd.N_away q2.out (fun _ hk => hk.1.1.1.1.1.1.2.2.2.2.2.2.2))); replace z1 := Qaa.mk (blk_grown (Ub z1) hg (Kd.N_away q2.out (fun _ hk => hk.2))); replace HB := Qaa.mk (hb); clear q2; clear y9; clear z8; clear z9; clear y0; clear y1; clear ho hb hg hat; obtain ⟨Wj, Wk, eo235⟩ := Kd.N_slice Dk.out; subst eo235; obtain ⟨q7x, q7y, q7z, q80, q81, q82, q83, q84⟩ := cf4 j6))
                      go_roundg k4
                      case measure => have := HK1.out; have := HK2.out; have := HK3.out; have := HK4.out; omega
                      case rel => exact ⟨(wrap64 (x81_2 + 1)), (y790), (.slice Wj y790.length Wk), (by first | rfl | (simp; done) | (simp [*]; done)), H', ⟨by have := HK1.out; have := HK2.out; have := HK3.out; have := HK4.out; omega⟩, ⟨by apply V_u; exact Vm (Kd.V_far (p := ⟨q6, 1, none⟩) (Kd.V_mono y2.out (fun k_ hk => (⟨hk, hk.1.2.2.2.2.2.2.2.2.2.2.1⟩ : _ ∧ k_ ≠ q6))) (fun _ hk => hk.2) (.slice Wj y790.length Wk))⟩, ⟨by apply V_u; exact Vm (Kd.V_far (p := ⟨q6, 1, none⟩) (Kd.V_mono y3.out (fun k_ hk => (⟨hk, hk.1.2.2.2.2.2.2.2.2.2.2.1⟩ : _ ∧ k_ ≠ q6))) (fun _ hk => hk.2) (.slice Wj y790.length Wk))⟩, ⟨by apply V_u; exact Vm (Kd.V_far (p := ⟨q6, 1, none⟩) (Kd.V_mono j1.out (fun k_ hk => (⟨hk, hk.1.2.2.2.2.2.2.2.2.2.2.1⟩ : _ ∧ k_ ≠ q6))) (fun _ hk => hk.2) (.slice Wj y790.length Wk))⟩, ⟨by apply V_u; exact Vm (Kd.V_far (p := ⟨q6, 1, none⟩) (Kd.V_mono j2.out (fun k_ hk => (⟨hk, hk.1.2.2.2.2.2.2.2.2.2.2.1⟩ : _ ∧ k_ ≠ q6))) (fun _ hk => hk.2) (.slice Wj y790.length Wk))⟩, ⟨by apply N_u; exact Nm (Kd.N_far (p := ⟨q6, 1, none⟩) (Kd.N_mono Dk.out (fun k_ hk => (⟨hk, hk.2.2.2.2.2.1⟩ : _ ∧ k_ ≠ q6))) (fun _ hk => hk.2) (.slice Wj y790.length Wk))⟩, ⟨by apply blk_u; refine blk_far ?_ Qz.out _; apply blk_u; exact q4.out⟩, ⟨by apply blk_u; refine blk_far ?_ Qt.out _; apply blk_u; exact q5.out⟩, ⟨by apply blk_u; refine blk_far ?_ Z0.out _; apply blk_u; exact j0.out⟩, ⟨by apply blk_u; refine blk_put (cs := #[.int .i64 (wrap64 ((z7.length : Int) + (z5.length : Int))), j9, .bool true, .slice none 0 0]) ?_ 1 _ rfl; apply blk_u; exact j6.out⟩, ⟨bl HB⟩⟩
                     ·
                      rw [if_neg Fv] at H
                      exact absurd H (by simp)
             ·
              rw [if_neg c69] at H
              exact absurd H (by simp)
            ·
             rw [if_neg c68] at H
             exact absurd H (by simp)
           ·
            rw [if_neg c67] at H
            exact absurd H (by simp)
          ·
           rw [if_neg c66] at H
           have Fm : decide (x81_2 < (q0.length : Int)) = false := decide_eq_false c66
           clear c66
           simp only [Option.some.injEq, Prod.mk.injEq] at H
           obtain ⟨rfl, rfl, rfl, rfl, rfl⟩ := H
           have qj1 := Jy.out
           have qj2 := Qz.out
           have qj3 := Ju.out
           have qj4 := Qt.out
           have qj5 := Jz.out
           have qj6 := Z0.out
           obtain ⟨q85, q86, q87, q88, q89, q8a, q8b, q8c⟩ := cf4 j6
           have qj7 := Xa.out
           have qj8 := X9.out
           have qj9 := Xc.out
           have qk0 := Xb.out
           obtain ⟨q8d, q8e, q8f, q8g, q8h, q8i, q8j, q8k⟩ := cf4 j0
           obtain ⟨Vq, Vr, eo244⟩ := Kd.N_slice q2.out
           subst eo244
           go_wp2
           refine bodyPost_ret (results_ct rfl _ _ j4 26 #[.int .i64 (wrap64 ((z7.length : Int) + (z5.length : Int))), .slice Vq z4.length Vr, .bool true, .slice none 0 0] (0, 0) _ rfl (by apply blk_u; refine blk_put (cs := #[.int .i64 (wrap64 ((z7.length : Int) + (z5.length : Int))), .slice Vq z4.length Vr, .bool true, .slice none 0 0]) ?_ 3 _ rfl; apply blk_u; refine blk_put (cs := #[.int .i64 (wrap64 ((z7.length : Int) + (z5.length : Int))), .slice Vq z4.length Vr, .bool Za, .slice none 0 0]) ?_ 2 _ rfl; apply blk_u; refine blk_put (cs := #[.int .i64 (wrap64 ((z7.length : Int) + (z5.length : Int))), .slice none 0 0, .bool Za, .slice none 0 0]) ?_ 1 _ rfl; apply blk_u; refine blk_put (cs := #[.int .i64 Zq, .slice none 0 0, .bool Za, .slice none 0 0]) ?_ 0 _ rfl; apply blk_u; exact j0.out) Try.underlying26 rfl (by kernel_rfl)) rfl ?_
           exact ⟨_, _, by first | rfl | (simp [errW_none, errW_some] <;> rfl) | (simp [*, errW_none, errW_some] <;> rfl), by apply N_u; exact Kd.N_mono (Kd.N_far (p := ⟨j4, 3, none⟩) (Kd.N_far (p := ⟨j4, 2, none⟩) (Kd.N_far (p := ⟨j4, 1, none⟩) (Kd.N_far (p := ⟨j4, 0, none⟩) (Kd.N_mono q2.out (fun k_ hk => (⟨hk, hk.2.2.2.1⟩ : _ ∧ k_ ≠ j4))) (fun _ hk => hk.2) (.int .i64 (wrap64 ((z7.length : Int) + (z5.length : Int))))) (fun _ hk => hk.2) (.slice Vq z4.length Vr)) (fun _ hk => hk.2) (.bool true)) (fun _ hk => hk.2) (.slice none 0 0)) (fun _ hk => ⟨hk.1.1, (by simp [Value.ownBlock])⟩), by first | exact Kd.R_nil _ _ _ _ _ | exact Kd.N_nil _ _ _ _ _ | exact Kd.V_nil _ _ _ _ _ | exact Kd.Q_nil _ _ _ _ _ | exact Kd.S_nil _ _ _ _ _, bl HB⟩
   ·
    rw [if_neg c7] at H
    simp only [Option.some.injEq, Prod.mk.injEq] at H
    exact absurd hz (by rw [← H.2.2.2.2]; first | exact c7 | decide)
  ·
   rw [if_neg c6] at H
   simp only [Option.some.injEq, Prod.mk.injEq] at H
   exact absurd hz (by rw [← H.2.2.2.2]; first | exact c6 | decide)
 ·
  rw [if_neg c4] at H
  simp only [Option.some.injEq, Prod.mk.injEq] at H
  exact absurd hz (by rw [← H.2.2.2.2]; first | exact c4 | decide)
end Go.Proofs.Ytphnmaobpefoiaa.XA
end
