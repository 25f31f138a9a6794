/- A part of the proof of: PartsGoTogether: for every columns, batch and n the law's call returns true, and what came in reads as before; no condition. -/
import Derived.Test.YtphnmaobpefoiaaPgz3
set_option linter.unusedVariables false
set_option linter.unusedSimpArgs false
section
namespace Go.Proofs.Ytphnmaobpefoiaa.XA
open Go.RowKit Go.Proofs.YtphnmaobpefoiaaXW Go.Proofs.YtphnmaobpefoiaaW.PrintWords Go.Proofs.YtphnmaobpefoiaaW.PrintLast Go.Proofs.YtphnmaobpefoiaaW.PrintMore
attribute [local go_sem] max2_int min2_int max_two min_two max_three min_three max_four min_four sleq
set_option linter.unusedVariables false
set_option linter.unusedSimpArgs false
def Qao.l0 : Nat → List Int → Int → Int → Option (List Int)
 | 0, _, _, _ => none
 | k + 1, x3, x11, x12 => if x12 < x11 then (if x3.length < 17592186044416 then (Qao.l0 k (x3 ++ [x12]) x11 (wrap64 (x12 + 1))) else (none)) else (some x3)
def Qao.f (k : Nat) (q1 : Int) (q4 : List (S39)) (j0 : Bool) (q0 : List Int) : Option (List Int) := if j0 = true then (Qao.l0 k ([] : List Int) q1 0) else (some q0)
set_option maxHeartbeats 8000000 in
set_option maxRecDepth 100000 in
theorem Qao.calls (k : Nat) (q1 : Int) (j1 : Option Addr) (j2 : Nat) (q4 : List (S39)) (j0 : Bool) (q9 : Nat → Prop) (q7 : Option Addr) (q8 : Nat) (q0 : List Int) (r : List Int) (w : World) (j4 : Kd.C k39 w j1 q4.length q4) (j5 : q4.length ≤ j2) (hs0_3 : Kd.V (Kd.int .i64) 3 w w.heap.size (fun k_ => q9 k_) (.slice q7 q0.length q8) q0) (h : Qao.f k q1 q4 j0 q0 = some r) :
  Calls Try.prog 22 #[.agg #[.int .i64 q1, .slice j1 q4.length j2, .bool j0, .slice q7 q0.length q8]] w fun e w' => ∃ v0_ : Value, e = .returned (v0_) ∧ Kd.V (Kd.int .i64) 3 w' w.heap.size (fun k_ => (q9 k_ ∨ w.heap.size ≤ k_)) v0_ r ∧ Below w.heap.size w w' := by
 have hu26 := Try.underlying26
 have y9 := Qaa.mk j4
 have Q0 := Qaa.mk j5
 clear j4 j5
 have q6 := Qaa.mk (show Kd.V (Kd.int .i64) 3 w w.heap.size (fun k_ => (q9 k_ ∨ w.heap.size ≤ k_)) (.slice q7 q0.length q8) q0 from Kd.V_mono hs0_3 (fun k_ hk => .inl hk))
 have HB := Qaa.mk (Below.refl w.heap.size w)
 have H : (if j0 = true then (Qao.l0 k ([] : List Int) q1 0) else (some q0)) = some r := h
 clear h
 by_cases c2 : j0 = true
 ·
  subst c2
  have H1 : (Qao.l0 k ([] : List Int) q1 0) = some r := by rw [if_pos rfl] at H; exact H
  clear H
  have H := H1
  clear H1
  have H' := Qaa.mk H
  clear H
  go_enter Try.func22, Try.ntmps22
  go_wp2_with (first | ((with_reducible refine gate_dst (N := 1) rfl ?_); refine bx 1 #[.int .i64 q1, .slice j1 q4.length j2, .bool true, .slice q7 q0.length q8] 26 ?_; intro q2 hg w3 hbox hb; have q3 := Qaa.mk (hbox); have z4 := Qaa.mk ((by rw [hg]; exact (below_size (bl HB)) : w.heap.size ≤ q2)); have z5 := Qaa.mk ((by rw [hg]; exact (below_size (bl HB)) : w.heap.size ≤ q2)); replace q6 := Qaa.mk (Kd.V_below (Kd.V_elderB (V_u q6.out) q2 (Nat.le_of_eq hg.symm)) hb); replace HB := bs HB hb; clear hb hbox hg; obtain ⟨j6, j7, j8, j9, z0, z1, z2, z3⟩ := cf4 q3))
  go_loopg [3, 12] k (fun kq v3 v12 w' => ∃ (x3_1 : List Int) (x12_1 : Int), v12 = .int .i64 x12_1 ∧ Qaa (Qao.l0 kq x3_1 q1 x12_1 = some r) ∧ Qaa (kq ≤ k) ∧ Qaa (Kd.R (Kd.int .i64) 3 w' w.heap.size (fun k_ => (w.heap.size ≤ k_)) v3 x3_1) ∧ Qaa (Kd.V (Kd.int .i64) 3 w' w.heap.size (fun k_ => (q9 k_ ∨ w.heap.size ≤ k_) ∧ some k_ ≠ (v3 : Value).ownBlock ∧ k_ ≠ q2) (.slice q7 q0.length q8) q0) ∧ Qaa (w'.heap[q2]? = some (.cells #[.int .i64 q1, (.slice j1 q4.length j2), .bool true, (.slice q7 q0.length q8)] 26 (0, 0))) ∧ Qaa (Below w.heap.size w w'))
  case atStart => exact ⟨(([] : List Int)), (0), (by first | rfl | (simp; done) | (simp [*]; done)), H', ⟨Nat.le_refl _⟩, ⟨by first | exact Kd.R_nil _ _ _ _ _ | exact Kd.N_nil _ _ _ _ _ | exact Kd.V_nil _ _ _ _ _ | exact Kd.Q_nil _ _ _ _ _ | exact Kd.S_nil _ _ _ _ _⟩, ⟨by apply V_u; exact Kd.V_mono q6.out (fun _ hk => ⟨hk.1, ⟨(by simp [Value.ownBlock]), hk.2⟩⟩)⟩, ⟨by apply blk_u; exact q3.out⟩, ⟨bl HB⟩⟩
  case round =>
   clear H'
   try clear c2
   try clear p2
   try clear j6
   try clear j7
   try clear j8
   try clear j9
   try clear z0
   try clear z1
   try clear z2
   try clear z3
   obtain ⟨x3_1, x12_1, rfl, HA, HK1, j3, q5, q3, HB⟩ := hrel
   cases gk with
   | zero => exact absurd HA.out (by simp [Qao.l0])
   | succ k1 =>
    have H := HA.out
    clear HA
    simp only [Qao.l0] at H
    by_cases c5 : x12_1 < q1
    ·
     rw [if_pos c5] at H
     have z7 : decide (x12_1 < q1) = true := decide_eq_true c5
     clear c5
     by_cases c6 : x3_1.length < 17592186044416
     ·
      rw [if_pos c6] at H
      have LMc6 := Qaa.mk c6
      clear c6
      obtain ⟨y237, hy237⟩ : ∃ y_ : List Int, y_ = (x3_1 ++ [x12_1]) := ⟨_, rfl⟩
      replace H : (Qao.l0 k1 y237 q1 (wrap64 (x12_1 + 1))) = some r := by first | (rw [hy237]; with_reducible exact H) | (have H2_ := (Option.bind_some _ _).symm.trans H; rw [hy237]; with_reducible exact H2_) | (have H2_ := (Option.bind_some _ _).symm.trans H; with_reducible exact H2_) | with_reducible exact H | (rw [hy237]; exact H) | exact H
      have Ny237 := Qaa.mk hy237
      clear hy237
      have H' := Qaa.mk H
      clear H
      go_wp2_with (first | ((with_reducible refine gate_builtin (b := .append) (xs := #[.tmp 15, .tmp 17]) rfl ?_); at_builtin; refine Kd.R_append (Kd.int .i64) (w0 := w) w.heap.size rfl (.tmp 15) (.tmp 17) 24 3 (.int .i64 0) 8 rfl Try.underlying24 info3 rfl (by decide) (by omega) u3 x3_1 x12_1 [.int .i64 x12_1] (fun k_ => (w.heap.size ≤ k_)) (fun _ => False) rfl rfl ?aP (fun _ hk => hk.elim) ?aF ?aO ?aB ?aS ?aL ?_; (case aP => exact rfl); (case aB => exact (bl HB)); (case aF => exact (fun k_ hk => (Nat.le_trans (below_size (bl HB)) hk))); (case aO => exact (R_u j3.out)); (case aS => exact (below_size (bl HB))); (case aL => have := LMc6.out; omega); intro Q1 w7 ho hb hg hat; rw [← Ny237.out] at ho; have z6 := Qaa.mk (ho); replace q5 := Qaa.mk (Kd.V_afterv (ok := (fun k_ => (q9 k_ ∨ w.heap.size ≤ k_) ∧ k_ ≠ q2)) (by apply V_u; exact Vm q5.out) hg hat); replace q3 := Qaa.mk (blk_grown (Ub q3) hg (Kd.R_ne j3.out q3.out (by decide))); replace HB := Qaa.mk (hb); clear j3; clear ho hb hg hat))
      go_roundg k1
      case measure => have := HK1.out; omega
      case rel => exact ⟨(y237), (wrap64 (x12_1 + 1)), (by first | rfl | (simp; done) | (simp [*]; done)), H', ⟨by have := HK1.out; omega⟩, ⟨by apply R_u; exact z6.out⟩, ⟨by apply V_u; exact Vm q5.out⟩, ⟨by apply blk_u; exact q3.out⟩, ⟨bl HB⟩⟩
     ·
      rw [if_neg c6] at H
      exact absurd H (by simp)
    ·
     rw [if_neg c5] at H
     have z7 : decide (x12_1 < q1) = false := decide_eq_false c5
     clear c5
     obtain rfl := Option.some.inj H
     go_wp2
     go_ret
     exact ⟨_, by first | rfl | (simp [errW_none, errW_some] <;> rfl) | (simp [*, errW_none, errW_some] <;> rfl), Kd.V_mono (Kd.R_V (R_u j3.out)) (fun k_ hk => by first | exact ⟨(.inr (hk.1)), hk.2⟩ | exact (.inr (hk))), bl HB⟩
 ·
  replace c2 := Bool.eq_false_iff.mpr c2
  subst c2
  have H1 : (some q0) = some r := by rw [if_neg (show ¬ (false = true) by decide)] at H; exact H
  clear H
  have H := H1
  clear H1
  obtain rfl := Option.some.inj H
  go_enter Try.func22, Try.ntmps22
  go_wp2_with (first | ((with_reducible refine gate_dst (N := 1) rfl ?_); refine bx 1 #[.int .i64 q1, .slice j1 q4.length j2, .bool false, .slice q7 q0.length q8] 26 ?_; intro q2 hg w8 hbox hb; have q3 := Qaa.mk (hbox); have z4 := Qaa.mk ((by rw [hg]; exact (below_size (bl HB)) : w.heap.size ≤ q2)); have z5 := Qaa.mk ((by rw [hg]; exact (below_size (bl HB)) : w.heap.size ≤ q2)); replace q6 := Qaa.mk (Kd.V_below (Kd.V_elderB (V_u q6.out) q2 (Nat.le_of_eq hg.symm)) hb); replace HB := bs HB hb; clear hb hbox hg; obtain ⟨z8, z9, y3, y4, y5, y6, y7, y8⟩ := cf4 q3))
  go_ret
  exact ⟨_, by first | rfl | (simp [errW_none, errW_some] <;> rfl) | (simp [*, errW_none, errW_some] <;> rfl), by apply V_u; exact Kd.V_mono q6.out (fun _ hk => hk.1), bl HB⟩
end Go.Proofs.Ytphnmaobpefoiaa.XA
end
section
namespace Go.Proofs.Ytphnmaobpefoiaa.XA
open Go.RowKit Go.Proofs.YtphnmaobpefoiaaXW Go.Proofs.YtphnmaobpefoiaaW.PrintWords Go.Proofs.YtphnmaobpefoiaaW.PrintLast Go.Proofs.YtphnmaobpefoiaaW.PrintMore
attribute [local go_sem] max2_int min2_int max_two min_two max_three min_three max_four min_four sleq
set_option linter.unusedVariables false
set_option linter.unusedSimpArgs false
mutual
def Qam.l0 : Nat → List Int → List (S39) → Int → Int → Int → List (S39) → Bool → Option (Int × (List (S39)) × Bool × List Int)
 | 0, _, _, _, _, _, _, _ => none
 | k + 1, x1, x16, x17, x18, Z1, Qt, Z2 => if x18 < x17 then (if 0 ≤ x18 then (if x18 < (x16.length : Int) then (Qam.l1 k x1 ([] : List (S41)) x16 x17 x18 x1 (x1.length : Int) 0 Z1 Qt Z2 ((rd_T39 x16 x18).f0) ((rd_T39 x16 x18).f1) ((rd_T39 x16 x18).f2) ((rd_T39 x16 x18).f3) ((rd_T39 x16 x18).f4) ((rd_T39 x16 x18).f5)) else (none)) else (none)) else (some (Z1, Qt, Z2, ([] : List Int)))
def Qam.l1 : Nat → List Int → List (S41) → List (S39) → Int → Int → List Int → Int → Int → Int → List (S39) → Bool → Int → List Bool → List Int → List ByteArray → List ByteArray → List Int → Option (Int × (List (S39)) × Bool × List Int)
 | 0, _, _, _, _, _, _, _, _, _, _, _, _, _, _, _, _, _ => none
 | k + 1, x1, x8, x16, x17, x18, x22, x23, x24, Z1, Qt, Z2, Zo, Zz, J0, J1, J2, J3 => if x24 < x23 then (if 0 ≤ x24 then (if x24 < (x22.length : Int) then ((Qat.f Zo Zz J0 J1 J2 J3 (rd x22 x24)).bind fun Y0 => (if x8.length < 4398046511104 then (Qam.l1 k x1 (x8 ++ [(⟨Y0.1, Y0.2.1, Y0.2.2⟩ : S41)]) x16 x17 x18 x22 x23 (wrap64 (x24 + 1)) Z1 Qt Z2 Zo Zz J0 J1 J2 J3) else (none))) else (none)) else (none)) else ((Qax.f k Zo x8).bind fun Qq => ((Qar.f Zo Zz J0 J1 J2 J3).bind fun J4 => (if J4 = true then ((Qai.f k Qq.1 Qq.2.1 Qq.2.2.1 Qq.2.2.2.1 Qq.2.2.2.2.1 Qq.2.2.2.2.2).bind fun z5 => (if Qt.length < 1099511627776 then (Qam.l0 k x1 x16 x17 (wrap64 (x18 + 1)) Z1 (Qt ++ [(⟨z5.1, z5.2.1, z5.2.2.1, z5.2.2.2.1, z5.2.2.2.2.1, z5.2.2.2.2.2⟩ : S39)]) Z2) else (none))) else (if Qt.length < 1099511627776 then (Qam.l0 k x1 x16 x17 (wrap64 (x18 + 1)) Z1 (Qt ++ [(⟨Qq.1, Qq.2.1, Qq.2.2.1, Qq.2.2.2.1, Qq.2.2.2.2.1, Qq.2.2.2.2.2⟩ : S39)]) Z2) else (none)))))
end
def Qam.f (k : Nat) (J5 : Int) (q2 : List (S39)) (J6 : Bool) (Zc : List Int) (l1 : List Int) : Option (Int × (List (S39)) × Bool × List Int) := Qam.l0 k l1 q2 (q2.length : Int) 0 (l1.length : Int) ([] : List (S39)) true
set_option maxHeartbeats 8000000 in
set_option maxRecDepth 100000 in
theorem Qam.calls (k : Nat) (J5 : Int) (Y1 : Option Addr) (Jp : Nat) (q2 : List (S39)) (J6 : Bool) (Jq : Option Addr) (Jr : Nat) (Zc : List Int) (A1 : Option Addr) (c1 : Nat) (l1 : List Int) (r1 : Int) (r2 : List (S39)) (r3 : Bool) (r4 : List Int) (w : World) (Yc : Kd.C k39 w Y1 q2.length q2) (Yd : q2.length ≤ Jp) (Ye : Kd.C (Kd.int .i64) w Jq Zc.length Zc) (Yf : Zc.length ≤ Jr) (hr1 : Kd.C (Kd.int .i64) w A1 l1.length l1) (hc1 : l1.length ≤ c1) (h : Qam.f k J5 q2 J6 Zc l1 = some (r1, r2, r3, r4)) :
  Calls Try.prog 35 #[.agg #[.int .i64 J5, .slice Y1 q2.length Jp, .bool J6, .slice Jq Zc.length Jr], .slice A1 l1.length c1] w fun e w' => ∃ v1_ v3_ : Value, e = .returned (.agg #[.int .i64 r1, v1_, .bool r3, v3_]) ∧ Kd.N k39 39 w' w.heap.size (fun k_ => (w.heap.size ≤ k_) ∧ some k_ ≠ (v3_ : Value).ownBlock) v1_ r2 ∧ Kd.R (Kd.int .i64) 3 w' w.heap.size (fun k_ => (w.heap.size ≤ k_)) v3_ r4 ∧ Below w.heap.size w w' := by
 have hu26 := Try.underlying26
 have hu39 := Try.underlying39
 have X7 := Qaa.mk Yc
 have Dy := Qaa.mk Yd
 clear Yc Yd
 have Dz := Qaa.mk Ye
 have K0 := Qaa.mk Yf
 clear Ye Yf
 have Dv := Qaa.mk hr1
 have HC1 := Qaa.mk hc1
 clear hr1 hc1
 have HB := Qaa.mk (Below.refl w.heap.size w)
 have H : (Qam.l0 k l1 q2 (q2.length : Int) 0 (l1.length : Int) ([] : List (S39)) true) = some (r1, r2, r3, r4) := h
 clear h
 have H' := Qaa.mk H
 clear H
 go_enter Try.func35, Try.ntmps35
 go_wp2_with (first | ((with_reducible refine gate_dst (N := 2) rfl ?_); refine bx 2 #[.int .i64 J5, .slice Y1 q2.length Jp, .bool J6, .slice Jq Zc.length Jr] 26 ?_; intro j5 hg w3 hbox hb; have q3 := Qaa.mk (hbox); have K1 := Qaa.mk ((by rw [hg]; exact (below_size (bl HB)) : w.heap.size ≤ j5)); have K2 := Qaa.mk ((by rw [hg]; exact (below_size (bl HB)) : w.heap.size ≤ j5)); replace HB := bs HB hb; clear hb hbox hg) | ((with_reducible refine gate_dst (N := 4) rfl ?_); refine bx 4 #[.int .i64 0, .slice none 0 0, .bool false, .slice none 0 0] 26 ?_; intro j1 hg w4 hbox hb; have q4 := Qaa.mk (hbox); have K3 := Qaa.mk ((by rw [hg]; exact (below_size (bl HB)) : w.heap.size ≤ j1)); have K4 := Qaa.mk ((by rw [hg]; exact (below_size (bl HB)) : w.heap.size ≤ j1)); have Jl := Qaa.mk ((by rw [hg]; exact Nat.ne_of_lt (blk_lt (Ub q3)) : j5 ≠ j1)); have Jm := Qaa.mk ((by rw [hg]; exact Nat.ne_of_gt (blk_lt (Ub q3)) : j1 ≠ j5)); replace q3 := Bb q3 hb; replace HB := bs HB hb; clear hb hbox hg) | ((with_reducible refine gate_dst (N := 5) rfl ?_); refine bx 5 #[.int .i64 0, .slice none 0 0, .bool false, .slice none 0 0] 26 ?_; intro j3 hg w5 hbox hb; have q5 := Qaa.mk (hbox); have K5 := Qaa.mk ((by rw [hg]; exact (below_size (bl HB)) : w.heap.size ≤ j3)); have K6 := Qaa.mk ((by rw [hg]; exact (below_size (bl HB)) : w.heap.size ≤ j3)); have Q0 := Qaa.mk ((by rw [hg]; exact Nat.ne_of_lt (blk_lt (Ub q3)) : j5 ≠ j3)); have Z5 := Qaa.mk ((by rw [hg]; exact Nat.ne_of_gt (blk_lt (Ub q3)) : j3 ≠ j5)); have Q1 := Qaa.mk ((by rw [hg]; exact Nat.ne_of_lt (blk_lt (Ub q4)) : j1 ≠ j3)); have Z6 := Qaa.mk ((by rw [hg]; exact Nat.ne_of_gt (blk_lt (Ub q4)) : j3 ≠ j1)); replace q3 := Bb q3 hb; replace q4 := Bb q4 hb; replace HB := bs HB hb; clear hb hbox hg; have q0s := Z5.out; have q0t := Q0.out; have q0u := Z6.out; have q0v := Q1.out; obtain ⟨Y4, Y5, Y6, Y7, Y8, Y9, Ya, Yb⟩ := cf4 q5; have q0w := Jl.out; have q0x := Jm.out; obtain ⟨Js, Jt, Ju, Jv, Jw, Jx, Jy, Jz⟩ := cf4 q3))
 go_loopg [18] k (fun kq v18 w' => ∃ (x18_1 : Int) (q9 : List (S39)) (j4 : Value), v18 = .int .i64 x18_1 ∧ Qaa (Qam.l0 kq l1 q2 (q2.length : Int) x18_1 (l1.length : Int) q9 true = some (r1, r2, r3, r4)) ∧ Qaa (kq ≤ k) ∧ Qaa (Kd.N k39 39 w' w.heap.size (fun k_ => (w.heap.size ≤ k_) ∧ k_ ≠ j5 ∧ k_ ≠ j1 ∧ k_ ≠ j3) j4 q9) ∧ Qaa (w'.heap[j5]? = some (.cells #[.int .i64 J5, (.slice Y1 q2.length Jp), .bool J6, (.slice Jq Zc.length Jr)] 26 (0, 0))) ∧ Qaa (w'.heap[j1]? = some (.cells #[.int .i64 0, (.slice none 0 0), .bool false, (.slice none 0 0)] 26 (0, 0))) ∧ Qaa (w'.heap[j3]? = some (.cells #[.int .i64 (l1.length : Int), j4, .bool true, (.slice none 0 0)] 26 (0, 0))) ∧ Qaa (Below w.heap.size w w'))
 case atStart => exact ⟨(0), (([] : List (S39))), (.slice none 0 0), (by first | rfl | (simp; done) | (simp [*]; done)), H', ⟨Nat.le_refl _⟩, ⟨by first | exact Kd.S_nil _ _ _ _ _ | exact Kd.N_nil _ _ _ _ _ | exact Kd.V_nil _ _ _ _ _ | exact Kd.Q_nil _ _ _ _ _ | exact Kd.R_nil _ _ _ _ _⟩, ⟨by apply blk_u; refine blk_far ?_ Q0.out _; apply blk_u; refine blk_far ?_ Q0.out _; apply blk_u; refine blk_far ?_ Q0.out _; apply blk_u; refine blk_far ?_ Q0.out _; apply blk_u; exact q3.out⟩, ⟨by apply blk_u; refine blk_far ?_ Q1.out _; apply blk_u; refine blk_far ?_ Q1.out _; apply blk_u; refine blk_far ?_ Q1.out _; apply blk_u; refine blk_far ?_ Q1.out _; apply blk_u; exact q4.out⟩, ⟨by apply blk_u; refine blk_put (cs := #[.int .i64 (l1.length : Int), .slice none 0 0, .bool true, .slice none 0 0]) ?_ 3 _ rfl; apply blk_u; refine blk_put (cs := #[.int .i64 (l1.length : Int), .slice none 0 0, .bool false, .slice none 0 0]) ?_ 2 _ rfl; apply blk_u; refine blk_put (cs := #[.int .i64 (l1.length : Int), .slice none 0 0, .bool false, .slice none 0 0]) ?_ 1 _ rfl; apply blk_u; refine blk_put (cs := #[.int .i64 0, .slice none 0 0, .bool false, .slice none 0 0]) ?_ 0 _ rfl; apply blk_u; exact q5.out⟩, ⟨bl HB⟩⟩
 case round =>
  clear H'
  try clear c1
  try clear p2
  try clear c3
  try clear c6
  try clear c7
  try clear c9
  try clear Js
  try clear Jt
  try clear Ju
  try clear Jv
  try clear Y4
  try clear Y5
  try clear Y6
  try clear Y7
  try clear Jw
  try clear Jx
  try clear Jy
  try clear Jz
  try clear Y8
  try clear Y9
  try clear Ya
  try clear Yb
  obtain ⟨x18_1, q9, j4, rfl, HA, HK1, q0, q3, q4, q5, HB⟩ := hrel
  cases gk with
  | zero => exact absurd HA.out (by simp [Qam.l0])
  | succ k1 =>
   have H := HA.out
   clear HA
   simp only [Qam.l0] at H
   by_cases c11 : x18_1 < (q2.length : Int)
   ·
    rw [if_pos c11] at H
    have Yg : decide (x18_1 < (q2.length : Int)) = true := decide_eq_true c11
    clear c11
    by_cases c12 : 0 ≤ x18_1
    ·
     rw [if_pos c12] at H
     have X8 : decide (0 ≤ x18_1) = true := decide_eq_true c12
     clear c12
     by_cases c13 : x18_1 < (q2.length : Int)
     ·
      rw [if_pos c13] at H
      have X9 : decide (x18_1 < (q2.length : Int)) = true := decide_eq_true c13
      clear c13
      have H' := Qaa.mk H
      clear H
      have p646 : 0 ≤ (x18_1 : Int) := of_decide_eq_true (by first | (with_reducible assumption) | assumption)
      have q646 : x18_1 < (q2.length : Int) := of_decide_eq_true (by first | (with_reducible assumption) | assumption)
      obtain ⟨ad646, Qu, Qv, Qz, Z0, Z3, Z4, Za, Zb, Ze, Zf, e646, Zp, Zq, Zr, Zs, Zt, Zu, hl646_1, hi646_1, hl646_2, hi646_2, hl646_3, hi646_3, hl646_4, hi646_4, hl646_5, hi646_5⟩ := at_T39 X7.out x18_1 p646 q646
      cases e646
      replace Zp := (HB.out.cell (World.block_lt_of_cell? w _ Zp)).trans Zp
      replace Zq := (HB.out.cell (World.block_lt_of_cell? w _ Zq)).trans Zq
      replace Zr := (HB.out.cell (World.block_lt_of_cell? w _ Zr)).trans Zr
      replace Zs := (HB.out.cell (World.block_lt_of_cell? w _ Zs)).trans Zs
      replace Zt := (HB.out.cell (World.block_lt_of_cell? w _ Zt)).trans Zt
      replace Zu := (HB.out.cell (World.block_lt_of_cell? w _ Zu)).trans Zu
      have J7 := Qaa.mk hi646_1
      have J8 := Qaa.mk hl646_1
      clear hi646_1 hl646_1
      have J9 := Qaa.mk hi646_2
      have Ja := Qaa.mk hl646_2
      clear hi646_2 hl646_2
      have Jb := Qaa.mk hi646_3
      have Jc := Qaa.mk hl646_3
      clear hi646_3 hl646_3
      have Jd := Qaa.mk hi646_4
      have Je := Qaa.mk hl646_4
      clear hi646_4 hl646_4
      have Jf := Qaa.mk hi646_5
      have Jg := Qaa.mk hl646_5
      clear hi646_5 hl646_5
      replace p646 := eq_true p646
      replace q646 := eq_true q646
      go_wp2_with (first | ((with_reducible refine gate_dst (N := 7) rfl ?_); refine bx 7 #[.int .i64 0, .slice none 0 0, .slice none 0 0, .slice none 0 0, .slice none 0 0, .slice none 0 0] 39 ?_; intro j2 hg w14 hbox hb; have q8 := Qaa.mk (hbox); have K7 := Qaa.mk ((by rw [hg]; exact (below_size (bl HB)) : w.heap.size ≤ j2)); have K8 := Qaa.mk ((by rw [hg]; exact (below_size (bl HB)) : w.heap.size ≤ j2)); have Q2 := Qaa.mk ((by rw [hg]; exact Nat.ne_of_lt (blk_lt (Ub q3)) : j5 ≠ j2)); have Z7 := Qaa.mk ((by rw [hg]; exact Nat.ne_of_gt (blk_lt (Ub q3)) : j2 ≠ j5)); have Q3 := Qaa.mk ((by rw [hg]; exact Nat.ne_of_lt (blk_lt (Ub q4)) : j1 ≠ j2)); have Z8 := Qaa.mk ((by rw [hg]; exact Nat.ne_of_gt (blk_lt (Ub q4)) : j2 ≠ j1)); have Q4 := Qaa.mk ((by rw [hg]; exact Nat.ne_of_lt (blk_lt (Ub q5)) : j3 ≠ j2)); have Z9 := Qaa.mk ((by rw [hg]; exact Nat.ne_of_gt (blk_lt (Ub q5)) : j2 ≠ j3)); replace q0 := Qaa.mk (Kd.N_below (Kd.N_elderB (N_u q0.out) j2 (Nat.le_of_eq hg.symm)) hb); replace q3 := Bb q3 hb; replace q4 := Bb q4 hb; replace q5 := Bb q5 hb; replace HB := bs HB hb; clear hb hbox hg; have K9 := Z7.out; have Ka := Q2.out; have Kb := Z8.out; have Kc := Q3.out; have Ke := Z9.out; have Kf := Q4.out; obtain ⟨Yj, Yk, Yl, Ym, Yn, Yo, Yp, Yq, Yr, Ys, Yt, Yu⟩ := cf6 q8))
      go_loopg [8, 24] k1 (fun kq v8 v24 w' => ∃ (x8_2 : List (S41)) (x24_2 : Int), v24 = .int .i64 x24_2 ∧ Qaa (Qam.l1 kq l1 x8_2 q2 (q2.length : Int) x18_1 l1 (l1.length : Int) x24_2 (l1.length : Int) q9 true ((rd_T39 q2 x18_1).f0) ((rd_T39 q2 x18_1).f1) ((rd_T39 q2 x18_1).f2) ((rd_T39 q2 x18_1).f3) ((rd_T39 q2 x18_1).f4) ((rd_T39 q2 x18_1).f5) = some (r1, r2, r3, r4)) ∧ Qaa (kq ≤ k1) ∧ Qaa (Kd.R k41 41 w' w.heap.size (fun k_ => (w.heap.size ≤ k_)) v8 x8_2) ∧ Qaa (Kd.N k39 39 w' w.heap.size (fun k_ => (w.heap.size ≤ k_) ∧ some k_ ≠ (v8 : Value).ownBlock ∧ k_ ≠ j5 ∧ k_ ≠ j1 ∧ k_ ≠ j3 ∧ k_ ≠ j2) j4 q9) ∧ Qaa (w'.heap[j5]? = some (.cells #[.int .i64 J5, (.slice (some ad646) q2.length Jp), .bool J6, (.slice Jq Zc.length Jr)] 26 (0, 0))) ∧ Qaa (w'.heap[j1]? = some (.cells #[.int .i64 0, (.slice none 0 0), .bool false, (.slice none 0 0)] 26 (0, 0))) ∧ Qaa (w'.heap[j3]? = some (.cells #[.int .i64 (l1.length : Int), j4, .bool true, (.slice none 0 0)] 26 (0, 0))) ∧ Qaa (w'.heap[j2]? = some (.cells #[.int .i64 ((rd_T39 q2 x18_1).f0), (.slice Qu ((rd_T39 q2 x18_1).f1).length Qv), (.slice Qz ((rd_T39 q2 x18_1).f2).length Z0), (.slice Z3 ((rd_T39 q2 x18_1).f3).length Z4), (.slice Za ((rd_T39 q2 x18_1).f4).length Zb), (.slice Ze ((rd_T39 q2 x18_1).f5).length Zf)] 39 (0, 0))) ∧ Qaa (Below w.heap.size w w'))
      case atStart => exact ⟨(([] : List (S41))), (0), (by first | rfl | (simp; done) | (simp [*]; done)), H', ⟨Nat.le_refl _⟩, ⟨by first | exact Kd.R_nil _ _ _ _ _ | exact Kd.N_nil _ _ _ _ _ | exact Kd.V_nil _ _ _ _ _ | exact Kd.Q_nil _ _ _ _ _ | exact Kd.S_nil _ _ _ _ _⟩, ⟨by apply N_u; exact Kd.N_mono (Kd.N_far (p := ⟨j2, 5, none⟩) (Kd.N_far (p := ⟨j2, 4, none⟩) (Kd.N_far (p := ⟨j2, 3, none⟩) (Kd.N_far (p := ⟨j2, 2, none⟩) (Kd.N_far (p := ⟨j2, 1, none⟩) (Kd.N_far (p := ⟨j2, 0, none⟩) (Kd.N_mono q0.out (fun k_ hk => (⟨hk, hk.2⟩ : _ ∧ k_ ≠ j2))) (fun _ hk => hk.2) (.int .i64 ((rd_T39 q2 x18_1).f0))) (fun _ hk => hk.2) (.slice Qu ((rd_T39 q2 x18_1).f1).length Qv)) (fun _ hk => hk.2) (.slice Qz ((rd_T39 q2 x18_1).f2).length Z0)) (fun _ hk => hk.2) (.slice Z3 ((rd_T39 q2 x18_1).f3).length Z4)) (fun _ hk => hk.2) (.slice Za ((rd_T39 q2 x18_1).f4).length Zb)) (fun _ hk => hk.2) (.slice Ze ((rd_T39 q2 x18_1).f5).length Zf)) (fun _ hk => ⟨hk.1.1.1, ⟨(by simp [Value.ownBlock]), ⟨hk.1.1.2.1, ⟨hk.1.1.2.2.1, ⟨hk.1.1.2.2.2, hk.1.2⟩⟩⟩⟩⟩)⟩, ⟨by apply blk_u; refine blk_far ?_ Q2.out _; apply blk_u; refine blk_far ?_ Q2.out _; apply blk_u; refine blk_far ?_ Q2.out _; apply blk_u; refine blk_far ?_ Q2.out _; apply blk_u; refine blk_far ?_ Q2.out _; apply blk_u; refine blk_far ?_ Q2.out _; apply blk_u; exact q3.out⟩, ⟨by apply blk_u; refine blk_far ?_ Q3.out _; apply blk_u; refine blk_far ?_ Q3.out _; apply blk_u; refine blk_far ?_ Q3.out _; apply blk_u; refine blk_far ?_ Q3.out _; apply blk_u; refine blk_far ?_ Q3.out _; apply blk_u; refine blk_far ?_ Q3.out _; apply blk_u; exact q4.out⟩, ⟨by apply blk_u; refine blk_far ?_ Q4.out _; apply blk_u; refine blk_far ?_ Q4.out _; apply blk_u; refine blk_far ?_ Q4.out _; apply blk_u; refine blk_far ?_ Q4.out _; apply blk_u; refine blk_far ?_ Q4.out _; apply blk_u; refine blk_far ?_ Q4.out _; apply blk_u; exact q5.out⟩, ⟨by apply blk_u; refine blk_put (cs := #[.int .i64 ((rd_T39 q2 x18_1).f0), .slice Qu ((rd_T39 q2 x18_1).f1).length Qv, .slice Qz ((rd_T39 q2 x18_1).f2).length Z0, .slice Z3 ((rd_T39 q2 x18_1).f3).length Z4, .slice Za ((rd_T39 q2 x18_1).f4).length Zb, .slice none 0 0]) ?_ 5 _ rfl; apply blk_u; refine blk_put (cs := #[.int .i64 ((rd_T39 q2 x18_1).f0), .slice Qu ((rd_T39 q2 x18_1).f1).length Qv, .slice Qz ((rd_T39 q2 x18_1).f2).length Z0, .slice Z3 ((rd_T39 q2 x18_1).f3).length Z4, .slice none 0 0, .slice none 0 0]) ?_ 4 _ rfl; apply blk_u; refine blk_put (cs := #[.int .i64 ((rd_T39 q2 x18_1).f0), .slice Qu ((rd_T39 q2 x18_1).f1).length Qv, .slice Qz ((rd_T39 q2 x18_1).f2).length Z0, .slice none 0 0, .slice none 0 0, .slice none 0 0]) ?_ 3 _ rfl; apply blk_u; refine blk_put (cs := #[.int .i64 ((rd_T39 q2 x18_1).f0), .slice Qu ((rd_T39 q2 x18_1).f1).length Qv, .slice none 0 0, .slice none 0 0, .slice none 0 0, .slice none 0 0]) ?_ 2 _ rfl; apply blk_u; refine blk_put (cs := #[.int .i64 ((rd_T39 q2 x18_1).f0), .slice none 0 0, .slice none 0 0, .slice none 0 0, .slice none 0 0, .slice none 0 0]) ?_ 1 _ rfl; apply blk_u; refine blk_put (cs := #[.int .i64 0, .slice none 0 0, .slice none 0 0, .slice none 0 0, .slice none 0 0, .slice none 0 0]) ?_ 0 _ rfl; apply blk_u; exact q8.out⟩, ⟨bl HB⟩⟩
      case round =>
       clear H'
       try clear c1
       try clear p2
       try clear c3
       try clear c6
       try clear p6
       try clear q6
       try clear hx6
       try clear c7
       try clear c9
       try clear c11
       try clear Yg
       try clear c12
       try clear X8
       try clear c13
       try clear X9
       try clear c15
       try clear c16
       try clear c17
       try clear Js
       try clear Jt
       try clear Ju
       try clear Jv
       try clear Yj
       try clear Yk
       try clear Yl
       try clear Ym
       try clear Yn
       try clear Yo
       try clear Y4
       try clear Y5
       try clear Y6
       try clear Y7
       try clear Jw
       try clear Jx
       try clear Jy
       try clear Jz
       try clear Yp
       try clear Yq
       try clear Yr
       try clear Ys
       try clear Yt
       try clear Yu
       try clear Y8
       try clear Y9
       try clear Ya
       try clear Yb
       try clear Zp
       try clear Zq
       try clear Zr
       try clear Zs
       try clear Zt
       try clear Zu
       try clear p2
       try clear p646
       try clear q646
       obtain ⟨x8_2, x24_2, rfl, HA, HK2, j0, q0, q3, q4, q5, q8, HB⟩ := hrel
       cases gk with
       | zero => exact absurd HA.out (by simp [Qam.l1])
       | succ k2 =>
        have H := HA.out
        clear HA
        simp only [Qam.l1] at H
        by_cases c19 : x24_2 < (l1.length : Int)
        ·
         rw [if_pos c19] at H
         have Xa : decide (x24_2 < (l1.length : Int)) = true := decide_eq_true c19
         clear c19
         by_cases c20 : 0 ≤ x24_2
         ·
          rw [if_pos c20] at H
          have Kg : decide (0 ≤ x24_2) = true := decide_eq_true c20
          clear c20
          by_cases c21 : x24_2 < (l1.length : Int)
          ·
           rw [if_pos c21] at H
           have Kh : decide (x24_2 < (l1.length : Int)) = true := decide_eq_true c21
           clear c21
           replace H := Option.bind_eq_some_iff.mp H
           obtain ⟨⟨Jh, Ji, Jj⟩, Yv, H⟩ := H
           replace H : (if x8_2.length < 4398046511104 then (Qam.l1 k2 l1 (x8_2 ++ [(⟨Jh, Ji, Jj⟩ : S41)]) q2 (q2.length : Int) x18_1 l1 (l1.length : Int) (wrap64 (x24_2 + 1)) (l1.length : Int) q9 true ((rd_T39 q2 x18_1).f0) ((rd_T39 q2 x18_1).f1) ((rd_T39 q2 x18_1).f2) ((rd_T39 q2 x18_1).f3) ((rd_T39 q2 x18_1).f4) ((rd_T39 q2 x18_1).f5)) else (none)) = some (r1, r2, r3, r4) := H
           have A22 := Qaa.mk Yv
           clear Yv
           by_cases c23 : x8_2.length < 4398046511104
           ·
            rw [if_pos c23] at H
            have LMc23 := Qaa.mk c23
            clear c23
            obtain ⟨y652, hy652⟩ : ∃ y_ : List (S41), y_ = (x8_2 ++ [(⟨Jh, Ji, Jj⟩ : S41)]) := ⟨_, rfl⟩
            replace H : (Qam.l1 k2 l1 y652 q2 (q2.length : Int) x18_1 l1 (l1.length : Int) (wrap64 (x24_2 + 1)) (l1.length : Int) q9 true ((rd_T39 q2 x18_1).f0) ((rd_T39 q2 x18_1).f1) ((rd_T39 q2 x18_1).f2) ((rd_T39 q2 x18_1).f3) ((rd_T39 q2 x18_1).f4) ((rd_T39 q2 x18_1).f5)) = some (r1, r2, r3, r4) := by first | (rw [hy652]; with_reducible exact H) | (have H2_ := (Option.bind_some _ _).symm.trans H; rw [hy652]; with_reducible exact H2_) | (have H2_ := (Option.bind_some _ _).symm.trans H; with_reducible exact H2_) | with_reducible exact H | (rw [hy652]; exact H) | exact H
            have Ny652 := Qaa.mk hy652
            clear hy652
            have H' := Qaa.mk H
            clear H
            have p648 : 0 ≤ (x24_2 : Int) := of_decide_eq_true (by first | (with_reducible assumption) | assumption)
            have q648 : x24_2 < (l1.length : Int) := of_decide_eq_true (by first | (with_reducible assumption) | assumption)
            obtain ⟨ad648, e648, Jk⟩ := Kd.at_int Dv.out x24_2 p648 q648
            cases e648
            replace Jk := (HB.out.cell (World.block_lt_of_cell? w _ Jk)).trans Jk
            replace p648 := eq_true p648
            replace q648 := eq_true q648
            have Ki := Z7.out
            have Kj := Q2.out
            have Kk := Z8.out
            have Kl := Q3.out
            have Km := Z9.out
            have Kn := Q4.out
            obtain ⟨W1, W2, W3, W4, W5, W6, W7, W8, W9, Wa, Wb, Wc⟩ := cf6 q8
            go_wp2_with (first | ((with_reducible refine gate_callee (f := 26) rfl ?_); refine gL (some 31) Try.func26 #[.agg #[.int .i64 ((rd_T39 q2 x18_1).f0), .slice Qu ((rd_T39 q2 x18_1).f1).length Qv, .slice Qz ((rd_T39 q2 x18_1).f2).length Z0, .slice Z3 ((rd_T39 q2 x18_1).f3).length Z4, .slice Za ((rd_T39 q2 x18_1).f4).length Zb, .slice Ze ((rd_T39 q2 x18_1).f5).length Zf], .int .i64 (rd l1 x24_2)] ?_; (with_reducible refine (Qat.calls ((rd_T39 q2 x18_1).f0) _ _ ((rd_T39 q2 x18_1).f1) _ _ ((rd_T39 q2 x18_1).f2) _ _ ((rd_T39 q2 x18_1).f3) _ _ ((rd_T39 q2 x18_1).f4) _ _ ((rd_T39 q2 x18_1).f5) (rd l1 x24_2) Jh Ji Jj _ ?side1 ?side2 ?side3 ?side4 ?side5 ?side6 ?side7 ?side8 ?side9 ?side10 A22.out).mono ?_); (case side1 => exact Cb J7 HB); (case side2 => exact J8.out); (case side3 => exact Cb J9 HB); (case side4 => exact Ja.out); (case side5 => exact Cb Jb HB); (case side6 => exact Jc.out); (case side7 => exact Cb Jd HB); (case side8 => exact Je.out); (case side9 => exact Cb Jf HB); (case side10 => exact Jg.out); rintro e w28 ⟨rfl, hb⟩; refine ⟨_, rfl, ?_⟩; replace j0 := Rb j0 hb; replace q0 := Qaa.mk (Kd.N_below (N_u q0.out) hb); replace q3 := Bb q3 hb; replace q4 := Bb q4 hb; replace q5 := Bb q5 hb; replace q8 := Bb q8 hb; replace HB := bs HB hb; (try clear hb)) | ((with_reducible refine gate_builtin (b := .append) (xs := #[.tmp 28, .tmp 32]) rfl ?_); at_builtin; refine Kd.R_append k41 (w0 := w) w.heap.size rfl (.tmp 28) (.tmp 32) 75 41 (.agg #[(.int .i64 0), (.int .i64 0), (.string ⟨#[]⟩)]) 32 rfl Try.underlying75 info41 rfl (by decide) (by omega) u8 x8_2 (⟨Jh, Ji, Jj⟩ : S41) [.int .i64 Jh, .int .i64 Ji, .string Jj] (fun k_ => (w.heap.size ≤ k_)) (fun _ => False) rfl rfl ?aP (fun _ hk => hk.elim) ?aF ?aO ?aB ?aS ?aL ?_; (case aP => exact k41_mkM _ _ _ (⟨Jh, Ji, Jj⟩ : S41)); (case aB => exact (bl HB)); (case aF => exact (fun k_ hk => (Nat.le_trans (below_size (bl HB)) hk))); (case aO => exact (R_u j0.out)); (case aS => exact (below_size (bl HB))); (case aL => have := LMc23.out; omega); intro q0y w29 ho hb hg hat; rw [← Ny652.out] at ho; have Xb := Qaa.mk (ho); replace q0 := Qaa.mk (Kd.N_afterv (ok := (fun k_ => (w.heap.size ≤ k_) ∧ k_ ≠ j5 ∧ k_ ≠ j1 ∧ k_ ≠ j3 ∧ k_ ≠ j2)) (by apply N_u; exact Nm q0.out) hg hat); replace q3 := Qaa.mk (blk_grown (Ub q3) hg (Kd.R_ne j0.out q3.out (by decide))); replace q4 := Qaa.mk (blk_grown (Ub q4) hg (Kd.R_ne j0.out q4.out (by decide))); replace q5 := Qaa.mk (blk_grown (Ub q5) hg (Kd.R_ne j0.out q5.out (by decide))); replace q8 := Qaa.mk (blk_grown (Ub q8) hg (Kd.R_ne j0.out q8.out (by decide))); replace HB := Qaa.mk (hb); clear j0; clear ho hb hg hat))
            go_roundg k2
            case measure => have := HK1.out; have := HK2.out; omega
            case rel => exact ⟨(y652), (wrap64 (x24_2 + 1)), (by first | rfl | (simp; done) | (simp [*]; done)), H', ⟨by have := HK1.out; have := HK2.out; omega⟩, ⟨by apply R_u; exact Xb.out⟩, ⟨by apply N_u; exact Nm q0.out⟩, ⟨by apply blk_u; exact q3.out⟩, ⟨by apply blk_u; exact q4.out⟩, ⟨by apply blk_u; exact q5.out⟩, ⟨by apply blk_u; exact q8.out⟩, ⟨bl HB⟩⟩
           ·
            rw [if_neg c23] at H
            exact absurd H (by simp)
          ·
           rw [if_neg c21] at H
           exact absurd H (by simp)
         ·
          rw [if_neg c20] at H
          exact absurd H (by simp)
        ·
         rw [if_neg c19] at H
         have Xa : decide (x24_2 < (l1.length : Int)) = false := decide_eq_false c19
         clear c19
         replace H := Option.bind_eq_some_iff.mp H
         obtain ⟨⟨Qw, Qn, z1, z2, z3, z4⟩, Yw, H⟩ := H
         replace H : ((Qar.f ((rd_T39 q2 x18_1).f0) ((rd_T39 q2 x18_1).f1) ((rd_T39 q2 x18_1).f2) ((rd_T39 q2 x18_1).f3) ((rd_T39 q2 x18_1).f4) ((rd_T39 q2 x18_1).f5)).bind fun J4 => (if J4 = true then ((Qai.f k2 Qw Qn z1 z2 z3 z4).bind fun z5 => (if q9.length < 1099511627776 then (Qam.l0 k2 l1 q2 (q2.length : Int) (wrap64 (x18_1 + 1)) (l1.length : Int) (q9 ++ [(⟨z5.1, z5.2.1, z5.2.2.1, z5.2.2.2.1, z5.2.2.2.2.1, z5.2.2.2.2.2⟩ : S39)]) true) else (none))) else (if q9.length < 1099511627776 then (Qam.l0 k2 l1 q2 (q2.length : Int) (wrap64 (x18_1 + 1)) (l1.length : Int) (q9 ++ [(⟨Qw, Qn, z1, z2, z3, z4⟩ : S39)]) true) else (none)))) = some (r1, r2, r3, r4) := H
         have A30 := Qaa.mk Yw
         clear Yw
         replace H := Option.bind_eq_some_iff.mp H
         obtain ⟨J4, Yx, H⟩ := H
         replace H : (if J4 = true then ((Qai.f k2 Qw Qn z1 z2 z3 z4).bind fun z5 => (if q9.length < 1099511627776 then (Qam.l0 k2 l1 q2 (q2.length : Int) (wrap64 (x18_1 + 1)) (l1.length : Int) (q9 ++ [(⟨z5.1, z5.2.1, z5.2.2.1, z5.2.2.2.1, z5.2.2.2.2.1, z5.2.2.2.2.2⟩ : S39)]) true) else (none))) else (if q9.length < 1099511627776 then (Qam.l0 k2 l1 q2 (q2.length : Int) (wrap64 (x18_1 + 1)) (l1.length : Int) (q9 ++ [(⟨Qw, Qn, z1, z2, z3, z4⟩ : S39)]) true) else (none))) = some (r1, r2, r3, r4) := H
         have A31 := Qaa.mk Yx
         clear Yx
         by_cases c32 : J4 = true
         ·
          subst c32
          have H1 : ((Qai.f k2 Qw Qn z1 z2 z3 z4).bind fun z5 => (if q9.length < 1099511627776 then (Qam.l0 k2 l1 q2 (q2.length : Int) (wrap64 (x18_1 + 1)) (l1.length : Int) (q9 ++ [(⟨z5.1, z5.2.1, z5.2.2.1, z5.2.2.2.1, z5.2.2.2.2.1, z5.2.2.2.2.2⟩ : S39)]) true) else (none))) = some (r1, r2, r3, r4) := by rw [if_pos rfl] at H; exact H
          clear H
          have H := H1
          clear H1
          replace H := Option.bind_eq_some_iff.mp H
          obtain ⟨⟨Qm, Q5, z6, z7, z8, z9⟩, Yy, H⟩ := H
          replace H : (if q9.length < 1099511627776 then (Qam.l0 k2 l1 q2 (q2.length : Int) (wrap64 (x18_1 + 1)) (l1.length : Int) (q9 ++ [(⟨Qm, Q5, z6, z7, z8, z9⟩ : S39)]) true) else (none)) = some (r1, r2, r3, r4) := H
          have A33 := Qaa.mk Yy
          clear Yy
          by_cases c34 : q9.length < 1099511627776
          ·
           rw [if_pos c34] at H
           have LMc34 := Qaa.mk c34
           clear c34
           obtain ⟨y689, hy689⟩ : ∃ y_ : List (S39), y_ = (q9 ++ [(⟨Qm, Q5, z6, z7, z8, z9⟩ : S39)]) := ⟨_, rfl⟩
           replace H : (Qam.l0 k2 l1 q2 (q2.length : Int) (wrap64 (x18_1 + 1)) (l1.length : Int) y689 true) = some (r1, r2, r3, r4) := by first | (rw [hy689]; with_reducible exact H) | (have H2_ := (Option.bind_some _ _).symm.trans H; rw [hy689]; with_reducible exact H2_) | (have H2_ := (Option.bind_some _ _).symm.trans H; with_reducible exact H2_) | with_reducible exact H | (rw [hy689]; exact H) | exact H
           have Ny689 := Qaa.mk hy689
           clear hy689
           have H' := Qaa.mk H
           clear H
           have Ko := Z7.out
           have Kp := Q2.out
           have Kq := Z8.out
           have Kr := Q3.out
           have Ks := Z9.out
           have Kt := Q4.out
           obtain ⟨Wd, We, Wf, Wg, Wh, Wi, Wj, Wk, Wl, Wm, Wn, Wo⟩ := cf6 q8
           obtain ⟨Qo, Qp, eo39⟩ := Kd.R_slice j0.out
           subst eo39
           go_wp2_with (first | ((with_reducible refine gate_callee (f := 29) rfl ?_); refine gL (some 38) Try.func29 #[.int .i64 ((rd_T39 q2 x18_1).f0), .slice Qo x8_2.length Qp] ?_; (with_reducible refine (Qax.calls k2 ((rd_T39 q2 x18_1).f0) _ _ x8_2 Qw Qn z1 z2 z3 z4 _ ?side1 ?side2 A30.out).mono ?_); (case side1 => exact Cu (Kd.R_reads' j0.out).2.2); (case side2 => exact (Kd.R_reads' j0.out).2.1); rintro e w40 ⟨Xe, Xf, Xg, Xh, Xi, rfl, ho0, ho1, ho2, ho3, ho4, hb⟩; refine ⟨_, rfl, ?_⟩; have z0 := Qaa.mk (Kd.R_lower (Kd.R_newM (M := fun k_ => (w.heap.size ≤ k_)) ho0 (below_size (bl HB)) (fun k_ h_ => h_)) (below_size (bl HB))); have j6 := Qaa.mk (Kd.R_lower (Kd.R_newM (M := fun k_ => (w.heap.size ≤ k_)) ho1 (below_size (bl HB)) (fun k_ h_ => h_)) (below_size (bl HB))); have j7 := Qaa.mk (Kd.R_lower (Kd.R_newM (M := fun k_ => (w.heap.size ≤ k_)) ho2 (below_size (bl HB)) (fun k_ h_ => h_)) (below_size (bl HB))); have j8 := Qaa.mk (Kd.R_lower (Kd.R_newM (M := fun k_ => (w.heap.size ≤ k_)) ho3 (below_size (bl HB)) (fun k_ h_ => h_)) (below_size (bl HB))); have j9 := Qaa.mk (Kd.R_lower (Kd.R_newM (M := fun k_ => (w.heap.size ≤ k_)) ho4 (below_size (bl HB)) (fun k_ h_ => h_)) (below_size (bl HB))); replace j0 := Rb j0 hb; replace q0 := Qaa.mk (Kd.N_mono (Kd.N_told (Kd.N_told (Kd.N_told (Kd.N_told (Kd.N_told (Kd.N_old (N_u q0.out) hb) (Kd.R_base ho0)) (Kd.R_base ho1)) (Kd.R_base ho2)) (Kd.R_base ho3)) (Kd.R_base ho4)) (fun _ h_ => h_.1)); replace q3 := Bb q3 hb; replace q4 := Bb q4 hb; replace q5 := Bb q5 hb; replace q8 := Bb q8 hb; replace HB := bs HB hb; (try clear hb); (try clear ho0); (try clear ho1); (try clear ho2); (try clear ho3); (try clear ho4)) | ((with_reducible refine gate_dst (N := 11) rfl ?_); refine bx 11 #[.int .i64 0, .slice none 0 0, .slice none 0 0, .slice none 0 0, .slice none 0 0, .slice none 0 0] 39 ?_; intro q1 hg w41 hbox hb; have q7 := Qaa.mk (hbox); have Xc := Qaa.mk ((by rw [hg]; exact (below_size (bl HB)) : w.heap.size ≤ q1)); have Xd := Qaa.mk ((by rw [hg]; exact (below_size (bl HB)) : w.heap.size ≤ q1)); have Zg := Qaa.mk ((by rw [hg]; exact Nat.ne_of_lt (blk_lt (Ub q3)) : j5 ≠ q1)); have Zh := Qaa.mk ((by rw [hg]; exact Nat.ne_of_gt (blk_lt (Ub q3)) : q1 ≠ j5)); have Zi := Qaa.mk ((by rw [hg]; exact Nat.ne_of_lt (blk_lt (Ub q4)) : j1 ≠ q1)); have Zj := Qaa.mk ((by rw [hg]; exact Nat.ne_of_gt (blk_lt (Ub q4)) : q1 ≠ j1)); have Zk := Qaa.mk ((by rw [hg]; exact Nat.ne_of_lt (blk_lt (Ub q5)) : j3 ≠ q1)); have Zl := Qaa.mk ((by rw [hg]; exact Nat.ne_of_gt (blk_lt (Ub q5)) : q1 ≠ j3)); have Zm := Qaa.mk ((by rw [hg]; exact Nat.ne_of_lt (blk_lt (Ub q8)) : j2 ≠ q1)); have Zn := Qaa.mk ((by rw [hg]; exact Nat.ne_of_gt (blk_lt (Ub q8)) : q1 ≠ j2)); replace j0 := Rb j0 hb; replace q0 := Qaa.mk (Kd.N_below (Kd.N_elderB (N_u q0.out) q1 (Nat.le_of_eq hg.symm)) hb); replace z0 := Rb z0 hb; replace j6 := Rb j6 hb; replace j7 := Rb j7 hb; replace j8 := Rb j8 hb; replace j9 := Rb j9 hb; replace q3 := Bb q3 hb; replace q4 := Bb q4 hb; replace q5 := Bb q5 hb; replace q8 := Bb q8 hb; replace HB := bs HB hb; clear hb hbox hg; have Ku := Zh.out; have Kv := Zg.out; have Kw := Zj.out; have Kx := Zi.out; have Ky := Zl.out; have Kz := Zk.out; have q00 := Zn.out; have q01 := Zm.out; obtain ⟨Wp, Wq, Wr, Ws, Wt, Wu, Wv, Ww, Wx, Wy, Wz, V0⟩ := cf6 q7; obtain ⟨Y2, Y3, eo47⟩ := Kd.R_slice z0.out; subst eo47; obtain ⟨Q6, Q7, eo48⟩ := Kd.R_slice j6.out; subst eo48; obtain ⟨Q8, Q9, eo49⟩ := Kd.R_slice j7.out; subst eo49; obtain ⟨Qa, Qb, eo50⟩ := Kd.R_slice j8.out; subst eo50; obtain ⟨Qc, Qd, eo51⟩ := Kd.R_slice j9.out; subst eo51; obtain ⟨V1, V2, V3, V4, V5, V6, V7, V8, V9, Va, Vb, Vc⟩ := cf6 q8) | ((with_reducible refine gate_callee (f := 36) rfl ?_); refine gL (some 40) Try.func36 #[.agg #[.int .i64 ((rd_T39 q2 x18_1).f0), .slice Qu ((rd_T39 q2 x18_1).f1).length Qv, .slice Qz ((rd_T39 q2 x18_1).f2).length Z0, .slice Z3 ((rd_T39 q2 x18_1).f3).length Z4, .slice Za ((rd_T39 q2 x18_1).f4).length Zb, .slice Ze ((rd_T39 q2 x18_1).f5).length Zf]] ?_; (with_reducible refine (Qar.calls ((rd_T39 q2 x18_1).f0) _ _ ((rd_T39 q2 x18_1).f1) _ _ ((rd_T39 q2 x18_1).f2) _ _ ((rd_T39 q2 x18_1).f3) _ _ ((rd_T39 q2 x18_1).f4) _ _ ((rd_T39 q2 x18_1).f5) true _ ?side1 ?side2 ?side3 ?side4 ?side5 ?side6 ?side7 ?side8 ?side9 ?side10 A31.out).mono ?_); (case side1 => exact Kd.C_below J7.out (bl HB)); (case side2 => exact J8.out); (case side3 => exact Kd.C_below J9.out (bl HB)); (case side4 => exact Ja.out); (case side5 => exact Kd.C_below Jb.out (bl HB)); (case side6 => exact Jc.out); (case side7 => exact Kd.C_below Jd.out (bl HB)); (case side8 => exact Je.out); (case side9 => exact Kd.C_below Jf.out (bl HB)); (case side10 => exact Jg.out); rintro e w53 ⟨rfl, hb⟩; refine ⟨_, rfl, ?_⟩; replace j0 := Qaa.mk (Kd.R_below (Rf j0 q7) hb); replace q0 := Qaa.mk (Kd.N_below (Nf (g := q1) q0 (fun _ hk => hk.2)) hb); replace z0 := Qaa.mk (Kd.R_below (Rf z0 q7) hb); replace j6 := Qaa.mk (Kd.R_below (Rf j6 q7) hb); replace j7 := Qaa.mk (Kd.R_below (Rf j7 q7) hb); replace j8 := Qaa.mk (Kd.R_below (Rf j8 q7) hb); replace j9 := Qaa.mk (Kd.R_below (Rf j9 q7) hb); replace q3 := Bb q3 hb; replace q4 := Bb q4 hb; replace q5 := Bb q5 hb; replace q8 := Bb q8 hb; replace q7 := Qaa.mk (blk_below (Uf6 q7) hb); replace HB := bs HB hb; (try clear hb); (try clear hk); obtain ⟨Vd, Ve, Vf, Vg, Vh, Vi, Vj, Vk, Vl, Vn, Vo, Vp⟩ := cf6 q7) | ((with_reducible refine gate_callee (f := 28) rfl ?_); refine gL (some 42) Try.func28 #[.agg #[.int .i64 Qw, .slice Y2 Qn.length Y3, .slice Q6 z1.length Q7, .slice Q8 z2.length Q9, .slice Qa z3.length Qb, .slice Qc z4.length Qd]] ?_; (with_reducible refine (Qai.calls k2 Qw (fun k_ => some k_ = (.slice Y2 Qn.length Y3 : Value).ownBlock) _ _ Qn _ _ z1 _ _ z2 _ _ z3 _ _ z4 Qm Q5 z6 z7 z8 z9 _ ?side1 ?side2 ?side3 ?side4 ?side5 ?side6 ?side7 ?side8 ?side9 A33.out).mono ?_); (case side1 => exact Kd.R_V (Kd.R_tight rfl (Kd.R_types (Kd.R_types (Kd.R_types (Kd.R_types (Kd.R_types (Kd.R_apart' (Kd.R_apart' (Kd.R_apart' (Kd.R_apart' (Kd.R_apart' (Kd.R_apart' (z0.out) (Kd.R_typed j0.out) (by decide)) (Kd.N_typed q0.out) (by decide)) (Kd.R_typed j6.out) (by decide)) (Kd.R_typed j7.out) (by decide)) (Kd.R_typed j8.out) (by decide)) (Kd.R_typed j9.out) (by decide)) q3.out (by decide)) q4.out (by decide)) q5.out (by decide)) q8.out (by decide)) q7.out (by decide)))); (case side2 => exact Cu (Kd.R_reads' j6.out).2.2); (case side3 => exact (Kd.R_reads' j6.out).2.1); (case side4 => exact Cu (Kd.R_reads' j7.out).2.2); (case side5 => exact (Kd.R_reads' j7.out).2.1); (case side6 => exact Cu (Kd.R_reads' j8.out).2.2); (case side7 => exact (Kd.R_reads' j8.out).2.1); (case side8 => exact Cu (Kd.R_reads' j9.out).2.2); (case side9 => exact (Kd.R_reads' j9.out).2.1); rintro e w55 ⟨q0z, Yz, X0, X1, X2, rfl, ho0, ho1, ho2, ho3, ho4, hb⟩; refine ⟨_, rfl, ?_⟩; have Zd := Qaa.mk (Kd.V_lower (Kd.V_mono (ok' := fun k_ => (w.heap.size ≤ k_) ∧ some k_ ≠ (Yz : Value).ownBlock ∧ some k_ ≠ (X0 : Value).ownBlock ∧ some k_ ≠ (X1 : Value).ownBlock ∧ some k_ ≠ (X2 : Value).ownBlock ∧ some k_ ≠ (.slice Qo x8_2.length Qp : Value).ownBlock ∧ some k_ ≠ (j4 : Value).ownBlock ∧ some k_ ≠ (.slice Q6 z1.length Q7 : Value).ownBlock ∧ some k_ ≠ (.slice Q8 z2.length Q9 : Value).ownBlock ∧ some k_ ≠ (.slice Qa z3.length Qb : Value).ownBlock ∧ some k_ ≠ (.slice Qc z4.length Qd : Value).ownBlock ∧ k_ ≠ j5 ∧ k_ ≠ j1 ∧ k_ ≠ j3 ∧ k_ ≠ j2 ∧ k_ ≠ q1) ho0 (fun k_ hk_ => ⟨Or.elim hk_.1 (fun hs_ => ((Kd.R_types (Kd.R_types (Kd.R_types (Kd.R_types (Kd.R_types (Kd.R_apart' (Kd.R_apart' (Kd.R_apart' (Kd.R_apart' (Kd.R_apart' (Kd.R_apart' (z0.out) (Kd.R_typed j0.out) (by decide)) (Kd.N_typed q0.out) (by decide)) (Kd.R_typed j6.out) (by decide)) (Kd.R_typed j7.out) (by decide)) (Kd.R_typed j8.out) (by decide)) (Kd.R_typed j9.out) (by decide)) q3.out (by decide)) q4.out (by decide)) q5.out (by decide)) q8.out (by decide)) q7.out (by decide)).1 k_ hs_.symm).1.1.1.1.1.1.1.1.1.1.1.1) (fun hn_ => (Nat.le_trans (below_size (bl HB)) hn_)), hk_.2.1, hk_.2.2.1, hk_.2.2.2.1, hk_.2.2.2.2, Or.elim hk_.1 (fun hs_ => ((Kd.R_types (Kd.R_types (Kd.R_types (Kd.R_types (Kd.R_types (Kd.R_apart' (Kd.R_apart' (Kd.R_apart' (Kd.R_apart' (Kd.R_apart' (Kd.R_apart' (z0.out) (Kd.R_typed j0.out) (by decide)) (Kd.N_typed q0.out) (by decide)) (Kd.R_typed j6.out) (by decide)) (Kd.R_typed j7.out) (by decide)) (Kd.R_typed j8.out) (by decide)) (Kd.R_typed j9.out) (by decide)) q3.out (by decide)) q4.out (by decide)) q5.out (by decide)) q8.out (by decide)) q7.out (by decide)).1 k_ hs_.symm).1.1.1.1.1.1.1.1.1.1.2) (fun hn_ => (Kd.fresh' (Kd.R_lt (R_u j0.out)) k_ hn_)), Or.elim hk_.1 (fun hs_ => ((Kd.R_types (Kd.R_types (Kd.R_types (Kd.R_types (Kd.R_types (Kd.R_apart' (Kd.R_apart' (Kd.R_apart' (Kd.R_apart' (Kd.R_apart' (Kd.R_apart' (z0.out) (Kd.R_typed j0.out) (by decide)) (Kd.N_typed q0.out) (by decide)) (Kd.R_typed j6.out) (by decide)) (Kd.R_typed j7.out) (by decide)) (Kd.R_typed j8.out) (by decide)) (Kd.R_typed j9.out) (by decide)) q3.out (by decide)) q4.out (by decide)) q5.out (by decide)) q8.out (by decide)) q7.out (by decide)).1 k_ hs_.symm).1.1.1.1.1.1.1.1.1.2) (fun hn_ => (Kd.fresh' (Kd.N_lt (N_u q0.out)) k_ hn_)), Or.elim hk_.1 (fun hs_ => ((Kd.R_types (Kd.R_types (Kd.R_types (Kd.R_types (Kd.R_types (Kd.R_apart' (Kd.R_apart' (Kd.R_apart' (Kd.R_apart' (Kd.R_apart' (Kd.R_apart' (z0.out) (Kd.R_typed j0.out) (by decide)) (Kd.N_typed q0.out) (by decide)) (Kd.R_typed j6.out) (by decide)) (Kd.R_typed j7.out) (by decide)) (Kd.R_typed j8.out) (by decide)) (Kd.R_typed j9.out) (by decide)) q3.out (by decide)) q4.out (by decide)) q5.out (by decide)) q8.out (by decide)) q7.out (by decide)).1 k_ hs_.symm).1.1.1.1.1.1.1.1.2) (fun hn_ => (Kd.fresh' (Kd.R_lt (R_u j6.out)) k_ hn_)), Or.elim hk_.1 (fun hs_ => ((Kd.R_types (Kd.R_types (Kd.R_types (Kd.R_types (Kd.R_types (Kd.R_apart' (Kd.R_apart' (Kd.R_apart' (Kd.R_apart' (Kd.R_apart' (Kd.R_apart' (z0.out) (Kd.R_typed j0.out) (by decide)) (Kd.N_typed q0.out) (by decide)) (Kd.R_typed j6.out) (by decide)) (Kd.R_typed j7.out) (by decide)) (Kd.R_typed j8.out) (by decide)) (Kd.R_typed j9.out) (by decide)) q3.out (by decide)) q4.out (by decide)) q5.out (by decide)) q8.out (by decide)) q7.out (by decide)).1 k_ hs_.symm).1.1.1.1.1.1.1.2) (fun hn_ => (Kd.fresh' (Kd.R_lt (R_u j7.out)) k_ hn_)), Or.elim hk_.1 (fun hs_ => ((Kd.R_types (Kd.R_types (Kd.R_types (Kd.R_types (Kd.R_types (Kd.R_apart' (Kd.R_apart' (Kd.R_apart' (Kd.R_apart' (Kd.R_apart' (Kd.R_apart' (z0.out) (Kd.R_typed j0.out) (by decide)) (Kd.N_typed q0.out) (by decide)) (Kd.R_typed j6.out) (by decide)) (Kd.R_typed j7.out) (by decide)) (Kd.R_typed j8.out) (by decide)) (Kd.R_typed j9.out) (by decide)) q3.out (by decide)) q4.out (by decide)) q5.out (by decide)) q8.out (by decide)) q7.out (by decide)).1 k_ hs_.symm).1.1.1.1.1.1.2) (fun hn_ => (Kd.fresh' (Kd.R_lt (R_u j8.out)) k_ hn_)), Or.elim hk_.1 (fun hs_ => ((Kd.R_types (Kd.R_types (Kd.R_types (Kd.R_types (Kd.R_types (Kd.R_apart' (Kd.R_apart' (Kd.R_apart' (Kd.R_apart' (Kd.R_apart' (Kd.R_apart' (z0.out) (Kd.R_typed j0.out) (by decide)) (Kd.N_typed q0.out) (by decide)) (Kd.R_typed j6.out) (by decide)) (Kd.R_typed j7.out) (by decide)) (Kd.R_typed j8.out) (by decide)) (Kd.R_typed j9.out) (by decide)) q3.out (by decide)) q4.out (by decide)) q5.out (by decide)) q8.out (by decide)) q7.out (by decide)).1 k_ hs_.symm).1.1.1.1.1.2) (fun hn_ => (Kd.fresh' (Kd.R_lt (R_u j9.out)) k_ hn_)), Or.elim hk_.1 (fun hs_ => ((Kd.R_types (Kd.R_types (Kd.R_types (Kd.R_types (Kd.R_types (Kd.R_apart' (Kd.R_apart' (Kd.R_apart' (Kd.R_apart' (Kd.R_apart' (Kd.R_apart' (z0.out) (Kd.R_typed j0.out) (by decide)) (Kd.N_typed q0.out) (by decide)) (Kd.R_typed j6.out) (by decide)) (Kd.R_typed j7.out) (by decide)) (Kd.R_typed j8.out) (by decide)) (Kd.R_typed j9.out) (by decide)) q3.out (by decide)) q4.out (by decide)) q5.out (by decide)) q8.out (by decide)) q7.out (by decide)).1 k_ hs_.symm).1.1.1.1.2) (fun hn_ => (Kd.freshB (Ub q3) k_ hn_)), Or.elim hk_.1 (fun hs_ => ((Kd.R_types (Kd.R_types (Kd.R_types (Kd.R_types (Kd.R_types (Kd.R_apart' (Kd.R_apart' (Kd.R_apart' (Kd.R_apart' (Kd.R_apart' (Kd.R_apart' (z0.out) (Kd.R_typed j0.out) (by decide)) (Kd.N_typed q0.out) (by decide)) (Kd.R_typed j6.out) (by decide)) (Kd.R_typed j7.out) (by decide)) (Kd.R_typed j8.out) (by decide)) (Kd.R_typed j9.out) (by decide)) q3.out (by decide)) q4.out (by decide)) q5.out (by decide)) q8.out (by decide)) q7.out (by decide)).1 k_ hs_.symm).1.1.1.2) (fun hn_ => (Kd.freshB (Ub q4) k_ hn_)), Or.elim hk_.1 (fun hs_ => ((Kd.R_types (Kd.R_types (Kd.R_types (Kd.R_types (Kd.R_types (Kd.R_apart' (Kd.R_apart' (Kd.R_apart' (Kd.R_apart' (Kd.R_apart' (Kd.R_apart' (z0.out) (Kd.R_typed j0.out) (by decide)) (Kd.N_typed q0.out) (by decide)) (Kd.R_typed j6.out) (by decide)) (Kd.R_typed j7.out) (by decide)) (Kd.R_typed j8.out) (by decide)) (Kd.R_typed j9.out) (by decide)) q3.out (by decide)) q4.out (by decide)) q5.out (by decide)) q8.out (by decide)) q7.out (by decide)).1 k_ hs_.symm).1.1.2) (fun hn_ => (Kd.freshB (Ub q5) k_ hn_)), Or.elim hk_.1 (fun hs_ => ((Kd.R_types (Kd.R_types (Kd.R_types (Kd.R_types (Kd.R_types (Kd.R_apart' (Kd.R_apart' (Kd.R_apart' (Kd.R_apart' (Kd.R_apart' (Kd.R_apart' (z0.out) (Kd.R_typed j0.out) (by decide)) (Kd.N_typed q0.out) (by decide)) (Kd.R_typed j6.out) (by decide)) (Kd.R_typed j7.out) (by decide)) (Kd.R_typed j8.out) (by decide)) (Kd.R_typed j9.out) (by decide)) q3.out (by decide)) q4.out (by decide)) q5.out (by decide)) q8.out (by decide)) q7.out (by decide)).1 k_ hs_.symm).1.2) (fun hn_ => (Kd.freshB (Ub q8) k_ hn_)), Or.elim hk_.1 (fun hs_ => ((Kd.R_types (Kd.R_types (Kd.R_types (Kd.R_types (Kd.R_types (Kd.R_apart' (Kd.R_apart' (Kd.R_apart' (Kd.R_apart' (Kd.R_apart' (Kd.R_apart' (z0.out) (Kd.R_typed j0.out) (by decide)) (Kd.N_typed q0.out) (by decide)) (Kd.R_typed j6.out) (by decide)) (Kd.R_typed j7.out) (by decide)) (Kd.R_typed j8.out) (by decide)) (Kd.R_typed j9.out) (by decide)) q3.out (by decide)) q4.out (by decide)) q5.out (by decide)) q8.out (by decide)) q7.out (by decide)).1 k_ hs_.symm).2) (fun hn_ => (Kd.freshB (Ub q7) k_ hn_))⟩)) (below_size (bl HB))); have Zv := Qaa.mk (Kd.R_lower (Kd.R_new' (Kd.R_new' (Kd.R_newM (M := fun k_ => (w.heap.size ≤ k_)) (Kd.R_mono (ok' := fun k_ => some k_ ≠ (X2 : Value).ownBlock) ho1 (fun _ hk_ => hk_.2)) (below_size (bl HB)) (fun k_ h_ => h_)) (Kd.R_lt (R_u j6.out))) (Kd.R_lt (R_u j9.out))) (below_size (bl HB))); have Zw := Qaa.mk (Kd.R_lower (Kd.R_new' (Kd.R_new' (Kd.R_newM (M := fun k_ => (w.heap.size ≤ k_)) (Kd.R_mono (ok' := fun k_ => some k_ ≠ (X1 : Value).ownBlock) ho2 (fun _ hk_ => hk_.2)) (below_size (bl HB)) (fun k_ h_ => h_)) (Kd.R_lt (R_u j7.out))) (Kd.R_lt (R_u j8.out))) (below_size (bl HB))); have Zx := Qaa.mk (Kd.R_lower (Kd.R_new' (Kd.R_new' (Kd.R_newM (M := fun k_ => (w.heap.size ≤ k_)) (Kd.R_mono (ok' := fun k_ => some k_ ≠ (X0 : Value).ownBlock) ho3 (fun _ hk_ => hk_.2)) (below_size (bl HB)) (fun k_ h_ => h_)) (Kd.R_lt (R_u j7.out))) (Kd.R_lt (R_u j8.out))) (below_size (bl HB))); have Zy := Qaa.mk (Kd.R_lower (Kd.R_new' (Kd.R_new' (Kd.R_newM (M := fun k_ => (w.heap.size ≤ k_)) (Kd.R_mono (ok' := fun k_ => some k_ ≠ (Yz : Value).ownBlock) ho4 (fun _ hk_ => hk_.2)) (below_size (bl HB)) (fun k_ h_ => h_)) (Kd.R_lt (R_u j6.out))) (Kd.R_lt (R_u j9.out))) (below_size (bl HB))); replace j0 := Rb j0 hb; replace q0 := Qaa.mk (Kd.N_mono (Kd.N_told (Kd.N_told (Kd.N_told (Kd.N_told (Kd.N_old (N_u q0.out) hb) (Kd.R_base ho1)) (Kd.R_base ho2)) (Kd.R_base ho3)) (Kd.R_base ho4)) (fun _ h_ => h_.1)); replace z0 := Rb z0 hb; replace j6 := Qaa.mk (Kd.R_mono (Kd.R_told (Kd.R_told (Kd.R_old (R_u j6.out) hb) (Kd.R_base ho1)) (Kd.R_base ho4)) (fun _ h_ => h_.1)); replace j7 := Qaa.mk (Kd.R_mono (Kd.R_told (Kd.R_told (Kd.R_old (R_u j7.out) hb) (Kd.R_base ho2)) (Kd.R_base ho3)) (fun _ h_ => h_.1)); replace j8 := Qaa.mk (Kd.R_mono (Kd.R_told (Kd.R_told (Kd.R_old (R_u j8.out) hb) (Kd.R_base ho2)) (Kd.R_base ho3)) (fun _ h_ => h_.1)); replace j9 := Qaa.mk (Kd.R_mono (Kd.R_told (Kd.R_told (Kd.R_old (R_u j9.out) hb) (Kd.R_base ho1)) (Kd.R_base ho4)) (fun _ h_ => h_.1)); replace q3 := Bb q3 hb; replace q4 := Bb q4 hb; replace q5 := Bb q5 hb; replace q8 := Bb q8 hb; replace q7 := Bb q7 hb; replace HB := bs HB hb; (try clear hb); (try clear ho0); (try clear ho1); (try clear ho2); (try clear ho3); (try clear ho4); obtain ⟨Vq, Vr, Vs, Vt, Vu, Vv, Vw, Vx, Vy, Vz, G0, G1⟩ := cf6 q7; obtain ⟨Qr, Qs, eo57⟩ := Kd.V_slice Zd.out; subst eo57; obtain ⟨Qe, Qf, eo58⟩ := Kd.R_slice Zv.out; subst eo58; obtain ⟨Qg, Qh, eo59⟩ := Kd.R_slice Zw.out; subst eo59; obtain ⟨Qi, Qj, eo60⟩ := Kd.R_slice Zx.out; subst eo60; obtain ⟨Qk, Ql, eo61⟩ := Kd.R_slice Zy.out; subst eo61) | ((with_reducible refine gate_store (t := 39) (p := 11) rfl ?_); refine store_event (t := 39) (p := 11) (v := ?vo_w62) (w1 := ((((((w55.setCell ⟨q1, 0, none⟩ (.int .i64 Qm)).setCell ⟨q1, 1, none⟩ (.slice Qr Q5.length Qs)).setCell ⟨q1, 2, none⟩ (.slice Qe z6.length Qf)).setCell ⟨q1, 3, none⟩ (.slice Qg z7.length Qh)).setCell ⟨q1, 4, none⟩ (.slice Qi z8.length Qj)).setCell ⟨q1, 5, none⟩ (.slice Qk z9.length Ql))) ?hg ?ho ?hn ?hr ?_; (case ho => rfl); (case hg => rfl); (case hn => rfl); (case hr => first | (go_simp; done) | (go_simp; rfl)); intro w62 hw; replace j0 : Qaa (Kd.R k41 41 w62 w.heap.size (fun k_ => (w.heap.size ≤ k_)) (.slice Qo x8_2.length Qp) x8_2) := ⟨(by rw [hw]; exact (by apply R_u; exact Kd.R_mono (Kd.R_far (p := ⟨q1, 5, none⟩) (Kd.R_far (p := ⟨q1, 4, none⟩) (Kd.R_far (p := ⟨q1, 3, none⟩) (Kd.R_far (p := ⟨q1, 2, none⟩) (Kd.R_far (p := ⟨q1, 1, none⟩) (Kd.R_far (p := ⟨q1, 0, none⟩) (Kd.R_types j0.out q7.out (by decide)) (fun _ hk => hk.2) (.int .i64 Qm)) (fun _ hk => hk.2) (.slice Qr Q5.length Qs)) (fun _ hk => hk.2) (.slice Qe z6.length Qf)) (fun _ hk => hk.2) (.slice Qg z7.length Qh)) (fun _ hk => hk.2) (.slice Qi z8.length Qj)) (fun _ hk => hk.2) (.slice Qk z9.length Ql)) (fun _ hk => hk.1)))⟩; replace q0 : Qaa (Kd.N k39 39 w62 w.heap.size (fun k_ => (w.heap.size ≤ k_) ∧ some k_ ≠ (.slice Qo x8_2.length Qp : Value).ownBlock ∧ some k_ ≠ (.slice Y2 Qn.length Y3 : Value).ownBlock ∧ some k_ ≠ (.slice Q6 z1.length Q7 : Value).ownBlock ∧ some k_ ≠ (.slice Q8 z2.length Q9 : Value).ownBlock ∧ some k_ ≠ (.slice Qa z3.length Qb : Value).ownBlock ∧ some k_ ≠ (.slice Qc z4.length Qd : Value).ownBlock ∧ some k_ ≠ (.slice Qe z6.length Qf : Value).ownBlock ∧ some k_ ≠ (.slice Qg z7.length Qh : Value).ownBlock ∧ some k_ ≠ (.slice Qi z8.length Qj : Value).ownBlock ∧ some k_ ≠ (.slice Qk z9.length Ql : Value).ownBlock ∧ k_ ≠ j5 ∧ k_ ≠ j1 ∧ k_ ≠ j3 ∧ k_ ≠ j2 ∧ k_ ≠ q1) j4 q9) := ⟨(by rw [hw]; exact (by apply N_u; exact Nm (Kd.N_far (p := ⟨q1, 5, none⟩) (Kd.N_far (p := ⟨q1, 4, none⟩) (Kd.N_far (p := ⟨q1, 3, none⟩) (Kd.N_far (p := ⟨q1, 2, none⟩) (Kd.N_far (p := ⟨q1, 1, none⟩) (Kd.N_far (p := ⟨q1, 0, none⟩) (Kd.N_mono q0.out (fun k_ hk => (⟨hk, hk.1.1.1.1.2⟩ : _ ∧ k_ ≠ q1))) (fun _ hk => hk.2) (.int .i64 Qm)) (fun _ hk => hk.2) (.slice Qr Q5.length Qs)) (fun _ hk => hk.2) (.slice Qe z6.length Qf)) (fun _ hk => hk.2) (.slice Qg z7.length Qh)) (fun _ hk => hk.2) (.slice Qi z8.length Qj)) (fun _ hk => hk.2) (.slice Qk z9.length Ql))))⟩; replace z0 : Qaa (Kd.R Kd.bool 4 w62 w.heap.size (fun k_ => (w.heap.size ≤ k_)) (.slice Y2 Qn.length Y3) Qn) := ⟨(by rw [hw]; exact (by apply R_u; exact Kd.R_mono (Kd.R_far (p := ⟨q1, 5, none⟩) (Kd.R_far (p := ⟨q1, 4, none⟩) (Kd.R_far (p := ⟨q1, 3, none⟩) (Kd.R_far (p := ⟨q1, 2, none⟩) (Kd.R_far (p := ⟨q1, 1, none⟩) (Kd.R_far (p := ⟨q1, 0, none⟩) (Kd.R_types z0.out q7.out (by decide)) (fun _ hk => hk.2) (.int .i64 Qm)) (fun _ hk => hk.2) (.slice Qr Q5.length Qs)) (fun _ hk => hk.2) (.slice Qe z6.length Qf)) (fun _ hk => hk.2) (.slice Qg z7.length Qh)) (fun _ hk => hk.2) (.slice Qi z8.length Qj)) (fun _ hk => hk.2) (.slice Qk z9.length Ql)) (fun _ hk => hk.1.1)))⟩; replace j6 : Qaa (Kd.R (Kd.int .i64) 3 w62 w.heap.size (fun k_ => (w.heap.size ≤ k_) ∧ some k_ ≠ (.slice Qc z4.length Qd : Value).ownBlock ∧ some k_ ≠ (.slice Qe z6.length Qf : Value).ownBlock ∧ some k_ ≠ (.slice Qk z9.length Ql : Value).ownBlock) (.slice Q6 z1.length Q7) z1) := ⟨(by rw [hw]; exact (by apply R_u; exact Rm (Kd.R_far (p := ⟨q1, 5, none⟩) (Kd.R_far (p := ⟨q1, 4, none⟩) (Kd.R_far (p := ⟨q1, 3, none⟩) (Kd.R_far (p := ⟨q1, 2, none⟩) (Kd.R_far (p := ⟨q1, 1, none⟩) (Kd.R_far (p := ⟨q1, 0, none⟩) (Kd.R_types j6.out q7.out (by decide)) (fun _ hk => hk.2) (.int .i64 Qm)) (fun _ hk => hk.2) (.slice Qr Q5.length Qs)) (fun _ hk => hk.2) (.slice Qe z6.length Qf)) (fun _ hk => hk.2) (.slice Qg z7.length Qh)) (fun _ hk => hk.2) (.slice Qi z8.length Qj)) (fun _ hk => hk.2) (.slice Qk z9.length Ql))))⟩; replace j7 : Qaa (Kd.R Kd.string 9 w62 w.heap.size (fun k_ => (w.heap.size ≤ k_) ∧ some k_ ≠ (.slice Qa z3.length Qb : Value).ownBlock ∧ some k_ ≠ (.slice Qg z7.length Qh : Value).ownBlock ∧ some k_ ≠ (.slice Qi z8.length Qj : Value).ownBlock) (.slice Q8 z2.length Q9) z2) := ⟨(by rw [hw]; exact (by apply R_u; exact Rm (Kd.R_far (p := ⟨q1, 5, none⟩) (Kd.R_far (p := ⟨q1, 4, none⟩) (Kd.R_far (p := ⟨q1, 3, none⟩) (Kd.R_far (p := ⟨q1, 2, none⟩) (Kd.R_far (p := ⟨q1, 1, none⟩) (Kd.R_far (p := ⟨q1, 0, none⟩) (Kd.R_types j7.out q7.out (by decide)) (fun _ hk => hk.2) (.int .i64 Qm)) (fun _ hk => hk.2) (.slice Qr Q5.length Qs)) (fun _ hk => hk.2) (.slice Qe z6.length Qf)) (fun _ hk => hk.2) (.slice Qg z7.length Qh)) (fun _ hk => hk.2) (.slice Qi z8.length Qj)) (fun _ hk => hk.2) (.slice Qk z9.length Ql))))⟩; replace j8 : Qaa (Kd.R Kd.string 9 w62 w.heap.size (fun k_ => (w.heap.size ≤ k_) ∧ some k_ ≠ (.slice Q8 z2.length Q9 : Value).ownBlock ∧ some k_ ≠ (.slice Qg z7.length Qh : Value).ownBlock ∧ some k_ ≠ (.slice Qi z8.length Qj : Value).ownBlock) (.slice Qa z3.length Qb) z3) := ⟨(by rw [hw]; exact (by apply R_u; exact Rm (Kd.R_far (p := ⟨q1, 5, none⟩) (Kd.R_far (p := ⟨q1, 4, none⟩) (Kd.R_far (p := ⟨q1, 3, none⟩) (Kd.R_far (p := ⟨q1, 2, none⟩) (Kd.R_far (p := ⟨q1, 1, none⟩) (Kd.R_far (p := ⟨q1, 0, none⟩) (Kd.R_types j8.out q7.out (by decide)) (fun _ hk => hk.2) (.int .i64 Qm)) (fun _ hk => hk.2) (.slice Qr Q5.length Qs)) (fun _ hk => hk.2) (.slice Qe z6.length Qf)) (fun _ hk => hk.2) (.slice Qg z7.length Qh)) (fun _ hk => hk.2) (.slice Qi z8.length Qj)) (fun _ hk => hk.2) (.slice Qk z9.length Ql))))⟩; replace j9 : Qaa (Kd.R (Kd.int .i64) 3 w62 w.heap.size (fun k_ => (w.heap.size ≤ k_) ∧ some k_ ≠ (.slice Q6 z1.length Q7 : Value).ownBlock ∧ some k_ ≠ (.slice Qe z6.length Qf : Value).ownBlock ∧ some k_ ≠ (.slice Qk z9.length Ql : Value).ownBlock) (.slice Qc z4.length Qd) z4) := ⟨(by rw [hw]; exact (by apply R_u; exact Rm (Kd.R_far (p := ⟨q1, 5, none⟩) (Kd.R_far (p := ⟨q1, 4, none⟩) (Kd.R_far (p := ⟨q1, 3, none⟩) (Kd.R_far (p := ⟨q1, 2, none⟩) (Kd.R_far (p := ⟨q1, 1, none⟩) (Kd.R_far (p := ⟨q1, 0, none⟩) (Kd.R_types j9.out q7.out (by decide)) (fun _ hk => hk.2) (.int .i64 Qm)) (fun _ hk => hk.2) (.slice Qr Q5.length Qs)) (fun _ hk => hk.2) (.slice Qe z6.length Qf)) (fun _ hk => hk.2) (.slice Qg z7.length Qh)) (fun _ hk => hk.2) (.slice Qi z8.length Qj)) (fun _ hk => hk.2) (.slice Qk z9.length Ql))))⟩; replace Zd : Qaa (Kd.V Kd.bool 4 w62 w.heap.size (fun k_ => (w.heap.size ≤ k_) ∧ some k_ ≠ (.slice Qo x8_2.length Qp : Value).ownBlock ∧ some k_ ≠ (j4 : Value).ownBlock ∧ some k_ ≠ (.slice Q6 z1.length Q7 : Value).ownBlock ∧ some k_ ≠ (.slice Q8 z2.length Q9 : Value).ownBlock ∧ some k_ ≠ (.slice Qa z3.length Qb : Value).ownBlock ∧ some k_ ≠ (.slice Qc z4.length Qd : Value).ownBlock ∧ some k_ ≠ (.slice Qe z6.length Qf : Value).ownBlock ∧ some k_ ≠ (.slice Qg z7.length Qh : Value).ownBlock ∧ some k_ ≠ (.slice Qi z8.length Qj : Value).ownBlock ∧ some k_ ≠ (.slice Qk z9.length Ql : Value).ownBlock ∧ k_ ≠ j5 ∧ k_ ≠ j1 ∧ k_ ≠ j3 ∧ k_ ≠ j2 ∧ k_ ≠ q1) (.slice Qr Q5.length Qs) Q5) := ⟨(by rw [hw]; exact (by apply V_u; exact Vm (Kd.V_far (p := ⟨q1, 5, none⟩) (Kd.V_far (p := ⟨q1, 4, none⟩) (Kd.V_far (p := ⟨q1, 3, none⟩) (Kd.V_far (p := ⟨q1, 2, none⟩) (Kd.V_far (p := ⟨q1, 1, none⟩) (Kd.V_far (p := ⟨q1, 0, none⟩) (Kd.V_mono Zd.out (fun k_ hk => (⟨hk, hk.2.2.2.2.2.2.2.2.2.2.2.2.2.2.2⟩ : _ ∧ k_ ≠ q1))) (fun _ hk => hk.2) (.int .i64 Qm)) (fun _ hk => hk.2) (.slice Qr Q5.length Qs)) (fun _ hk => hk.2) (.slice Qe z6.length Qf)) (fun _ hk => hk.2) (.slice Qg z7.length Qh)) (fun _ hk => hk.2) (.slice Qi z8.length Qj)) (fun _ hk => hk.2) (.slice Qk z9.length Ql))))⟩; replace Zv : Qaa (Kd.R (Kd.int .i64) 3 w62 w.heap.size (fun k_ => (w.heap.size ≤ k_) ∧ some k_ ≠ (.slice Q6 z1.length Q7 : Value).ownBlock ∧ some k_ ≠ (.slice Qc z4.length Qd : Value).ownBlock ∧ some k_ ≠ (.slice Qk z9.length Ql : Value).ownBlock) (.slice Qe z6.length Qf) z6) := ⟨(by rw [hw]; exact (by apply R_u; exact Rm (Kd.R_far (p := ⟨q1, 5, none⟩) (Kd.R_far (p := ⟨q1, 4, none⟩) (Kd.R_far (p := ⟨q1, 3, none⟩) (Kd.R_far (p := ⟨q1, 2, none⟩) (Kd.R_far (p := ⟨q1, 1, none⟩) (Kd.R_far (p := ⟨q1, 0, none⟩) (Kd.R_types Zv.out q7.out (by decide)) (fun _ hk => hk.2) (.int .i64 Qm)) (fun _ hk => hk.2) (.slice Qr Q5.length Qs)) (fun _ hk => hk.2) (.slice Qe z6.length Qf)) (fun _ hk => hk.2) (.slice Qg z7.length Qh)) (fun _ hk => hk.2) (.slice Qi z8.length Qj)) (fun _ hk => hk.2) (.slice Qk z9.length Ql))))⟩; replace Zw : Qaa (Kd.R Kd.string 9 w62 w.heap.size (fun k_ => (w.heap.size ≤ k_) ∧ some k_ ≠ (.slice Q8 z2.length Q9 : Value).ownBlock ∧ some k_ ≠ (.slice Qa z3.length Qb : Value).ownBlock ∧ some k_ ≠ (.slice Qi z8.length Qj : Value).ownBlock) (.slice Qg z7.length Qh) z7) := ⟨(by rw [hw]; exact (by apply R_u; exact Rm (Kd.R_far (p := ⟨q1, 5, none⟩) (Kd.R_far (p := ⟨q1, 4, none⟩) (Kd.R_far (p := ⟨q1, 3, none⟩) (Kd.R_far (p := ⟨q1, 2, none⟩) (Kd.R_far (p := ⟨q1, 1, none⟩) (Kd.R_far (p := ⟨q1, 0, none⟩) (Kd.R_types Zw.out q7.out (by decide)) (fun _ hk => hk.2) (.int .i64 Qm)) (fun _ hk => hk.2) (.slice Qr Q5.length Qs)) (fun _ hk => hk.2) (.slice Qe z6.length Qf)) (fun _ hk => hk.2) (.slice Qg z7.length Qh)) (fun _ hk => hk.2) (.slice Qi z8.length Qj)) (fun _ hk => hk.2) (.slice Qk z9.length Ql))))⟩; replace Zx : Qaa (Kd.R Kd.string 9 w62 w.heap.size (fun k_ => (w.heap.size ≤ k_) ∧ some k_ ≠ (.slice Q8 z2.length Q9 : Value).ownBlock ∧ some k_ ≠ (.slice Qa z3.length Qb : Value).ownBlock ∧ some k_ ≠ (.slice Qg z7.length Qh : Value).ownBlock) (.slice Qi z8.length Qj) z8) := ⟨(by rw [hw]; exact (by apply R_u; exact Rm (Kd.R_far (p := ⟨q1, 5, none⟩) (Kd.R_far (p := ⟨q1, 4, none⟩) (Kd.R_far (p := ⟨q1, 3, none⟩) (Kd.R_far (p := ⟨q1, 2, none⟩) (Kd.R_far (p := ⟨q1, 1, none⟩) (Kd.R_far (p := ⟨q1, 0, none⟩) (Kd.R_types Zx.out q7.out (by decide)) (fun _ hk => hk.2) (.int .i64 Qm)) (fun _ hk => hk.2) (.slice Qr Q5.length Qs)) (fun _ hk => hk.2) (.slice Qe z6.length Qf)) (fun _ hk => hk.2) (.slice Qg z7.length Qh)) (fun _ hk => hk.2) (.slice Qi z8.length Qj)) (fun _ hk => hk.2) (.slice Qk z9.length Ql))))⟩; replace Zy : Qaa (Kd.R (Kd.int .i64) 3 w62 w.heap.size (fun k_ => (w.heap.size ≤ k_) ∧ some k_ ≠ (.slice Q6 z1.length Q7 : Value).ownBlock ∧ some k_ ≠ (.slice Qc z4.length Qd : Value).ownBlock ∧ some k_ ≠ (.slice Qe z6.length Qf : Value).ownBlock) (.slice Qk z9.length Ql) z9) := ⟨(by rw [hw]; exact (by apply R_u; exact Rm (Kd.R_far (p := ⟨q1, 5, none⟩) (Kd.R_far (p := ⟨q1, 4, none⟩) (Kd.R_far (p := ⟨q1, 3, none⟩) (Kd.R_far (p := ⟨q1, 2, none⟩) (Kd.R_far (p := ⟨q1, 1, none⟩) (Kd.R_far (p := ⟨q1, 0, none⟩) (Kd.R_types Zy.out q7.out (by decide)) (fun _ hk => hk.2) (.int .i64 Qm)) (fun _ hk => hk.2) (.slice Qr Q5.length Qs)) (fun _ hk => hk.2) (.slice Qe z6.length Qf)) (fun _ hk => hk.2) (.slice Qg z7.length Qh)) (fun _ hk => hk.2) (.slice Qi z8.length Qj)) (fun _ hk => hk.2) (.slice Qk z9.length Ql))))⟩; replace q3 := hB hw (Ub q3); replace q4 := hB hw (Ub q4); replace q5 := hB hw (Ub q5); replace q8 := hB hw (Ub q8); replace q7 := hB hw (Uf6 q7); replace HB : Qaa (Below w.heap.size w w62) := ⟨(by rw [hw]; exact (bl HB))⟩; clear hw; have q02 := Z5.out; have q03 := Q0.out; have q04 := Z6.out; have q05 := Q1.out; obtain ⟨G2, G3, G4, G5, G6, G7, G8, G9⟩ := cf4 q5; obtain ⟨Ga, Gb, Gc, Gd, Ge, Gf, Gg, Gh, Gi, Gj, Gk, Gl⟩ := cf6 q7) | ((with_reducible refine gate_builtin (b := .append) (xs := #[.tmp 44, .tmp 46]) rfl ?_); at_builtin; refine Kd.N_append k39 (w0 := w) w.heap.size rfl (.tmp 44) (.tmp 46) 23 39 (.agg #[(.int .i64 0), (.slice none 0 0), (.slice none 0 0), (.slice none 0 0), (.slice none 0 0), (.slice none 0 0)]) 128 rfl Try.underlying23 info39 rfl (by decide) (by omega) j4 q9 (⟨Qm, Q5, z6, z7, z8, z9⟩ : S39) [.int .i64 Qm, .slice Qr Q5.length Qs, .slice Qe z6.length Qf, .slice Qg z7.length Qh, .slice Qi z8.length Qj, .slice Qk z9.length Ql] (fun k_ => (w.heap.size ≤ k_) ∧ some k_ ≠ (.slice Qo x8_2.length Qp : Value).ownBlock ∧ some k_ ≠ (.slice Q6 z1.length Q7 : Value).ownBlock ∧ some k_ ≠ (.slice Q8 z2.length Q9 : Value).ownBlock ∧ some k_ ≠ (.slice Qa z3.length Qb : Value).ownBlock ∧ some k_ ≠ (.slice Qc z4.length Qd : Value).ownBlock ∧ k_ ≠ j5 ∧ k_ ≠ j1 ∧ k_ ≠ j3 ∧ k_ ≠ j2 ∧ k_ ≠ q1) (fun k_ => ((fun k_ => (w.heap.size ≤ k_) ∧ some k_ ≠ (.slice Qo x8_2.length Qp : Value).ownBlock ∧ some k_ ≠ (.slice Q6 z1.length Q7 : Value).ownBlock ∧ some k_ ≠ (.slice Q8 z2.length Q9 : Value).ownBlock ∧ some k_ ≠ (.slice Qa z3.length Qb : Value).ownBlock ∧ some k_ ≠ (.slice Qc z4.length Qd : Value).ownBlock ∧ k_ ≠ j5 ∧ k_ ≠ j1 ∧ k_ ≠ j3 ∧ k_ ≠ j2 ∧ k_ ≠ q1)) k_ ∧ some k_ ≠ (j4 : Value).ownBlock) rfl rfl ?aP (fun _ hk => hk) ?aF ?aO ?aB ?aS ?aL ?_; (case aP => exact (k39_mkF _ _ (⟨Qm, Q5, z6, z7, z8, z9⟩ : S39) (Kd.V_reads' (Kd.V_mono (ok' := (fun k_ => ((fun k_ => (w.heap.size ≤ k_) ∧ some k_ ≠ (.slice Qo x8_2.length Qp : Value).ownBlock ∧ some k_ ≠ (.slice Q6 z1.length Q7 : Value).ownBlock ∧ some k_ ≠ (.slice Q8 z2.length Q9 : Value).ownBlock ∧ some k_ ≠ (.slice Qa z3.length Qb : Value).ownBlock ∧ some k_ ≠ (.slice Qc z4.length Qd : Value).ownBlock ∧ k_ ≠ j5 ∧ k_ ≠ j1 ∧ k_ ≠ j3 ∧ k_ ≠ j2 ∧ k_ ≠ q1)) k_ ∧ some k_ ≠ (j4 : Value).ownBlock)) (Zd.out) (fun k_ hk => ⟨⟨hk.1, ⟨hk.2.1, ⟨hk.2.2.2.1, ⟨hk.2.2.2.2.1, ⟨hk.2.2.2.2.2.1, ⟨hk.2.2.2.2.2.2.1, ⟨hk.2.2.2.2.2.2.2.2.2.2.2.1, ⟨hk.2.2.2.2.2.2.2.2.2.2.2.2.1, ⟨hk.2.2.2.2.2.2.2.2.2.2.2.2.2.1, ⟨hk.2.2.2.2.2.2.2.2.2.2.2.2.2.2.1, hk.2.2.2.2.2.2.2.2.2.2.2.2.2.2.2⟩⟩⟩⟩⟩⟩⟩⟩⟩⟩, hk.2.2.1⟩))).2.1 (Kd.V_F (Kd.V_mono (ok' := (fun k_ => ((fun k_ => (w.heap.size ≤ k_) ∧ some k_ ≠ (.slice Qo x8_2.length Qp : Value).ownBlock ∧ some k_ ≠ (.slice Q6 z1.length Q7 : Value).ownBlock ∧ some k_ ≠ (.slice Q8 z2.length Q9 : Value).ownBlock ∧ some k_ ≠ (.slice Qa z3.length Qb : Value).ownBlock ∧ some k_ ≠ (.slice Qc z4.length Qd : Value).ownBlock ∧ k_ ≠ j5 ∧ k_ ≠ j1 ∧ k_ ≠ j3 ∧ k_ ≠ j2 ∧ k_ ≠ q1)) k_ ∧ some k_ ≠ (j4 : Value).ownBlock)) (Zd.out) (fun k_ hk => ⟨⟨hk.1, ⟨hk.2.1, ⟨hk.2.2.2.1, ⟨hk.2.2.2.2.1, ⟨hk.2.2.2.2.2.1, ⟨hk.2.2.2.2.2.2.1, ⟨hk.2.2.2.2.2.2.2.2.2.2.2.1, ⟨hk.2.2.2.2.2.2.2.2.2.2.2.2.1, ⟨hk.2.2.2.2.2.2.2.2.2.2.2.2.2.1, ⟨hk.2.2.2.2.2.2.2.2.2.2.2.2.2.2.1, hk.2.2.2.2.2.2.2.2.2.2.2.2.2.2.2⟩⟩⟩⟩⟩⟩⟩⟩⟩⟩, hk.2.2.1⟩))) (Kd.R_reads' (Kd.R_mono (ok' := (fun k_ => ((fun k_ => (w.heap.size ≤ k_) ∧ some k_ ≠ (.slice Qo x8_2.length Qp : Value).ownBlock ∧ some k_ ≠ (.slice Q6 z1.length Q7 : Value).ownBlock ∧ some k_ ≠ (.slice Q8 z2.length Q9 : Value).ownBlock ∧ some k_ ≠ (.slice Qa z3.length Qb : Value).ownBlock ∧ some k_ ≠ (.slice Qc z4.length Qd : Value).ownBlock ∧ k_ ≠ j5 ∧ k_ ≠ j1 ∧ k_ ≠ j3 ∧ k_ ≠ j2 ∧ k_ ≠ q1)) k_ ∧ some k_ ≠ (j4 : Value).ownBlock)) (Kd.R_types (Kd.R_types (Kd.R_types (Kd.R_types (Kd.R_types (Kd.R_apart' (Kd.R_apart' (Kd.R_apart' (Kd.R_apart' (Zv.out) (Kd.R_typed j0.out) (by decide)) (Kd.R_typed j7.out) (by decide)) (Kd.R_typed j8.out) (by decide)) (Kd.N_typed q0.out) (by decide)) q3.out (by decide)) q4.out (by decide)) q5.out (by decide)) q8.out (by decide)) q7.out (by decide)) (fun k_ hk => ⟨⟨hk.1.1.1.1.1.1.1.1.1.1, ⟨hk.1.1.1.1.1.1.1.1.2, ⟨hk.1.1.1.1.1.1.1.1.1.2.1, ⟨hk.1.1.1.1.1.1.1.2, ⟨hk.1.1.1.1.1.1.2, ⟨hk.1.1.1.1.1.1.1.1.1.2.2.1, ⟨hk.1.1.1.1.2, ⟨hk.1.1.1.2, ⟨hk.1.1.2, ⟨hk.1.2, hk.2⟩⟩⟩⟩⟩⟩⟩⟩⟩⟩, hk.1.1.1.1.1.2⟩))).2.1 (Kd.R_F (Kd.R_mono (ok' := (fun k_ => ((fun k_ => (w.heap.size ≤ k_) ∧ some k_ ≠ (.slice Qo x8_2.length Qp : Value).ownBlock ∧ some k_ ≠ (.slice Q6 z1.length Q7 : Value).ownBlock ∧ some k_ ≠ (.slice Q8 z2.length Q9 : Value).ownBlock ∧ some k_ ≠ (.slice Qa z3.length Qb : Value).ownBlock ∧ some k_ ≠ (.slice Qc z4.length Qd : Value).ownBlock ∧ k_ ≠ j5 ∧ k_ ≠ j1 ∧ k_ ≠ j3 ∧ k_ ≠ j2 ∧ k_ ≠ q1)) k_ ∧ some k_ ≠ (j4 : Value).ownBlock)) (Kd.R_types (Kd.R_types (Kd.R_types (Kd.R_types (Kd.R_types (Kd.R_apart' (Kd.R_apart' (Kd.R_apart' (Kd.R_apart' (Zv.out) (Kd.R_typed j0.out) (by decide)) (Kd.R_typed j7.out) (by decide)) (Kd.R_typed j8.out) (by decide)) (Kd.N_typed q0.out) (by decide)) q3.out (by decide)) q4.out (by decide)) q5.out (by decide)) q8.out (by decide)) q7.out (by decide)) (fun k_ hk => ⟨⟨hk.1.1.1.1.1.1.1.1.1.1, ⟨hk.1.1.1.1.1.1.1.1.2, ⟨hk.1.1.1.1.1.1.1.1.1.2.1, ⟨hk.1.1.1.1.1.1.1.2, ⟨hk.1.1.1.1.1.1.2, ⟨hk.1.1.1.1.1.1.1.1.1.2.2.1, ⟨hk.1.1.1.1.2, ⟨hk.1.1.1.2, ⟨hk.1.1.2, ⟨hk.1.2, hk.2⟩⟩⟩⟩⟩⟩⟩⟩⟩⟩, hk.1.1.1.1.1.2⟩))) (Kd.R_reads' (Kd.R_mono (ok' := (fun k_ => ((fun k_ => (w.heap.size ≤ k_) ∧ some k_ ≠ (.slice Qo x8_2.length Qp : Value).ownBlock ∧ some k_ ≠ (.slice Q6 z1.length Q7 : Value).ownBlock ∧ some k_ ≠ (.slice Q8 z2.length Q9 : Value).ownBlock ∧ some k_ ≠ (.slice Qa z3.length Qb : Value).ownBlock ∧ some k_ ≠ (.slice Qc z4.length Qd : Value).ownBlock ∧ k_ ≠ j5 ∧ k_ ≠ j1 ∧ k_ ≠ j3 ∧ k_ ≠ j2 ∧ k_ ≠ q1)) k_ ∧ some k_ ≠ (j4 : Value).ownBlock)) (Kd.R_types (Kd.R_types (Kd.R_types (Kd.R_types (Kd.R_types (Kd.R_apart' (Kd.R_apart' (Kd.R_apart' (Kd.R_apart' (Zw.out) (Kd.R_typed j0.out) (by decide)) (Kd.R_typed j6.out) (by decide)) (Kd.R_typed j9.out) (by decide)) (Kd.N_typed q0.out) (by decide)) q3.out (by decide)) q4.out (by decide)) q5.out (by decide)) q8.out (by decide)) q7.out (by decide)) (fun k_ hk => ⟨⟨hk.1.1.1.1.1.1.1.1.1.1, ⟨hk.1.1.1.1.1.1.1.1.2, ⟨hk.1.1.1.1.1.1.1.2, ⟨hk.1.1.1.1.1.1.1.1.1.2.1, ⟨hk.1.1.1.1.1.1.1.1.1.2.2.1, ⟨hk.1.1.1.1.1.1.2, ⟨hk.1.1.1.1.2, ⟨hk.1.1.1.2, ⟨hk.1.1.2, ⟨hk.1.2, hk.2⟩⟩⟩⟩⟩⟩⟩⟩⟩⟩, hk.1.1.1.1.1.2⟩))).2.1 (Kd.R_F (Kd.R_mono (ok' := (fun k_ => ((fun k_ => (w.heap.size ≤ k_) ∧ some k_ ≠ (.slice Qo x8_2.length Qp : Value).ownBlock ∧ some k_ ≠ (.slice Q6 z1.length Q7 : Value).ownBlock ∧ some k_ ≠ (.slice Q8 z2.length Q9 : Value).ownBlock ∧ some k_ ≠ (.slice Qa z3.length Qb : Value).ownBlock ∧ some k_ ≠ (.slice Qc z4.length Qd : Value).ownBlock ∧ k_ ≠ j5 ∧ k_ ≠ j1 ∧ k_ ≠ j3 ∧ k_ ≠ j2 ∧ k_ ≠ q1)) k_ ∧ some k_ ≠ (j4 : Value).ownBlock)) (Kd.R_types (Kd.R_types (Kd.R_types (Kd.R_types (Kd.R_types (Kd.R_apart' (Kd.R_apart' (Kd.R_apart' (Kd.R_apart' (Zw.out) (Kd.R_typed j0.out) (by decide)) (Kd.R_typed j6.out) (by decide)) (Kd.R_typed j9.out) (by decide)) (Kd.N_typed q0.out) (by decide)) q3.out (by decide)) q4.out (by decide)) q5.out (by decide)) q8.out (by decide)) q7.out (by decide)) (fun k_ hk => ⟨⟨hk.1.1.1.1.1.1.1.1.1.1, ⟨hk.1.1.1.1.1.1.1.1.2, ⟨hk.1.1.1.1.1.1.1.2, ⟨hk.1.1.1.1.1.1.1.1.1.2.1, ⟨hk.1.1.1.1.1.1.1.1.1.2.2.1, ⟨hk.1.1.1.1.1.1.2, ⟨hk.1.1.1.1.2, ⟨hk.1.1.1.2, ⟨hk.1.1.2, ⟨hk.1.2, hk.2⟩⟩⟩⟩⟩⟩⟩⟩⟩⟩, hk.1.1.1.1.1.2⟩))) (Kd.R_reads' (Kd.R_mono (ok' := (fun k_ => ((fun k_ => (w.heap.size ≤ k_) ∧ some k_ ≠ (.slice Qo x8_2.length Qp : Value).ownBlock ∧ some k_ ≠ (.slice Q6 z1.length Q7 : Value).ownBlock ∧ some k_ ≠ (.slice Q8 z2.length Q9 : Value).ownBlock ∧ some k_ ≠ (.slice Qa z3.length Qb : Value).ownBlock ∧ some k_ ≠ (.slice Qc z4.length Qd : Value).ownBlock ∧ k_ ≠ j5 ∧ k_ ≠ j1 ∧ k_ ≠ j3 ∧ k_ ≠ j2 ∧ k_ ≠ q1)) k_ ∧ some k_ ≠ (j4 : Value).ownBlock)) (Kd.R_types (Kd.R_types (Kd.R_types (Kd.R_types (Kd.R_types (Kd.R_apart' (Kd.R_apart' (Kd.R_apart' (Kd.R_apart' (Zx.out) (Kd.R_typed j0.out) (by decide)) (Kd.R_typed j6.out) (by decide)) (Kd.R_typed j9.out) (by decide)) (Kd.N_typed q0.out) (by decide)) q3.out (by decide)) q4.out (by decide)) q5.out (by decide)) q8.out (by decide)) q7.out (by decide)) (fun k_ hk => ⟨⟨hk.1.1.1.1.1.1.1.1.1.1, ⟨hk.1.1.1.1.1.1.1.1.2, ⟨hk.1.1.1.1.1.1.1.2, ⟨hk.1.1.1.1.1.1.1.1.1.2.1, ⟨hk.1.1.1.1.1.1.1.1.1.2.2.1, ⟨hk.1.1.1.1.1.1.2, ⟨hk.1.1.1.1.2, ⟨hk.1.1.1.2, ⟨hk.1.1.2, ⟨hk.1.2, hk.2⟩⟩⟩⟩⟩⟩⟩⟩⟩⟩, hk.1.1.1.1.1.2⟩))).2.1 (Kd.R_F (Kd.R_mono (ok' := (fun k_ => ((fun k_ => (w.heap.size ≤ k_) ∧ some k_ ≠ (.slice Qo x8_2.length Qp : Value).ownBlock ∧ some k_ ≠ (.slice Q6 z1.length Q7 : Value).ownBlock ∧ some k_ ≠ (.slice Q8 z2.length Q9 : Value).ownBlock ∧ some k_ ≠ (.slice Qa z3.length Qb : Value).ownBlock ∧ some k_ ≠ (.slice Qc z4.length Qd : Value).ownBlock ∧ k_ ≠ j5 ∧ k_ ≠ j1 ∧ k_ ≠ j3 ∧ k_ ≠ j2 ∧ k_ ≠ q1)) k_ ∧ some k_ ≠ (j4 : Value).ownBlock)) (Kd.R_types (Kd.R_types (Kd.R_types (Kd.R_types (Kd.R_types (Kd.R_apart' (Kd.R_apart' (Kd.R_apart' (Kd.R_apart' (Zx.out) (Kd.R_typed j0.out) (by decide)) (Kd.R_typed j6.out) (by decide)) (Kd.R_typed j9.out) (by decide)) (Kd.N_typed q0.out) (by decide)) q3.out (by decide)) q4.out (by decide)) q5.out (by decide)) q8.out (by decide)) q7.out (by decide)) (fun k_ hk => ⟨⟨hk.1.1.1.1.1.1.1.1.1.1, ⟨hk.1.1.1.1.1.1.1.1.2, ⟨hk.1.1.1.1.1.1.1.2, ⟨hk.1.1.1.1.1.1.1.1.1.2.1, ⟨hk.1.1.1.1.1.1.1.1.1.2.2.1, ⟨hk.1.1.1.1.1.1.2, ⟨hk.1.1.1.1.2, ⟨hk.1.1.1.2, ⟨hk.1.1.2, ⟨hk.1.2, hk.2⟩⟩⟩⟩⟩⟩⟩⟩⟩⟩, hk.1.1.1.1.1.2⟩))) (Kd.R_reads' (Kd.R_mono (ok' := (fun k_ => ((fun k_ => (w.heap.size ≤ k_) ∧ some k_ ≠ (.slice Qo x8_2.length Qp : Value).ownBlock ∧ some k_ ≠ (.slice Q6 z1.length Q7 : Value).ownBlock ∧ some k_ ≠ (.slice Q8 z2.length Q9 : Value).ownBlock ∧ some k_ ≠ (.slice Qa z3.length Qb : Value).ownBlock ∧ some k_ ≠ (.slice Qc z4.length Qd : Value).ownBlock ∧ k_ ≠ j5 ∧ k_ ≠ j1 ∧ k_ ≠ j3 ∧ k_ ≠ j2 ∧ k_ ≠ q1)) k_ ∧ some k_ ≠ (j4 : Value).ownBlock)) (Kd.R_types (Kd.R_types (Kd.R_types (Kd.R_types (Kd.R_types (Kd.R_apart' (Kd.R_apart' (Kd.R_apart' (Kd.R_apart' (Zy.out) (Kd.R_typed j0.out) (by decide)) (Kd.R_typed j7.out) (by decide)) (Kd.R_typed j8.out) (by decide)) (Kd.N_typed q0.out) (by decide)) q3.out (by decide)) q4.out (by decide)) q5.out (by decide)) q8.out (by decide)) q7.out (by decide)) (fun k_ hk => ⟨⟨hk.1.1.1.1.1.1.1.1.1.1, ⟨hk.1.1.1.1.1.1.1.1.2, ⟨hk.1.1.1.1.1.1.1.1.1.2.1, ⟨hk.1.1.1.1.1.1.1.2, ⟨hk.1.1.1.1.1.1.2, ⟨hk.1.1.1.1.1.1.1.1.1.2.2.1, ⟨hk.1.1.1.1.2, ⟨hk.1.1.1.2, ⟨hk.1.1.2, ⟨hk.1.2, hk.2⟩⟩⟩⟩⟩⟩⟩⟩⟩⟩, hk.1.1.1.1.1.2⟩))).2.1 (Kd.R_F (Kd.R_mono (ok' := (fun k_ => ((fun k_ => (w.heap.size ≤ k_) ∧ some k_ ≠ (.slice Qo x8_2.length Qp : Value).ownBlock ∧ some k_ ≠ (.slice Q6 z1.length Q7 : Value).ownBlock ∧ some k_ ≠ (.slice Q8 z2.length Q9 : Value).ownBlock ∧ some k_ ≠ (.slice Qa z3.length Qb : Value).ownBlock ∧ some k_ ≠ (.slice Qc z4.length Qd : Value).ownBlock ∧ k_ ≠ j5 ∧ k_ ≠ j1 ∧ k_ ≠ j3 ∧ k_ ≠ j2 ∧ k_ ≠ q1)) k_ ∧ some k_ ≠ (j4 : Value).ownBlock)) (Kd.R_types (Kd.R_types (Kd.R_types (Kd.R_types (Kd.R_types (Kd.R_apart' (Kd.R_apart' (Kd.R_apart' (Kd.R_apart' (Zy.out) (Kd.R_typed j0.out) (by decide)) (Kd.R_typed j7.out) (by decide)) (Kd.R_typed j8.out) (by decide)) (Kd.N_typed q0.out) (by decide)) q3.out (by decide)) q4.out (by decide)) q5.out (by decide)) q8.out (by decide)) q7.out (by decide)) (fun k_ hk => ⟨⟨hk.1.1.1.1.1.1.1.1.1.1, ⟨hk.1.1.1.1.1.1.1.1.2, ⟨hk.1.1.1.1.1.1.1.1.1.2.1, ⟨hk.1.1.1.1.1.1.1.2, ⟨hk.1.1.1.1.1.1.2, ⟨hk.1.1.1.1.1.1.1.1.1.2.2.1, ⟨hk.1.1.1.1.2, ⟨hk.1.1.1.2, ⟨hk.1.1.2, ⟨hk.1.2, hk.2⟩⟩⟩⟩⟩⟩⟩⟩⟩⟩, hk.1.1.1.1.1.2⟩))))); (case aB => exact (bl HB)); (case aF => exact (fun k_ hk => ⟨(Nat.le_trans (below_size (bl HB)) hk), Kd.fresh' (Kd.R_lt (R_u j0.out)) k_ hk, Kd.fresh' (Kd.R_lt (R_u j6.out)) k_ hk, Kd.fresh' (Kd.R_lt (R_u j7.out)) k_ hk, Kd.fresh' (Kd.R_lt (R_u j8.out)) k_ hk, Kd.fresh' (Kd.R_lt (R_u j9.out)) k_ hk, Kd.freshB (Ub q3) k_ hk, Kd.freshB (Ub q4) k_ hk, Kd.freshB (Ub q5) k_ hk, Kd.freshB (Ub q8) k_ hk, Kd.freshB (Ub q7) k_ hk⟩)); (case aO => exact (by apply N_u; exact Nm q0.out)); (case aS => exact (below_size (bl HB))); (case aL => have := LMc34.out; omega); intro q10 w67 ho hb hg hat; rw [← Ny689.out] at ho; have Yh := Qaa.mk (ho); replace j0 := Qaa.mk (Kd.R_over' (R_u j0.out) (Kd.N_typed (N_u q0.out)) (by decide) hg); replace q3 := Qaa.mk (blk_grown (Ub q3) hg (Kd.N_ne q0.out q3.out (by decide))); replace q4 := Qaa.mk (blk_grown (Ub q4) hg (Kd.N_ne q0.out q4.out (by decide))); replace q5 := Qaa.mk (blk_grown (Ub q5) hg (Kd.N_ne q0.out q5.out (by decide))); replace q8 := Qaa.mk (blk_grown (Ub q8) hg (Kd.N_away q0.out (fun _ hk => hk.2.2.2.2.2.2.2.2.2.2.2.2.2.2.1))); replace z0 := Qaa.mk (Kd.R_over' (R_u z0.out) (Kd.N_typed (N_u q0.out)) (by decide) hg); replace j6 := Qaa.mk (Kd.R_over' (R_u j6.out) (Kd.N_typed (N_u q0.out)) (by decide) hg); replace j7 := Qaa.mk (Kd.R_over' (R_u j7.out) (Kd.N_typed (N_u q0.out)) (by decide) hg); replace j8 := Qaa.mk (Kd.R_over' (R_u j8.out) (Kd.N_typed (N_u q0.out)) (by decide) hg); replace j9 := Qaa.mk (Kd.R_over' (R_u j9.out) (Kd.N_typed (N_u q0.out)) (by decide) hg); replace q7 := Qaa.mk (blk_grown (Ub q7) hg (Kd.N_away q0.out (fun _ hk => hk.2.2.2.2.2.2.2.2.2.2.2.2.2.2.2))); replace Zd := Qaa.mk (Kd.V_afterv (ok := (fun k_ => (w.heap.size ≤ k_) ∧ some k_ ≠ (.slice Qo x8_2.length Qp : Value).ownBlock ∧ some k_ ≠ (.slice Q6 z1.length Q7 : Value).ownBlock ∧ some k_ ≠ (.slice Q8 z2.length Q9 : Value).ownBlock ∧ some k_ ≠ (.slice Qa z3.length Qb : Value).ownBlock ∧ some k_ ≠ (.slice Qc z4.length Qd : Value).ownBlock ∧ some k_ ≠ (.slice Qe z6.length Qf : Value).ownBlock ∧ some k_ ≠ (.slice Qg z7.length Qh : Value).ownBlock ∧ some k_ ≠ (.slice Qi z8.length Qj : Value).ownBlock ∧ some k_ ≠ (.slice Qk z9.length Ql : Value).ownBlock ∧ k_ ≠ j5 ∧ k_ ≠ j1 ∧ k_ ≠ j3 ∧ k_ ≠ j2 ∧ k_ ≠ q1)) (by apply V_u; exact Vm Zd.out) hg hat); replace HB := Qaa.mk (hb); clear q0; clear Zv; clear Zw; clear Zx; clear Zy; clear ho hb hg hat; obtain ⟨X3, X4, eo68⟩ := Kd.N_slice Yh.out; subst eo68; obtain ⟨Gm, Gn, Gp, Gq, Gr, Gs, Gt, Gu⟩ := cf4 q5))
           go_roundg k2
           case measure => have := HK1.out; have := HK2.out; omega
           case rel => exact ⟨(wrap64 (x18_1 + 1)), (y689), (.slice X3 y689.length X4), (by first | rfl | (simp; done) | (simp [*]; done)), H', ⟨by have := HK1.out; have := HK2.out; omega⟩, ⟨by apply N_u; exact Nm (Kd.N_far (p := ⟨j3, 1, none⟩) (Kd.N_mono Yh.out (fun k_ hk => (⟨hk, hk.2.2.2.2.2.2.2.2.1⟩ : _ ∧ k_ ≠ j3))) (fun _ hk => hk.2) (.slice X3 y689.length X4))⟩, ⟨by apply blk_u; refine blk_far ?_ Q0.out _; apply blk_u; exact q3.out⟩, ⟨by apply blk_u; refine blk_far ?_ Q1.out _; apply blk_u; exact q4.out⟩, ⟨by apply blk_u; refine blk_put (cs := #[.int .i64 (l1.length : Int), j4, .bool true, .slice none 0 0]) ?_ 1 _ rfl; apply blk_u; exact q5.out⟩, ⟨bl HB⟩⟩
          ·
           rw [if_neg c34] at H
           exact absurd H (by simp)
         ·
          replace c32 := Bool.eq_false_iff.mpr c32
          subst c32
          have H1 : (if q9.length < 1099511627776 then (Qam.l0 k2 l1 q2 (q2.length : Int) (wrap64 (x18_1 + 1)) (l1.length : Int) (q9 ++ [(⟨Qw, Qn, z1, z2, z3, z4⟩ : S39)]) true) else (none)) = some (r1, r2, r3, r4) := by rw [if_neg (show ¬ (false = true) by decide)] at H; exact H
          clear H
          have H := H1
          clear H1
          by_cases c70 : q9.length < 1099511627776
          ·
           rw [if_pos c70] at H
           have LMc70 := Qaa.mk c70
           clear c70
           obtain ⟨y692, hy692⟩ : ∃ y_ : List (S39), y_ = (q9 ++ [(⟨Qw, Qn, z1, z2, z3, z4⟩ : S39)]) := ⟨_, rfl⟩
           replace H : (Qam.l0 k2 l1 q2 (q2.length : Int) (wrap64 (x18_1 + 1)) (l1.length : Int) y692 true) = some (r1, r2, r3, r4) := by first | (rw [hy692]; with_reducible exact H) | (have H2_ := (Option.bind_some _ _).symm.trans H; rw [hy692]; with_reducible exact H2_) | (have H2_ := (Option.bind_some _ _).symm.trans H; with_reducible exact H2_) | with_reducible exact H | (rw [hy692]; exact H) | exact H
           have Ny692 := Qaa.mk hy692
           clear hy692
           have H' := Qaa.mk H
           clear H
           have q06 := Z7.out
           have q07 := Q2.out
           have q08 := Z8.out
           have q09 := Q3.out
           have q0a := Z9.out
           have q0b := Q4.out
           obtain ⟨Gv, Gw, Gx, Gy, Gz, F0, F1, F2, F3, F4, F5, F6⟩ := cf6 q8
           obtain ⟨Qx, Qy, eo75⟩ := Kd.R_slice j0.out
           subst eo75
           go_wp2_with (first | ((with_reducible refine gate_callee (f := 29) rfl ?_); refine gL (some 38) Try.func29 #[.int .i64 ((rd_T39 q2 x18_1).f0), .slice Qx x8_2.length Qy] ?_; (with_reducible refine (Qax.calls k2 ((rd_T39 q2 x18_1).f0) _ _ x8_2 Qw Qn z1 z2 z3 z4 _ ?side1 ?side2 A30.out).mono ?_); (case side1 => exact Cu (Kd.R_reads' j0.out).2.2); (case side2 => exact (Kd.R_reads' j0.out).2.1); rintro e w76 ⟨Xe, Xf, Xg, Xh, Xi, rfl, ho0, ho1, ho2, ho3, ho4, hb⟩; refine ⟨_, rfl, ?_⟩; have z0 := Qaa.mk (Kd.R_lower (Kd.R_newM (M := fun k_ => (w.heap.size ≤ k_)) ho0 (below_size (bl HB)) (fun k_ h_ => h_)) (below_size (bl HB))); have j6 := Qaa.mk (Kd.R_lower (Kd.R_newM (M := fun k_ => (w.heap.size ≤ k_)) ho1 (below_size (bl HB)) (fun k_ h_ => h_)) (below_size (bl HB))); have j7 := Qaa.mk (Kd.R_lower (Kd.R_newM (M := fun k_ => (w.heap.size ≤ k_)) ho2 (below_size (bl HB)) (fun k_ h_ => h_)) (below_size (bl HB))); have j8 := Qaa.mk (Kd.R_lower (Kd.R_newM (M := fun k_ => (w.heap.size ≤ k_)) ho3 (below_size (bl HB)) (fun k_ h_ => h_)) (below_size (bl HB))); have j9 := Qaa.mk (Kd.R_lower (Kd.R_newM (M := fun k_ => (w.heap.size ≤ k_)) ho4 (below_size (bl HB)) (fun k_ h_ => h_)) (below_size (bl HB))); replace j0 := Rb j0 hb; replace q0 := Qaa.mk (Kd.N_mono (Kd.N_told (Kd.N_told (Kd.N_told (Kd.N_told (Kd.N_told (Kd.N_old (N_u q0.out) hb) (Kd.R_base ho0)) (Kd.R_base ho1)) (Kd.R_base ho2)) (Kd.R_base ho3)) (Kd.R_base ho4)) (fun _ h_ => h_.1)); replace q3 := Bb q3 hb; replace q4 := Bb q4 hb; replace q5 := Bb q5 hb; replace q8 := Bb q8 hb; replace HB := bs HB hb; (try clear hb); (try clear ho0); (try clear ho1); (try clear ho2); (try clear ho3); (try clear ho4)) | ((with_reducible refine gate_dst (N := 11) rfl ?_); refine bx 11 #[.int .i64 0, .slice none 0 0, .slice none 0 0, .slice none 0 0, .slice none 0 0, .slice none 0 0] 39 ?_; intro q1 hg w77 hbox hb; have q7 := Qaa.mk (hbox); have Xc := Qaa.mk ((by rw [hg]; exact (below_size (bl HB)) : w.heap.size ≤ q1)); have Xd := Qaa.mk ((by rw [hg]; exact (below_size (bl HB)) : w.heap.size ≤ q1)); have Zg := Qaa.mk ((by rw [hg]; exact Nat.ne_of_lt (blk_lt (Ub q3)) : j5 ≠ q1)); have Zh := Qaa.mk ((by rw [hg]; exact Nat.ne_of_gt (blk_lt (Ub q3)) : q1 ≠ j5)); have Zi := Qaa.mk ((by rw [hg]; exact Nat.ne_of_lt (blk_lt (Ub q4)) : j1 ≠ q1)); have Zj := Qaa.mk ((by rw [hg]; exact Nat.ne_of_gt (blk_lt (Ub q4)) : q1 ≠ j1)); have Zk := Qaa.mk ((by rw [hg]; exact Nat.ne_of_lt (blk_lt (Ub q5)) : j3 ≠ q1)); have Zl := Qaa.mk ((by rw [hg]; exact Nat.ne_of_gt (blk_lt (Ub q5)) : q1 ≠ j3)); have Zm := Qaa.mk ((by rw [hg]; exact Nat.ne_of_lt (blk_lt (Ub q8)) : j2 ≠ q1)); have Zn := Qaa.mk ((by rw [hg]; exact Nat.ne_of_gt (blk_lt (Ub q8)) : q1 ≠ j2)); replace j0 := Rb j0 hb; replace q0 := Qaa.mk (Kd.N_below (Kd.N_elderB (N_u q0.out) q1 (Nat.le_of_eq hg.symm)) hb); replace z0 := Rb z0 hb; replace j6 := Rb j6 hb; replace j7 := Rb j7 hb; replace j8 := Rb j8 hb; replace j9 := Rb j9 hb; replace q3 := Bb q3 hb; replace q4 := Bb q4 hb; replace q5 := Bb q5 hb; replace q8 := Bb q8 hb; replace HB := bs HB hb; clear hb hbox hg; have q0c := Zh.out; have q0d := Zg.out; have q0e := Zj.out; have q0f := Zi.out; have q0g := Zl.out; have q0h := Zk.out; have q0i := Zn.out; have q0j := Zm.out; obtain ⟨F7, F8, F9, Fa, Fb, Fc, Fd, Fe, Ff, Fg, Fh, Fi⟩ := cf6 q7; obtain ⟨Xj, Xk, eo83⟩ := Kd.R_slice z0.out; subst eo83; obtain ⟨Xl, Xm, eo84⟩ := Kd.R_slice j6.out; subst eo84; obtain ⟨Xn, Xo, eo85⟩ := Kd.R_slice j7.out; subst eo85; obtain ⟨Xp, Xq, eo86⟩ := Kd.R_slice j8.out; subst eo86; obtain ⟨Xr, Xs, eo87⟩ := Kd.R_slice j9.out; subst eo87; obtain ⟨Fj, Fk, Fl, Fm, Fn, Fo, Fp, Fq, Fr, Fs, Ft, Fu⟩ := cf6 q8) | ((with_reducible refine gate_callee (f := 36) rfl ?_); refine gL (some 40) Try.func36 #[.agg #[.int .i64 ((rd_T39 q2 x18_1).f0), .slice Qu ((rd_T39 q2 x18_1).f1).length Qv, .slice Qz ((rd_T39 q2 x18_1).f2).length Z0, .slice Z3 ((rd_T39 q2 x18_1).f3).length Z4, .slice Za ((rd_T39 q2 x18_1).f4).length Zb, .slice Ze ((rd_T39 q2 x18_1).f5).length Zf]] ?_; (with_reducible refine (Qar.calls ((rd_T39 q2 x18_1).f0) _ _ ((rd_T39 q2 x18_1).f1) _ _ ((rd_T39 q2 x18_1).f2) _ _ ((rd_T39 q2 x18_1).f3) _ _ ((rd_T39 q2 x18_1).f4) _ _ ((rd_T39 q2 x18_1).f5) false _ ?side1 ?side2 ?side3 ?side4 ?side5 ?side6 ?side7 ?side8 ?side9 ?side10 A31.out).mono ?_); (case side1 => exact Kd.C_below J7.out (bl HB)); (case side2 => exact J8.out); (case side3 => exact Kd.C_below J9.out (bl HB)); (case side4 => exact Ja.out); (case side5 => exact Kd.C_below Jb.out (bl HB)); (case side6 => exact Jc.out); (case side7 => exact Kd.C_below Jd.out (bl HB)); (case side8 => exact Je.out); (case side9 => exact Kd.C_below Jf.out (bl HB)); (case side10 => exact Jg.out); rintro e w89 ⟨rfl, hb⟩; refine ⟨_, rfl, ?_⟩; replace j0 := Qaa.mk (Kd.R_below (Rf j0 q7) hb); replace q0 := Qaa.mk (Kd.N_below (Nf (g := q1) q0 (fun _ hk => hk.2)) hb); replace z0 := Qaa.mk (Kd.R_below (Rf z0 q7) hb); replace j6 := Qaa.mk (Kd.R_below (Rf j6 q7) hb); replace j7 := Qaa.mk (Kd.R_below (Rf j7 q7) hb); replace j8 := Qaa.mk (Kd.R_below (Rf j8 q7) hb); replace j9 := Qaa.mk (Kd.R_below (Rf j9 q7) hb); replace q3 := Bb q3 hb; replace q4 := Bb q4 hb; replace q5 := Bb q5 hb; replace q8 := Bb q8 hb; replace q7 := Qaa.mk (blk_below (Uf6 q7) hb); replace HB := bs HB hb; (try clear hb); (try clear hk); have q0k := Z5.out; have q0l := Q0.out; have q0m := Z6.out; have q0n := Q1.out; obtain ⟨Fv, Fw, Fx, Fy, Fz, D0, D1, D2⟩ := cf4 q5; obtain ⟨D3, D4, D5, D6, D7, D8, D9, Da, Db, Dc, Dd, De⟩ := cf6 q7) | ((with_reducible refine gate_builtin (b := .append) (xs := #[.tmp 44, .tmp 46]) rfl ?_); at_builtin; refine Kd.N_append k39 (w0 := w) w.heap.size rfl (.tmp 44) (.tmp 46) 23 39 (.agg #[(.int .i64 0), (.slice none 0 0), (.slice none 0 0), (.slice none 0 0), (.slice none 0 0), (.slice none 0 0)]) 128 rfl Try.underlying23 info39 rfl (by decide) (by omega) j4 q9 (⟨Qw, Qn, z1, z2, z3, z4⟩ : S39) [.int .i64 Qw, .slice Xj Qn.length Xk, .slice Xl z1.length Xm, .slice Xn z2.length Xo, .slice Xp z3.length Xq, .slice Xr z4.length Xs] (fun k_ => (w.heap.size ≤ k_) ∧ some k_ ≠ (.slice Qx x8_2.length Qy : Value).ownBlock ∧ k_ ≠ j5 ∧ k_ ≠ j1 ∧ k_ ≠ j3 ∧ k_ ≠ j2 ∧ k_ ≠ q1) (fun k_ => ((fun k_ => (w.heap.size ≤ k_) ∧ some k_ ≠ (.slice Qx x8_2.length Qy : Value).ownBlock ∧ k_ ≠ j5 ∧ k_ ≠ j1 ∧ k_ ≠ j3 ∧ k_ ≠ j2 ∧ k_ ≠ q1)) k_ ∧ some k_ ≠ (j4 : Value).ownBlock) rfl rfl ?aP (fun _ hk => hk) ?aF ?aO ?aB ?aS ?aL ?_; (case aP => exact (k39_mkF _ _ (⟨Qw, Qn, z1, z2, z3, z4⟩ : S39) (Kd.R_reads' (Kd.R_mono (ok' := (fun k_ => ((fun k_ => (w.heap.size ≤ k_) ∧ some k_ ≠ (.slice Qx x8_2.length Qy : Value).ownBlock ∧ k_ ≠ j5 ∧ k_ ≠ j1 ∧ k_ ≠ j3 ∧ k_ ≠ j2 ∧ k_ ≠ q1)) k_ ∧ some k_ ≠ (j4 : Value).ownBlock)) (Kd.R_types (Kd.R_types (Kd.R_types (Kd.R_types (Kd.R_types (Kd.R_apart' (Kd.R_apart' (z0.out) (Kd.R_typed j0.out) (by decide)) (Kd.N_typed q0.out) (by decide)) q3.out (by decide)) q4.out (by decide)) q5.out (by decide)) q8.out (by decide)) q7.out (by decide)) (fun k_ hk => ⟨⟨hk.1.1.1.1.1.1.1.1, ⟨hk.1.1.1.1.1.1.2, ⟨hk.1.1.1.1.2, ⟨hk.1.1.1.2, ⟨hk.1.1.2, ⟨hk.1.2, hk.2⟩⟩⟩⟩⟩⟩, hk.1.1.1.1.1.2⟩))).2.1 (Kd.R_F (Kd.R_mono (ok' := (fun k_ => ((fun k_ => (w.heap.size ≤ k_) ∧ some k_ ≠ (.slice Qx x8_2.length Qy : Value).ownBlock ∧ k_ ≠ j5 ∧ k_ ≠ j1 ∧ k_ ≠ j3 ∧ k_ ≠ j2 ∧ k_ ≠ q1)) k_ ∧ some k_ ≠ (j4 : Value).ownBlock)) (Kd.R_types (Kd.R_types (Kd.R_types (Kd.R_types (Kd.R_types (Kd.R_apart' (Kd.R_apart' (z0.out) (Kd.R_typed j0.out) (by decide)) (Kd.N_typed q0.out) (by decide)) q3.out (by decide)) q4.out (by decide)) q5.out (by decide)) q8.out (by decide)) q7.out (by decide)) (fun k_ hk => ⟨⟨hk.1.1.1.1.1.1.1.1, ⟨hk.1.1.1.1.1.1.2, ⟨hk.1.1.1.1.2, ⟨hk.1.1.1.2, ⟨hk.1.1.2, ⟨hk.1.2, hk.2⟩⟩⟩⟩⟩⟩, hk.1.1.1.1.1.2⟩))) (Kd.R_reads' (Kd.R_mono (ok' := (fun k_ => ((fun k_ => (w.heap.size ≤ k_) ∧ some k_ ≠ (.slice Qx x8_2.length Qy : Value).ownBlock ∧ k_ ≠ j5 ∧ k_ ≠ j1 ∧ k_ ≠ j3 ∧ k_ ≠ j2 ∧ k_ ≠ q1)) k_ ∧ some k_ ≠ (j4 : Value).ownBlock)) (Kd.R_types (Kd.R_types (Kd.R_types (Kd.R_types (Kd.R_types (Kd.R_apart' (Kd.R_apart' (j6.out) (Kd.R_typed j0.out) (by decide)) (Kd.N_typed q0.out) (by decide)) q3.out (by decide)) q4.out (by decide)) q5.out (by decide)) q8.out (by decide)) q7.out (by decide)) (fun k_ hk => ⟨⟨hk.1.1.1.1.1.1.1.1, ⟨hk.1.1.1.1.1.1.2, ⟨hk.1.1.1.1.2, ⟨hk.1.1.1.2, ⟨hk.1.1.2, ⟨hk.1.2, hk.2⟩⟩⟩⟩⟩⟩, hk.1.1.1.1.1.2⟩))).2.1 (Kd.R_F (Kd.R_mono (ok' := (fun k_ => ((fun k_ => (w.heap.size ≤ k_) ∧ some k_ ≠ (.slice Qx x8_2.length Qy : Value).ownBlock ∧ k_ ≠ j5 ∧ k_ ≠ j1 ∧ k_ ≠ j3 ∧ k_ ≠ j2 ∧ k_ ≠ q1)) k_ ∧ some k_ ≠ (j4 : Value).ownBlock)) (Kd.R_types (Kd.R_types (Kd.R_types (Kd.R_types (Kd.R_types (Kd.R_apart' (Kd.R_apart' (j6.out) (Kd.R_typed j0.out) (by decide)) (Kd.N_typed q0.out) (by decide)) q3.out (by decide)) q4.out (by decide)) q5.out (by decide)) q8.out (by decide)) q7.out (by decide)) (fun k_ hk => ⟨⟨hk.1.1.1.1.1.1.1.1, ⟨hk.1.1.1.1.1.1.2, ⟨hk.1.1.1.1.2, ⟨hk.1.1.1.2, ⟨hk.1.1.2, ⟨hk.1.2, hk.2⟩⟩⟩⟩⟩⟩, hk.1.1.1.1.1.2⟩))) (Kd.R_reads' (Kd.R_mono (ok' := (fun k_ => ((fun k_ => (w.heap.size ≤ k_) ∧ some k_ ≠ (.slice Qx x8_2.length Qy : Value).ownBlock ∧ k_ ≠ j5 ∧ k_ ≠ j1 ∧ k_ ≠ j3 ∧ k_ ≠ j2 ∧ k_ ≠ q1)) k_ ∧ some k_ ≠ (j4 : Value).ownBlock)) (Kd.R_types (Kd.R_types (Kd.R_types (Kd.R_types (Kd.R_types (Kd.R_apart' (Kd.R_apart' (j7.out) (Kd.R_typed j0.out) (by decide)) (Kd.N_typed q0.out) (by decide)) q3.out (by decide)) q4.out (by decide)) q5.out (by decide)) q8.out (by decide)) q7.out (by decide)) (fun k_ hk => ⟨⟨hk.1.1.1.1.1.1.1.1, ⟨hk.1.1.1.1.1.1.2, ⟨hk.1.1.1.1.2, ⟨hk.1.1.1.2, ⟨hk.1.1.2, ⟨hk.1.2, hk.2⟩⟩⟩⟩⟩⟩, hk.1.1.1.1.1.2⟩))).2.1 (Kd.R_F (Kd.R_mono (ok' := (fun k_ => ((fun k_ => (w.heap.size ≤ k_) ∧ some k_ ≠ (.slice Qx x8_2.length Qy : Value).ownBlock ∧ k_ ≠ j5 ∧ k_ ≠ j1 ∧ k_ ≠ j3 ∧ k_ ≠ j2 ∧ k_ ≠ q1)) k_ ∧ some k_ ≠ (j4 : Value).ownBlock)) (Kd.R_types (Kd.R_types (Kd.R_types (Kd.R_types (Kd.R_types (Kd.R_apart' (Kd.R_apart' (j7.out) (Kd.R_typed j0.out) (by decide)) (Kd.N_typed q0.out) (by decide)) q3.out (by decide)) q4.out (by decide)) q5.out (by decide)) q8.out (by decide)) q7.out (by decide)) (fun k_ hk => ⟨⟨hk.1.1.1.1.1.1.1.1, ⟨hk.1.1.1.1.1.1.2, ⟨hk.1.1.1.1.2, ⟨hk.1.1.1.2, ⟨hk.1.1.2, ⟨hk.1.2, hk.2⟩⟩⟩⟩⟩⟩, hk.1.1.1.1.1.2⟩))) (Kd.R_reads' (Kd.R_mono (ok' := (fun k_ => ((fun k_ => (w.heap.size ≤ k_) ∧ some k_ ≠ (.slice Qx x8_2.length Qy : Value).ownBlock ∧ k_ ≠ j5 ∧ k_ ≠ j1 ∧ k_ ≠ j3 ∧ k_ ≠ j2 ∧ k_ ≠ q1)) k_ ∧ some k_ ≠ (j4 : Value).ownBlock)) (Kd.R_types (Kd.R_types (Kd.R_types (Kd.R_types (Kd.R_types (Kd.R_apart' (Kd.R_apart' (j8.out) (Kd.R_typed j0.out) (by decide)) (Kd.N_typed q0.out) (by decide)) q3.out (by decide)) q4.out (by decide)) q5.out (by decide)) q8.out (by decide)) q7.out (by decide)) (fun k_ hk => ⟨⟨hk.1.1.1.1.1.1.1.1, ⟨hk.1.1.1.1.1.1.2, ⟨hk.1.1.1.1.2, ⟨hk.1.1.1.2, ⟨hk.1.1.2, ⟨hk.1.2, hk.2⟩⟩⟩⟩⟩⟩, hk.1.1.1.1.1.2⟩))).2.1 (Kd.R_F (Kd.R_mono (ok' := (fun k_ => ((fun k_ => (w.heap.size ≤ k_) ∧ some k_ ≠ (.slice Qx x8_2.length Qy : Value).ownBlock ∧ k_ ≠ j5 ∧ k_ ≠ j1 ∧ k_ ≠ j3 ∧ k_ ≠ j2 ∧ k_ ≠ q1)) k_ ∧ some k_ ≠ (j4 : Value).ownBlock)) (Kd.R_types (Kd.R_types (Kd.R_types (Kd.R_types (Kd.R_types (Kd.R_apart' (Kd.R_apart' (j8.out) (Kd.R_typed j0.out) (by decide)) (Kd.N_typed q0.out) (by decide)) q3.out (by decide)) q4.out (by decide)) q5.out (by decide)) q8.out (by decide)) q7.out (by decide)) (fun k_ hk => ⟨⟨hk.1.1.1.1.1.1.1.1, ⟨hk.1.1.1.1.1.1.2, ⟨hk.1.1.1.1.2, ⟨hk.1.1.1.2, ⟨hk.1.1.2, ⟨hk.1.2, hk.2⟩⟩⟩⟩⟩⟩, hk.1.1.1.1.1.2⟩))) (Kd.R_reads' (Kd.R_mono (ok' := (fun k_ => ((fun k_ => (w.heap.size ≤ k_) ∧ some k_ ≠ (.slice Qx x8_2.length Qy : Value).ownBlock ∧ k_ ≠ j5 ∧ k_ ≠ j1 ∧ k_ ≠ j3 ∧ k_ ≠ j2 ∧ k_ ≠ q1)) k_ ∧ some k_ ≠ (j4 : Value).ownBlock)) (Kd.R_types (Kd.R_types (Kd.R_types (Kd.R_types (Kd.R_types (Kd.R_apart' (Kd.R_apart' (j9.out) (Kd.R_typed j0.out) (by decide)) (Kd.N_typed q0.out) (by decide)) q3.out (by decide)) q4.out (by decide)) q5.out (by decide)) q8.out (by decide)) q7.out (by decide)) (fun k_ hk => ⟨⟨hk.1.1.1.1.1.1.1.1, ⟨hk.1.1.1.1.1.1.2, ⟨hk.1.1.1.1.2, ⟨hk.1.1.1.2, ⟨hk.1.1.2, ⟨hk.1.2, hk.2⟩⟩⟩⟩⟩⟩, hk.1.1.1.1.1.2⟩))).2.1 (Kd.R_F (Kd.R_mono (ok' := (fun k_ => ((fun k_ => (w.heap.size ≤ k_) ∧ some k_ ≠ (.slice Qx x8_2.length Qy : Value).ownBlock ∧ k_ ≠ j5 ∧ k_ ≠ j1 ∧ k_ ≠ j3 ∧ k_ ≠ j2 ∧ k_ ≠ q1)) k_ ∧ some k_ ≠ (j4 : Value).ownBlock)) (Kd.R_types (Kd.R_types (Kd.R_types (Kd.R_types (Kd.R_types (Kd.R_apart' (Kd.R_apart' (j9.out) (Kd.R_typed j0.out) (by decide)) (Kd.N_typed q0.out) (by decide)) q3.out (by decide)) q4.out (by decide)) q5.out (by decide)) q8.out (by decide)) q7.out (by decide)) (fun k_ hk => ⟨⟨hk.1.1.1.1.1.1.1.1, ⟨hk.1.1.1.1.1.1.2, ⟨hk.1.1.1.1.2, ⟨hk.1.1.1.2, ⟨hk.1.1.2, ⟨hk.1.2, hk.2⟩⟩⟩⟩⟩⟩, hk.1.1.1.1.1.2⟩))))); (case aB => exact (bl HB)); (case aF => exact (fun k_ hk => ⟨(Nat.le_trans (below_size (bl HB)) hk), Kd.fresh' (Kd.R_lt (R_u j0.out)) k_ hk, Kd.freshB (Ub q3) k_ hk, Kd.freshB (Ub q4) k_ hk, Kd.freshB (Ub q5) k_ hk, Kd.freshB (Ub q8) k_ hk, Kd.freshB (Ub q7) k_ hk⟩)); (case aO => exact (by apply N_u; exact Nm q0.out)); (case aS => exact (below_size (bl HB))); (case aL => have := LMc70.out; omega); intro q11 w94 ho hb hg hat; rw [← Ny692.out] at ho; have Yi := Qaa.mk (ho); replace j0 := Qaa.mk (Kd.R_over' (R_u j0.out) (Kd.N_typed (N_u q0.out)) (by decide) hg); replace q3 := Qaa.mk (blk_grown (Ub q3) hg (Kd.N_ne q0.out q3.out (by decide))); replace q4 := Qaa.mk (blk_grown (Ub q4) hg (Kd.N_ne q0.out q4.out (by decide))); replace q5 := Qaa.mk (blk_grown (Ub q5) hg (Kd.N_ne q0.out q5.out (by decide))); replace q8 := Qaa.mk (blk_grown (Ub q8) hg (Kd.N_away q0.out (fun _ hk => hk.1.1.1.1.1.1.2.2.2.2.2))); replace q7 := Qaa.mk (blk_grown (Ub q7) hg (Kd.N_away q0.out (fun _ hk => hk.2))); replace HB := Qaa.mk (hb); clear q0; clear z0; clear j6; clear j7; clear j8; clear j9; clear ho hb hg hat; obtain ⟨X5, X6, eo95⟩ := Kd.N_slice Yi.out; subst eo95; obtain ⟨Df, Dg, Dh, Di, Dj, Dk, Dl, Dm⟩ := cf4 q5))
           go_roundg k2
           case measure => have := HK1.out; have := HK2.out; omega
           case rel => exact ⟨(wrap64 (x18_1 + 1)), (y692), (.slice X5 y692.length X6), (by first | rfl | (simp; done) | (simp [*]; done)), H', ⟨by have := HK1.out; have := HK2.out; omega⟩, ⟨by apply N_u; exact Nm (Kd.N_far (p := ⟨j3, 1, none⟩) (Kd.N_mono Yi.out (fun k_ hk => (⟨hk, hk.2.2.2.2.1⟩ : _ ∧ k_ ≠ j3))) (fun _ hk => hk.2) (.slice X5 y692.length X6))⟩, ⟨by apply blk_u; refine blk_far ?_ Q0.out _; apply blk_u; exact q3.out⟩, ⟨by apply blk_u; refine blk_far ?_ Q1.out _; apply blk_u; exact q4.out⟩, ⟨by apply blk_u; refine blk_put (cs := #[.int .i64 (l1.length : Int), j4, .bool true, .slice none 0 0]) ?_ 1 _ rfl; apply blk_u; exact q5.out⟩, ⟨bl HB⟩⟩
          ·
           rw [if_neg c70] at H
           exact absurd H (by simp)
     ·
      rw [if_neg c13] at H
      exact absurd H (by simp)
    ·
     rw [if_neg c12] at H
     exact absurd H (by simp)
   ·
    rw [if_neg c11] at H
    have Yg : decide (x18_1 < (q2.length : Int)) = false := decide_eq_false c11
    clear c11
    simp only [Option.some.injEq, Prod.mk.injEq] at H
    obtain ⟨rfl, rfl, rfl, rfl⟩ := H
    have q0o := Z5.out
    have q0p := Q0.out
    have q0q := Z6.out
    have q0r := Q1.out
    obtain ⟨Dn, Do, Dp, Dq, Dr, Ds, Dt, Du⟩ := cf4 q5
    have Dw := Jm.out
    have Dx := Jl.out
    obtain ⟨Xt, Xu, Xv, Xw, Xx, Xy, Xz, W0⟩ := cf4 q4
    obtain ⟨Jn, Jo, eo102⟩ := Kd.N_slice q0.out
    subst eo102
    go_wp2
    refine bodyPost_ret (results_cell_row rfl _ _ j1 26 #[.int .i64 (l1.length : Int), .slice Jn q9.length Jo, .bool true, .slice none 0 0] (0, 0) _ rfl (by apply blk_u; refine blk_put (cs := #[.int .i64 (l1.length : Int), .slice Jn q9.length Jo, .bool true, .slice none 0 0]) ?_ 3 _ rfl; apply blk_u; refine blk_put (cs := #[.int .i64 (l1.length : Int), .slice Jn q9.length Jo, .bool false, .slice none 0 0]) ?_ 2 _ rfl; apply blk_u; refine blk_put (cs := #[.int .i64 (l1.length : Int), .slice none 0 0, .bool false, .slice none 0 0]) ?_ 1 _ rfl; apply blk_u; refine blk_put (cs := #[.int .i64 0, .slice none 0 0, .bool false, .slice none 0 0]) ?_ 0 _ rfl; apply blk_u; exact q4.out) Try.underlying26 rfl (by kernel_rfl)) rfl ?_
    exact ⟨_, _, by first | rfl | (simp [errW_none, errW_some] <;> rfl) | (simp [*, errW_none, errW_some] <;> rfl), by apply N_u; exact Kd.N_mono (Kd.N_far (p := ⟨j1, 3, none⟩) (Kd.N_far (p := ⟨j1, 2, none⟩) (Kd.N_far (p := ⟨j1, 1, none⟩) (Kd.N_far (p := ⟨j1, 0, none⟩) (Kd.N_mono q0.out (fun k_ hk => (⟨hk, hk.2.2.1⟩ : _ ∧ k_ ≠ j1))) (fun _ hk => hk.2) (.int .i64 (l1.length : Int))) (fun _ hk => hk.2) (.slice Jn q9.length Jo)) (fun _ hk => hk.2) (.bool true)) (fun _ hk => hk.2) (.slice none 0 0)) (fun _ hk => ⟨hk.1.1, (by simp [Value.ownBlock])⟩), by first | exact Kd.R_nil _ _ _ _ _ | exact Kd.N_nil _ _ _ _ _ | exact Kd.V_nil _ _ _ _ _ | exact Kd.Q_nil _ _ _ _ _ | exact Kd.S_nil _ _ _ _ _, bl HB⟩
end Go.Proofs.Ytphnmaobpefoiaa.XA
end
section
namespace Go.Proofs.Ytphnmaobpefoiaa.XA
open Go.RowKit Go.Proofs.YtphnmaobpefoiaaXW Go.Proofs.YtphnmaobpefoiaaW.PrintWords Go.Proofs.YtphnmaobpefoiaaW.PrintLast Go.Proofs.YtphnmaobpefoiaaW.PrintMore
attribute [local go_sem] max2_int min2_int max_two min_two max_three min_three max_four min_four sleq
set_option linter.unusedVariables false
set_option linter.unusedSimpArgs false
def Qaw.f (k : Nat) (j0 : Int) (q9 : List (S39)) (j1 : Bool) (q8 : List Int) (a1 : Int) (a2 : Int) : Option (Int × (List (S39)) × Bool × List Int × Int) := (Qac.f k j0 q9 j1 q8).bind fun j9 => (if j9 = 0 then ((Qao.f k j0 q9 j1 q8).bind fun q2 => ((Qaq.f a1 0 (q2.length : Int)).bind fun z5 => (if z5 = true then ((Qaq.f a2 0 1000).bind fun z1 => (if z1 = true then (if 0 ≤ a1 then (if a1 ≤ (mn (wrap64 (a1 + a2)) (q2.length : Int)) then (if (mn (wrap64 (a1 + a2)) (q2.length : Int)) ≤ (q2.length : Int) then ((Qam.f k j0 q9 j1 q8 ((q2.take ((mn (wrap64 (a1 + a2)) (q2.length : Int)) : Int).toNat).drop (a1 : Int).toNat)).bind fun q6 => (some (q6.1, q6.2.1, q6.2.2.1, q6.2.2.2, 0))) else (none)) else (none)) else (none)) else (some (0, ([] : List (S39)), false, ([] : List Int), 1)))) else (some (0, ([] : List (S39)), false, ([] : List Int), 1))))) else (some (0, ([] : List (S39)), false, ([] : List Int), j9)))
def Qaw.T7 : Bool × List (List Nat × List Nat) := (true, [([], []), ([], []), ([], []), ([], []), ([], []), ([3, 4], [3, 4]), ([], []), ([6], [6]), ([5, 7], [5, 7]), ([1, 2, 8], [1, 2, 8]), ([0, 9], [0, 9]), ([10, 10, 0, 1, 2, 3, 4, 5, 6, 7, 8, 9, 10], [10]), ([11, 0, 1, 2, 3, 4, 5, 6, 7, 8, 9, 10, 11], [])])
def Qaw.B7 : List Nat := [0, 0, 0, 0, 0, 24, 0, 64, 248, 510, 1023, 2047, 4095]
theorem Qaw.tab7 : rtab .any (opsOf Try.f12 7) = Qaw.T7 := by kernel_rfl
theorem Qaw.bits7 : waitsOk Qaw.T7.2 Qaw.B7 = true := by kernel_rfl
set_option maxHeartbeats 8000000 in
set_option maxRecDepth 100000 in
theorem Qaw.calls (k : Nat) (j0 : Int) (j7 : Option Addr) (j8 : Nat) (q9 : List (S39)) (j1 : Bool) (j6 : Nat → Prop) (j3 : Option Addr) (j4 : Nat) (q8 : List Int) (a1 : Int) (a2 : Int) (r1 : Int) (r2 : List (S39)) (r3 : Bool) (r4 : List Int) (r5 : Int) (w : World) (Q1 : Kd.C k39 w j7 q9.length q9) (Q2 : q9.length ≤ j8) (hs0_3 : Kd.V (Kd.int .i64) 3 w w.heap.size (fun k_ => j6 k_) (.slice j3 q8.length j4) q8) (h : Qaw.f k j0 q9 j1 q8 a1 a2 = some (r1, r2, r3, r4, r5)) :
  Calls Try.prog 12 #[.agg #[.int .i64 j0, .slice j7 q9.length j8, .bool j1, .slice j3 q8.length j4], .int .i64 a1, .int .i64 a2] w fun e w' => ∃ v1_ v3_ : Value, e = .returned (.tuple #[.agg #[.int .i64 r1, v1_, .bool r3, v3_], .int .i64 r5]) ∧ Kd.N k39 39 w' w.heap.size (fun k_ => (j6 k_ ∨ w.heap.size ≤ k_) ∧ some k_ ≠ (v3_ : Value).ownBlock) v1_ r2 ∧ Kd.R (Kd.int .i64) 3 w' w.heap.size (fun k_ => (w.heap.size ≤ k_)) v3_ r4 ∧ Below w.heap.size w w' := by
 have hu26 := Try.underlying26
 have z2 := Qaa.mk Q1
 have z3 := Qaa.mk Q2
 clear Q1 Q2
 have q3 := Qaa.mk (show Kd.V (Kd.int .i64) 3 w w.heap.size (fun k_ => (j6 k_ ∨ w.heap.size ≤ k_)) (.slice j3 q8.length j4) q8 from Kd.V_mono hs0_3 (fun k_ hk => .inl hk))
 have HB := Qaa.mk (Below.refl w.heap.size w)
 have H : ((Qac.f k j0 q9 j1 q8).bind fun j9 => (if j9 = 0 then ((Qao.f k j0 q9 j1 q8).bind fun q2 => ((Qaq.f a1 0 (q2.length : Int)).bind fun z5 => (if z5 = true then ((Qaq.f a2 0 1000).bind fun z1 => (if z1 = true then (if 0 ≤ a1 then (if a1 ≤ (mn (wrap64 (a1 + a2)) (q2.length : Int)) then (if (mn (wrap64 (a1 + a2)) (q2.length : Int)) ≤ (q2.length : Int) then ((Qam.f k j0 q9 j1 q8 ((q2.take ((mn (wrap64 (a1 + a2)) (q2.length : Int)) : Int).toNat).drop (a1 : Int).toNat)).bind fun q6 => (some (q6.1, q6.2.1, q6.2.2.1, q6.2.2.2, 0))) else (none)) else (none)) else (none)) else (some (0, ([] : List (S39)), false, ([] : List Int), 1)))) else (some (0, ([] : List (S39)), false, ([] : List Int), 1))))) else (some (0, ([] : List (S39)), false, ([] : List Int), j9)))) = some (r1, r2, r3, r4, r5) := h
 clear h
 replace H := Option.bind_eq_some_iff.mp H
 obtain ⟨j9, A40, H⟩ := H
 replace H : (if j9 = 0 then ((Qao.f k j0 q9 j1 q8).bind fun q2 => ((Qaq.f a1 0 (q2.length : Int)).bind fun z5 => (if z5 = true then ((Qaq.f a2 0 1000).bind fun z1 => (if z1 = true then (if 0 ≤ a1 then (if a1 ≤ (mn (wrap64 (a1 + a2)) (q2.length : Int)) then (if (mn (wrap64 (a1 + a2)) (q2.length : Int)) ≤ (q2.length : Int) then ((Qam.f k j0 q9 j1 q8 ((q2.take ((mn (wrap64 (a1 + a2)) (q2.length : Int)) : Int).toNat).drop (a1 : Int).toNat)).bind fun q6 => (some (q6.1, q6.2.1, q6.2.2.1, q6.2.2.2, 0))) else (none)) else (none)) else (none)) else (some (0, ([] : List (S39)), false, ([] : List Int), 1)))) else (some (0, ([] : List (S39)), false, ([] : List Int), 1))))) else (some (0, ([] : List (S39)), false, ([] : List Int), j9))) = some (r1, r2, r3, r4, r5) := H
 have A4 := Qaa.mk A40
 clear A40
 by_cases c5 : j9 = 0
 ·
  rw [if_pos c5] at H
  have Q9 : (j9 == 0) = true := beq_iff_eq.mpr c5
  have Qa : (j9 != 0) = false := bne_eq_false_iff_eq.mpr c5
  clear c5
  replace H := Option.bind_eq_some_iff.mp H
  obtain ⟨q2, A60, H⟩ := H
  replace H : ((Qaq.f a1 0 (q2.length : Int)).bind fun z5 => (if z5 = true then ((Qaq.f a2 0 1000).bind fun z1 => (if z1 = true then (if 0 ≤ a1 then (if a1 ≤ (mn (wrap64 (a1 + a2)) (q2.length : Int)) then (if (mn (wrap64 (a1 + a2)) (q2.length : Int)) ≤ (q2.length : Int) then ((Qam.f k j0 q9 j1 q8 ((q2.take ((mn (wrap64 (a1 + a2)) (q2.length : Int)) : Int).toNat).drop (a1 : Int).toNat)).bind fun q6 => (some (q6.1, q6.2.1, q6.2.2.1, q6.2.2.2, 0))) else (none)) else (none)) else (none)) else (some (0, ([] : List (S39)), false, ([] : List Int), 1)))) else (some (0, ([] : List (S39)), false, ([] : List Int), 1)))) = some (r1, r2, r3, r4, r5) := H
  have A6 := Qaa.mk A60
  clear A60
  replace H := Option.bind_eq_some_iff.mp H
  obtain ⟨z5, A70, H⟩ := H
  replace H : (if z5 = true then ((Qaq.f a2 0 1000).bind fun z1 => (if z1 = true then (if 0 ≤ a1 then (if a1 ≤ (mn (wrap64 (a1 + a2)) (q2.length : Int)) then (if (mn (wrap64 (a1 + a2)) (q2.length : Int)) ≤ (q2.length : Int) then ((Qam.f k j0 q9 j1 q8 ((q2.take ((mn (wrap64 (a1 + a2)) (q2.length : Int)) : Int).toNat).drop (a1 : Int).toNat)).bind fun q6 => (some (q6.1, q6.2.1, q6.2.2.1, q6.2.2.2, 0))) else (none)) else (none)) else (none)) else (some (0, ([] : List (S39)), false, ([] : List Int), 1)))) else (some (0, ([] : List (S39)), false, ([] : List Int), 1))) = some (r1, r2, r3, r4, r5) := H
  have A7 := Qaa.mk A70
  clear A70
  by_cases c8 : z5 = true
  ·
   subst c8
   have H1 : ((Qaq.f a2 0 1000).bind fun z1 => (if z1 = true then (if 0 ≤ a1 then (if a1 ≤ (mn (wrap64 (a1 + a2)) (q2.length : Int)) then (if (mn (wrap64 (a1 + a2)) (q2.length : Int)) ≤ (q2.length : Int) then ((Qam.f k j0 q9 j1 q8 ((q2.take ((mn (wrap64 (a1 + a2)) (q2.length : Int)) : Int).toNat).drop (a1 : Int).toNat)).bind fun q6 => (some (q6.1, q6.2.1, q6.2.2.1, q6.2.2.2, 0))) else (none)) else (none)) else (none)) else (some (0, ([] : List (S39)), false, ([] : List Int), 1)))) = some (r1, r2, r3, r4, r5) := by rw [if_pos rfl] at H; exact H
   clear H
   have H := H1
   clear H1
   replace H := Option.bind_eq_some_iff.mp H
   obtain ⟨z1, A90, H⟩ := H
   replace H : (if z1 = true then (if 0 ≤ a1 then (if a1 ≤ (mn (wrap64 (a1 + a2)) (q2.length : Int)) then (if (mn (wrap64 (a1 + a2)) (q2.length : Int)) ≤ (q2.length : Int) then ((Qam.f k j0 q9 j1 q8 ((q2.take ((mn (wrap64 (a1 + a2)) (q2.length : Int)) : Int).toNat).drop (a1 : Int).toNat)).bind fun q6 => (some (q6.1, q6.2.1, q6.2.2.1, q6.2.2.2, 0))) else (none)) else (none)) else (none)) else (some (0, ([] : List (S39)), false, ([] : List Int), 1))) = some (r1, r2, r3, r4, r5) := H
   have A9 := Qaa.mk A90
   clear A90
   by_cases c10 : z1 = true
   ·
    subst c10
    have H1 : (if 0 ≤ a1 then (if a1 ≤ (mn (wrap64 (a1 + a2)) (q2.length : Int)) then (if (mn (wrap64 (a1 + a2)) (q2.length : Int)) ≤ (q2.length : Int) then ((Qam.f k j0 q9 j1 q8 ((q2.take ((mn (wrap64 (a1 + a2)) (q2.length : Int)) : Int).toNat).drop (a1 : Int).toNat)).bind fun q6 => (some (q6.1, q6.2.1, q6.2.2.1, q6.2.2.2, 0))) else (none)) else (none)) else (none)) = some (r1, r2, r3, r4, r5) := by rw [if_pos rfl] at H; exact H
    clear H
    have H := H1
    clear H1
    obtain ⟨z0, z4⟩ : ∃ j_ : Int, (mn (wrap64 (a1 + a2)) (q2.length : Int)) = j_ := ⟨_, rfl⟩
    replace H : (if 0 ≤ a1 then (if a1 ≤ (z0) then (if (z0) ≤ (q2.length : Int) then ((Qam.f k j0 q9 j1 q8 ((q2.take ((z0) : Int).toNat).drop (a1 : Int).toNat)).bind fun q6 => (some (q6.1, q6.2.1, q6.2.2.1, q6.2.2.2, 0))) else (none)) else (none)) else (none)) = some (r1, r2, r3, r4, r5) := by first | (rw [z4] at H; exact H) | (simp only [z4] at H ⊢; exact H)
    (try rw [z4] at A4)
    (try rw [z4] at A6)
    (try rw [z4] at A7)
    (try rw [z4] at A9)
    have Jm : (if (q2.length : Int) < (wrap64 (a1 + a2)) then (q2.length : Int) else (wrap64 (a1 + a2))) = z0 := z4
    by_cases c12 : 0 ≤ a1
    ·
     rw [if_pos c12] at H
     have Jn := eq_true c12
     have Jo : decide (0 ≤ a1) = true := decide_eq_true c12
     clear c12
     by_cases c13 : a1 ≤ (z0)
     ·
      rw [if_pos c13] at H
      have Jp := eq_true c13
      have Jq : decide (a1 ≤ (z0)) = true := decide_eq_true c13
      clear c13
      by_cases c14 : (z0) ≤ (q2.length : Int)
      ·
       rw [if_pos c14] at H
       have Jr := eq_true c14
       have Js : decide ((z0) ≤ (q2.length : Int)) = true := decide_eq_true c14
       clear c14
       obtain ⟨y703, hy703⟩ : ∃ y_ : List Int, y_ = ((q2.take ((z0) : Int).toNat).drop (a1 : Int).toNat) := ⟨_, rfl⟩
       replace H : ((Qam.f k j0 q9 j1 q8 y703).bind fun q6 => (some (q6.1, q6.2.1, q6.2.2.1, q6.2.2.2, 0))) = some (r1, r2, r3, r4, r5) := by first | (rw [hy703]; with_reducible exact H) | (have H2_ := (Option.bind_some _ _).symm.trans H; rw [hy703]; with_reducible exact H2_) | (have H2_ := (Option.bind_some _ _).symm.trans H; with_reducible exact H2_) | with_reducible exact H | (rw [hy703]; exact H) | exact H
       have Ny703 := Qaa.mk hy703
       clear hy703
       replace H := Option.bind_eq_some_iff.mp H
       obtain ⟨⟨z6, z7, y0, y2⟩, Q5, H⟩ := H
       replace H : (some (z6, z7, y0, y2, 0)) = some (r1, r2, r3, r4, r5) := H
       have A15 := Qaa.mk Q5
       clear Q5
       simp only [Option.some.injEq, Prod.mk.injEq] at H
       obtain ⟨rfl, rfl, rfl, rfl, rfl⟩ := H
       go_enter Try.func12, Try.ntmps12
       try go_wp2_with (first | ((with_reducible refine gate_dst (N := 3) rfl ?_); refine bx 3 #[.int .i64 j0, .slice j7 q9.length j8, .bool j1, .slice j3 q8.length j4] 26 ?_; intro q7 hg w16 hbox hb; have q1 := Qaa.mk (hbox); have y5 := Qaa.mk ((by rw [hg]; exact (below_size (bl HB)) : w.heap.size ≤ q7)); have y6 := Qaa.mk ((by rw [hg]; exact (below_size (bl HB)) : w.heap.size ≤ q7)); replace q3 := Qaa.mk (Kd.V_below (Kd.V_elderB (V_u q3.out) q7 (Nat.le_of_eq hg.symm)) hb); replace HB := bs HB hb; clear hb hbox hg) | ((with_reducible refine gate_dst (N := 6) rfl ?_); refine bx 6 #[.int .i64 0, .slice none 0 0, .bool false, .slice none 0 0] 26 ?_; intro q0 hg w17 hbox hb; have q4 := Qaa.mk (hbox); have y7 := Qaa.mk ((by rw [hg]; exact (below_size (bl HB)) : w.heap.size ≤ q0)); have y8 := Qaa.mk ((by rw [hg]; exact (below_size (bl HB)) : w.heap.size ≤ q0)); have q5 := Qaa.mk ((by rw [hg]; exact Nat.ne_of_lt (blk_lt (Ub q1)) : q7 ≠ q0)); have j5 := Qaa.mk ((by rw [hg]; exact Nat.ne_of_gt (blk_lt (Ub q1)) : q0 ≠ q7)); replace q3 := Qaa.mk (Kd.V_below (Kd.V_elderB (V_u q3.out) q0 (Nat.le_of_eq hg.symm)) hb); replace q1 := Bb q1 hb; replace HB := bs HB hb; clear hb hbox hg; have Jt := q5.out; have Ju := j5.out; obtain ⟨Qe, Qf, Qg, Qh, Qi, Qj, Qk, Ql⟩ := cf4 q1) | ((with_reducible refine gate_callee (f := 34) rfl ?_); refine gL (some 11) Try.func34 #[.agg #[.int .i64 j0, .slice j7 q9.length j8, .bool j1, .slice j3 q8.length j4]] ?_; (with_reducible refine (Qac.calls k j0 _ _ q9 j1 _ _ q8 j9 _ ?side1 ?side2 ?side3 ?side4 A4.out).mono ?_); (case side1 => exact Cb z2 HB); (case side2 => exact z3.out); (case side3 => exact Cu (Kd.V_reads' q3.out).2.2); (case side4 => exact (Kd.V_reads' q3.out).2.1); rintro e w20 ⟨rfl, hb⟩; refine ⟨_, rfl, ?_⟩; replace q3 := Qaa.mk (Kd.V_below (V_u q3.out) hb); replace q1 := Bb q1 hb; replace q4 := Bb q4 hb; replace HB := bs HB hb; (try clear hb); obtain ⟨Qm, Qn, Qo, Qp, Qq, Qr, Qs, Qt⟩ := cf4 q1) | ((with_reducible refine gate_callee (f := 22) rfl ?_); refine gL (some 17) Try.func22 #[.agg #[.int .i64 j0, .slice j7 q9.length j8, .bool j1, .slice j3 q8.length j4]] ?_; (with_reducible refine (Qao.calls k j0 _ _ q9 j1 (fun k_ => (((j6 k_ ∨ w.heap.size ≤ k_) ∧ k_ ≠ q7) ∧ k_ ≠ q0)) _ _ q8 q2 _ ?side1 ?side2 ?side3 A6.out).mono ?_); (case side1 => exact Cb z2 HB); (case side2 => exact z3.out); (case side3 => exact q3.out); rintro e w22 ⟨Q6, rfl, ho0, hb⟩; refine ⟨_, rfl, ?_⟩; have j2 := Qaa.mk (Kd.V_lower (Kd.V_mono (ok' := fun k_ => (j6 k_ ∨ w.heap.size ≤ k_) ∧ k_ ≠ q7 ∧ k_ ≠ q0) ho0 (fun k_ hk_ => ⟨Or.elim hk_ (fun hs_ => hs_.1.1) (fun hn_ => (.inr (Nat.le_trans (below_size (bl HB)) hn_))), Or.elim hk_ (fun hs_ => hs_.1.2) (fun hn_ => (Kd.freshB (Ub q1) k_ hn_)), Or.elim hk_ (fun hs_ => hs_.2) (fun hn_ => (Kd.freshB (Ub q4) k_ hn_))⟩)) (below_size (bl HB))); replace q3 := Qaa.mk (Kd.V_below (V_u q3.out) hb); replace q1 := Bb q1 hb; replace q4 := Bb q4 hb; replace HB := bs HB hb; (try clear hb); (try clear ho0); obtain ⟨y1, z8, eo23⟩ := Kd.V_slice j2.out; subst eo23) | ((with_reducible refine gate_callee (f := 25) rfl ?_); refine gL (some 21) Try.func25 #[.int .i64 a1, .int .i64 0, .int .i64 (q2.length : Int)] ?_; (with_reducible refine (Qaq.calls a1 0 (q2.length : Int) true _ A7.out).mono ?_); rintro e w' ⟨rfl, ⟨nd, rfl⟩⟩; refine ⟨_, rfl, ?_⟩; (try (rw [drewN_self w22]; generalize hq_ : World.drewN w22 _ = w22; have n0_ : Qaa (Kd.V (Kd.int .i64) 3 w22 w.heap.size (fun k_ => (j6 k_ ∨ w.heap.size ≤ k_) ∧ k_ ≠ q7 ∧ k_ ≠ q0) (.slice j3 q8.length j4) q8) := ⟨by rw [← hq_]; exact (by apply V_u; exact Vm q3.out)⟩; have n1_ : Qaa (Kd.V (Kd.int .i64) 3 w22 w.heap.size (fun k_ => (j6 k_ ∨ w.heap.size ≤ k_) ∧ k_ ≠ q7 ∧ k_ ≠ q0) (.slice y1 q2.length z8) q2) := ⟨by rw [← hq_]; exact (V_u j2.out)⟩; have n2_ : Qaa (w22.heap[q7]? = some (.cells #[.int .i64 j0, .slice j7 q9.length j8, .bool j1, .slice j3 q8.length j4] 26 (0, 0))) := ⟨by rw [← hq_]; exact (blk_u q1.out)⟩; have n3_ : Qaa (w22.heap[q0]? = some (.cells #[.int .i64 0, .slice none 0 0, .bool false, .slice none 0 0] 26 (0, 0))) := ⟨by rw [← hq_]; exact (blk_u q4.out)⟩; have n4_ : Qaa (Below w.heap.size w w22) := ⟨by rw [← hq_]; exact (bl HB)⟩; clear q3 j2 q1 q4 HB hq_; have q3 := n0_; have j2 := n1_; have q1 := n2_; have q4 := n3_; have HB := n4_; clear n0_ n1_ n2_ n3_ n4_))) | (go_at_call 25; (with_reducible refine (Qaq.calls a2 0 1000 true _ A9.out).mono ?_); rintro e w' ⟨rfl, ⟨nd, rfl⟩⟩; (try (rw [drewN_self w22]; generalize hq_ : World.drewN w22 _ = w22; have n0_ : Qaa (Kd.V (Kd.int .i64) 3 w22 w.heap.size (fun k_ => (j6 k_ ∨ w.heap.size ≤ k_) ∧ k_ ≠ q7 ∧ k_ ≠ q0) (.slice j3 q8.length j4) q8) := ⟨by rw [← hq_]; exact (by apply V_u; exact Vm q3.out)⟩; have n1_ : Qaa (Kd.V (Kd.int .i64) 3 w22 w.heap.size (fun k_ => (j6 k_ ∨ w.heap.size ≤ k_) ∧ k_ ≠ q7 ∧ k_ ≠ q0) (.slice y1 q2.length z8) q2) := ⟨by rw [← hq_]; exact (V_u j2.out)⟩; have n2_ : Qaa (w22.heap[q7]? = some (.cells #[.int .i64 j0, .slice j7 q9.length j8, .bool j1, .slice j3 q8.length j4] 26 (0, 0))) := ⟨by rw [← hq_]; exact (blk_u q1.out)⟩; have n3_ : Qaa (w22.heap[q0]? = some (.cells #[.int .i64 0, .slice none 0 0, .bool false, .slice none 0 0] 26 (0, 0))) := ⟨by rw [← hq_]; exact (blk_u q4.out)⟩; have n4_ : Qaa (Below w.heap.size w w22) := ⟨by rw [← hq_]; exact (bl HB)⟩; clear q3 j2 q1 q4 HB hq_; have q3 := n0_; have j2 := n1_; have q1 := n2_; have q4 := n3_; have HB := n4_; clear n0_ n1_ n2_ n3_ n4_))))
       replace q3 := Qaa.mk (Kd.V_drew q3.out)
       replace j2 := Qaa.mk (Kd.V_drew j2.out)
       replace q1 := Qaa.mk (blk_drew q1.out)
       replace q4 := Qaa.mk (blk_drew q4.out)
       replace HB := Qaa.mk (below_drew1 HB.out)
       have q25 : ((z0) : Int) ≤ ((q2.length : Int) : Int) := of_decide_eq_true (by first | (with_reducible assumption) | assumption)
       obtain ⟨i025, hi025, _, hsz25, _⟩ := info_parts info3
       have hroom25 : q2.length ≤ z8 := (Kd.V_reads' j2.out).2.1
       have hC25 : Kd.F (Kd.int .i64) _ _ y1 q2.length q2 := (Kd.V_at (base := w.heap.size) j2.out).2.2
       have ql25 : (a1 : Int) ≤ ((z0) : Int) := of_decide_eq_true (by first | (with_reducible assumption) | assumption)
       have q025 : (0 : Int) ≤ (a1 : Int) := of_decide_eq_true (by first | (with_reducible assumption) | assumption)
       have hcut25 := cut_mid (P := Try.prog) 24 3 .i64 .i64 Try.underlying24 hi025 1 hsz25 y1 q2.length z8 a1 (z0) q025 ql25 q25 hroom25
       have hr25 := Kd.F_mid (lo := (a1 : Int).toNat) (hi := ((z0) : Int).toNat) (c := z8) hC25 (by omega) (by omega) hroom25
       obtain ⟨A25, hA25⟩ : ∃ A1, A1 = (if z8 = (a1 : Int).toNat then y1 else (y1 : Option Addr).map (·.add ((a1 : Int).toNat * 1))) := ⟨_, rfl⟩
       obtain ⟨c25, hc25⟩ : ∃ c1, c1 = z8 - (a1 : Int).toNat := ⟨_, rfl⟩
       have hy25 : y703.length = ((z0) : Int).toNat - (a1 : Int).toNat := (by rw [Ny703.out, List.length_drop, List.length_take] <;> omega)
       rw [show ((q2).take ((z0) : Int).toNat).drop (a1 : Int).toNat = y703 from Ny703.out.symm] at hr25
       replace hr25 : Kd.F (Kd.int .i64) _ _ A25 y703.length y703 := (by rw [hA25]; exact hr25)
       rw [← hy25, ← hA25, ← hc25] at hcut25
       have z9 := Qaa.mk (show Kd.V (Kd.int .i64) 3 _ w.heap.size _ (.slice A25 y703.length c25) y703 from Kd.V_mk (by rw [hy25, hc25]; exact Nat.sub_le_sub_right (Nat.le_trans (by omega) hroom25) _) hr25)
       have Jv := Qaa.mk (show y703.length ≤ c25 from by rw [hy25, hc25]; exact Nat.sub_le_sub_right (Nat.le_trans (by omega) hroom25) _)
       clear hr25 hC25 hroom25 hi025 hsz25 hc25
       have KY25 := Qaa.mk hy25
       have KA25 := Qaa.mk hA25
       clear hy25 hA25
       replace q25 := eq_true q25
       refine start_ (n := 13) (S := fun w' => w'.cell? ⟨q7, 0, none⟩ = some (.int .i64 j0) ∧ w'.cell? ⟨q7, 1, none⟩ = some (.slice j7 q9.length j8) ∧ w'.cell? ⟨q7, 2, none⟩ = some (.bool j1) ∧ w'.cell? ⟨q7, 3, none⟩ = some (.slice j3 q8.length j4)) (ds := []) #[false, false, false, false, false, false, false, false, false, false, false, false, false] (by kernel_rfl) rfl rfl ⟨(blk_cell q1.out 0).trans rfl, (blk_cell q1.out 1).trans rfl, (blk_cell q1.out 2).trans rfl, (blk_cell q1.out 3).trans rfl⟩ (fun hHeld => ?_); refine with_tabW Qaw.tab7 Qaw.bits7 (fun HT_ HW_ => ?_)
       generalize w22.drew = w24 at q3 j2 q1 q4 HB z9 hHeld ⊢
       refine pure_ (i := 1) (N := some 30) (v := ?_) (a' := ?_) #[false, true, false, false, false, false, false, false, false, false, false, false, false] rfl rfl (any_of HT_.out (by kernel_rfl)) (fun _ _ _ h => h) (Or.inl ⟨by rfl, ?_⟩) ?_ ?_
       rotate_left
       ·
        intro w'
        go_simp
        with_reducible rfl
       rotate_left
       ·
        simp only [Act.put, List.setIfInBounds_toArray, List.set_cons_zero, List.set_cons_succ, i64_w, i32_w]
        rfl
       refine pure_ (i := 2) (N := some 31) (v := ?_) (a' := ?_) #[false, true, true, false, false, false, false, false, false, false, false, false, false] rfl rfl (any_of HT_.out (by kernel_rfl)) (fun _ _ _ h => h) (Or.inl ⟨by rfl, ?_⟩) ?_ ?_
       rotate_left
       ·
        intro w'
        go_simp
        with_reducible rfl
       rotate_left
       ·
        simp only [Act.put, List.setIfInBounds_toArray, List.set_cons_zero, List.set_cons_succ, i64_w, i32_w]
        rfl
       refine pure_ (i := 3) (N := some 32) (v := ?_) (a' := ?_) #[false, true, true, true, false, false, false, false, false, false, false, false, false] rfl rfl (any_of HT_.out (by kernel_rfl)) (fun _ _ _ h => h) (Or.inl ⟨by rfl, ?_⟩) ?_ ?_
       rotate_left
       ·
        intro w'
        go_simp
        with_reducible rfl
       rotate_left
       ·
        simp only [Act.put, List.setIfInBounds_toArray, List.set_cons_zero, List.set_cons_succ, i64_w, i32_w]
        rfl
       refine pure_ (i := 4) (N := some 33) (v := ?_) (a' := ?_) #[false, true, true, true, true, false, false, false, false, false, false, false, false] rfl rfl (any_of HT_.out (by kernel_rfl)) (fun _ _ _ h => h) (Or.inl ⟨by rfl, ?_⟩) ?_ ?_
       rotate_left
       ·
        intro w'
        go_simp
        with_reducible rfl
       rotate_left
       ·
        simp only [Act.put, List.setIfInBounds_toArray, List.set_cons_zero, List.set_cons_succ, i64_w, i32_w]
        rfl
       refine pure_ (i := 5) (N := some 34) (v := ?_) (a' := ?_) #[false, true, true, true, true, true, false, false, false, false, false, false, false] rfl rfl (any_of HT_.out (by kernel_rfl)) (fun _ _ _ h => h) (Or.inl ⟨by rfl, ?_⟩) ?_ ?_
       rotate_left
       ·
        intro w'
        go_simp
        with_reducible rfl
       rotate_left
       ·
        simp only [Act.put, List.setIfInBounds_toArray, List.set_cons_zero, List.set_cons_succ, i64_w, i32_w]
        rfl
       refine pure_ (i := 6) (N := some 35) (v := ?_) (a' := ?_) #[false, true, true, true, true, true, true, false, false, false, false, false, false] rfl rfl (any_of HT_.out (by kernel_rfl)) (fun _ _ _ h => h) (Or.inl ⟨by rfl, ?_⟩) ?_ ?_
       rotate_left
       ·
        intro w'
        go_simp
        with_reducible rfl
       rotate_left
       ·
        simp only [Act.put, List.setIfInBounds_toArray, List.set_cons_zero, List.set_cons_succ, i64_w, i32_w]
        rfl
       refine pure_ (i := 7) (N := some 36) (v := ?_) (a' := ?_) #[false, true, true, true, true, true, true, true, false, false, false, false, false] rfl rfl (any_of HT_.out (by kernel_rfl)) (fun _ _ _ h => h) (Or.inl ⟨by rfl, ?_⟩) ?_ ?_
       rotate_left
       ·
        intro w'
        go_simp
        with_reducible rfl
       rotate_left
       ·
        simp only [Act.put, List.setIfInBounds_toArray, List.set_cons_zero, List.set_cons_succ, i64_w, i32_w]
        rfl
       refine pure_ (i := 8) (N := some 37) (v := ?_) (a' := ?_) #[false, true, true, true, true, true, true, true, true, false, false, false, false] rfl rfl (any_of HT_.out (by kernel_rfl)) (fun _ _ _ h => h) (Or.inl ⟨by rfl, ?_⟩) ?_ ?_
       rotate_left
       ·
        intro w'
        go_simp
        with_reducible rfl
       rotate_left
       ·
        simp only [Act.put, List.setIfInBounds_toArray, List.set_cons_zero, List.set_cons_succ, i64_w, i32_w]
        rfl
       refine pure_ (i := 9) (N := some 38) (v := ?_) (a' := ?_) #[false, true, true, true, true, true, true, true, true, true, false, false, false] rfl rfl (any_of HT_.out (by kernel_rfl)) (fun _ _ _ h => h) (Or.inl ⟨by rfl, ?_⟩) ?_ ?_
       rotate_left
       ·
        intro w'
        go_simp
        with_reducible rfl
       rotate_left
       ·
        simp only [Act.put, List.setIfInBounds_toArray, List.set_cons_zero, List.set_cons_succ, i64_w, i32_w]
        rfl
       refine take_ (i := 0) (N := some 29) (v := ?_) (a' := ?_) #[true, true, true, true, true, true, true, true, true, true, false, false, false] rfl rfl (take_ofW HT_.out HW_.out (by kernel_rfl)) (fun _ _ _ h => h) (Or.inl ⟨by rfl, ?_⟩) hHeld ?_ ?_
       rotate_left
       ·
        rintro w' ⟨s0, s1, s2, s3⟩
        go_simp
        with_reducible rfl
       rotate_left
       ·
        simp only [Act.put, List.setIfInBounds_toArray, List.set_cons_zero, List.set_cons_succ, i64_w, i32_w]
        rfl
       refine one_ (i := 10) (N := some 39) #[true, true, true, true, true, true, true, true, true, true, true, false, false] rfl rfl (one_of HT_.out (by kernel_rfl)) (by decide) (fun K hK => ?_)
       refine goes_ Try.func35 (by kernel_rfl) rfl #[.agg #[.int .i64 j0, .slice j7 q9.length j8, .bool j1, .slice j3 q8.length j4], .slice A25 y703.length c25] (by rfl) rfl rfl (by (try simp only [List.map_toArray, List.map_cons, List.map_nil]); first | done | rfl | (simp only [List.length_drop, List.length_take]; rfl)) ?_
       with_reducible refine (Qam.calls k j0 _ _ q9 j1 _ _ q8 _ _ y703 z6 z7 y0 y2 _ ?side1 ?side2 ?side3 ?side4 ?side5 ?side6 A15.out).mono ?_
       (case side1 => exact Cb z2 HB)
       (case side2 => exact z3.out)
       (case side3 => exact Cu (Kd.V_reads' q3.out).2.2)
       (case side4 => exact (Kd.V_reads' q3.out).2.1)
       (case side5 => exact Cu (Kd.V_reads' z9.out).2.2)
       (case side6 => exact (Kd.V_reads' z9.out).2.1)
       rintro e w26 ⟨Y2, Qb, rfl, ho0, ho1, hb⟩
       refine ⟨_, rfl, ?_⟩
       have Q3 := Qaa.mk (Kd.N_lower (Kd.N_mono (ok' := fun k_ => (j6 k_ ∨ w.heap.size ≤ k_) ∧ some k_ ≠ (Qb : Value).ownBlock ∧ k_ ≠ q7 ∧ k_ ≠ q0) ho0 (fun k_ hk_ => ⟨(.inr (Nat.le_trans (below_size (bl HB)) hk_.1)), hk_.2, (Kd.freshB (Ub q1) k_ hk_.1), (Kd.freshB (Ub q4) k_ hk_.1)⟩)) (below_size (bl HB)))
       have Q4 := Qaa.mk (Kd.R_lower (Kd.R_newM (M := fun k_ => (w.heap.size ≤ k_)) (Kd.R_mono (ok' := fun k_ => True) ho1 (fun _ hk_ => trivial)) (below_size (bl HB)) (fun k_ h_ => h_)) (below_size (bl HB)))
       replace q3 := Qaa.mk (Kd.V_mono (Kd.V_told (Kd.V_told (Kd.V_old (V_u q3.out) hb) (Kd.N_base ho0)) (Kd.R_base ho1)) (fun _ h_ => h_.1))
       replace j2 := Qaa.mk (Kd.V_mono (Kd.V_told (Kd.V_told (Kd.V_old (V_u j2.out) hb) (Kd.N_base ho0)) (Kd.R_base ho1)) (fun _ h_ => h_.1))
       replace z9 := Qaa.mk (Kd.V_mono (Kd.V_told (Kd.V_told (Kd.V_old (V_u z9.out) hb) (Kd.N_base ho0)) (Kd.R_base ho1)) (fun _ h_ => h_.1))
       replace q1 := Bb q1 hb
       replace q4 := Bb q4 hb
       replace HB := bs HB hb
       (try clear hb)
       (try clear hb2)
       (try clear hk)
       (try clear hi)
       (try clear ho0)
       (try clear ho1)
       obtain ⟨y3, y4, eo28⟩ := Kd.N_slice Q3.out
       (first | subst eo28 | (injection eo28 with f1_ f2_ f3_; have f4_ := f1_.symm; have f5_ := f3_.symm; clear f1_ f2_ f3_; subst f4_; subst f5_))
       obtain ⟨y9, Q0, eo31⟩ := Kd.R_slice Q4.out
       (first | subst eo31 | (injection eo31 with f1_ f2_ f3_; have f4_ := f1_.symm; have f5_ := f3_.symm; clear f1_ f2_ f3_; subst f4_; subst f5_))
       refine hK.out _ _ ⟨(blk_cell q1.out 0).trans rfl, (blk_cell q1.out 1).trans rfl, (blk_cell q1.out 2).trans rfl, (blk_cell q1.out 3).trans rfl⟩ (fun hHeld => ?_)
       clear hK K
       refine norm_ (a' := ?_) ?_ ?_
       rotate_left
       ·
        show Act.put _ (some 39) _ = _
        simp only [Act.put, List.setIfInBounds_toArray, List.set_cons_zero, List.set_cons_succ, i64_w, i32_w]
        rfl
       refine one_ (i := 11) (N := none) #[true, true, true, true, true, true, true, true, true, true, true, true, false] rfl rfl (one_of HT_.out (by kernel_rfl)) (by decide) (fun K hK => ?_)
       have hs27 : w26.cell? ⟨q0, 0, none⟩ = some (.int .i64 0) := (blk_cell q4.out 0).trans rfl
       have hfs27 := blk_frozen q4.out 0
       have hns27_0 := q5.out
       have hms27_0 := j5.out
       have hs29 : w26.cell? ⟨q0, 1, none⟩ = some (.slice none 0 0) := (blk_cell q4.out 1).trans rfl
       have hfs29 := blk_frozen q4.out 1
       have hns29_0 := q5.out
       have hms29_0 := j5.out
       have hs30 : w26.cell? ⟨q0, 2, none⟩ = some (.bool false) := (blk_cell q4.out 2).trans rfl
       have hfs30 := blk_frozen q4.out 2
       have hns30_0 := q5.out
       have hms30_0 := j5.out
       have hs32 : w26.cell? ⟨q0, 3, none⟩ = some (.slice none 0 0) := (blk_cell q4.out 3).trans rfl
       have hfs32 := blk_frozen q4.out 3
       have hns32_0 := q5.out
       have hms32_0 := j5.out
       refine skip_ (w1 := ?_) (by rfl) rfl ?_ ?_
       rotate_left
       ·
        go_simp
        rfl
       refine hK.out _ _ ⟨((cell_far (p := ⟨q0, _, none⟩) q5.out _).trans (((cell_far (p := ⟨q0, _, none⟩) q5.out _).trans (((cell_far (p := ⟨q0, _, none⟩) q5.out _).trans (((cell_far (p := ⟨q0, _, none⟩) q5.out _).trans (hHeld.1)))))))), ((cell_far (p := ⟨q0, _, none⟩) q5.out _).trans (((cell_far (p := ⟨q0, _, none⟩) q5.out _).trans (((cell_far (p := ⟨q0, _, none⟩) q5.out _).trans (((cell_far (p := ⟨q0, _, none⟩) q5.out _).trans (hHeld.2.1)))))))), ((cell_far (p := ⟨q0, _, none⟩) q5.out _).trans (((cell_far (p := ⟨q0, _, none⟩) q5.out _).trans (((cell_far (p := ⟨q0, _, none⟩) q5.out _).trans (((cell_far (p := ⟨q0, _, none⟩) q5.out _).trans (hHeld.2.2.1)))))))), ((cell_far (p := ⟨q0, _, none⟩) q5.out _).trans (((cell_far (p := ⟨q0, _, none⟩) q5.out _).trans (((cell_far (p := ⟨q0, _, none⟩) q5.out _).trans (((cell_far (p := ⟨q0, _, none⟩) q5.out _).trans (hHeld.2.2.2))))))))⟩ (fun hHeld => ?_)
       clear hK K
       refine pure_ (i := 12) (N := some 7) (v := ?_) (a' := ?_) #[true, true, true, true, true, true, true, true, true, true, true, true, true] rfl rfl (any_of HT_.out (by kernel_rfl)) (fun _ _ _ h => h) (Or.inl ⟨by rfl, ?_⟩) ?_ ?_
       rotate_left
       ·
        intro w'
        go_simp
        with_reducible rfl
       rotate_left
       ·
        simp only [Act.put, List.setIfInBounds_toArray, List.set_cons_zero, List.set_cons_succ, i64_w, i32_w]
        rfl
       refine done_ (done_of HT_.out (by kernel_rfl)) ?_
       try go_wp2
       refine bodyPost_ret (results_ct rfl _ _ q0 26 #[.int .i64 z6, .slice y3 z7.length y4, .bool y0, .slice y9 y2.length Q0] (0, 0) _ rfl (by apply blk_u; refine blk_put (cs := #[.int .i64 z6, .slice y3 z7.length y4, .bool y0, .slice none 0 0]) ?_ 3 _ rfl; apply blk_u; refine blk_put (cs := #[.int .i64 z6, .slice y3 z7.length y4, .bool false, .slice none 0 0]) ?_ 2 _ rfl; apply blk_u; refine blk_put (cs := #[.int .i64 z6, .slice none 0 0, .bool false, .slice none 0 0]) ?_ 1 _ rfl; apply blk_u; refine blk_put (cs := #[.int .i64 0, .slice none 0 0, .bool false, .slice none 0 0]) ?_ 0 _ rfl; apply blk_u; exact q4.out) Try.underlying26 rfl (by kernel_rfl)) rfl ?_
       exact ⟨_, _, by first | rfl | (simp [errW_none, errW_some] <;> rfl) | (simp only [← z4]; first | rfl | (simp [errW_none, errW_some] <;> rfl)) | (simp [*, errW_none, errW_some] <;> rfl), by apply N_u; exact Nm (Kd.N_far (p := ⟨q0, 3, none⟩) (Kd.N_far (p := ⟨q0, 2, none⟩) (Kd.N_far (p := ⟨q0, 1, none⟩) (Kd.N_far (p := ⟨q0, 0, none⟩) (Kd.N_mono Q3.out (fun k_ hk => (⟨hk, hk.2.2.2⟩ : _ ∧ k_ ≠ q0))) (fun _ hk => hk.2) (.int .i64 z6)) (fun _ hk => hk.2) (.slice y3 z7.length y4)) (fun _ hk => hk.2) (.bool y0)) (fun _ hk => hk.2) (.slice y9 y2.length Q0)), by apply R_u; exact Kd.R_mono (Kd.R_far (p := ⟨q0, 3, none⟩) (Kd.R_far (p := ⟨q0, 2, none⟩) (Kd.R_far (p := ⟨q0, 1, none⟩) (Kd.R_far (p := ⟨q0, 0, none⟩) (Kd.R_types Q4.out q4.out (by decide)) (fun _ hk => hk.2) (.int .i64 z6)) (fun _ hk => hk.2) (.slice y3 z7.length y4)) (fun _ hk => hk.2) (.bool y0)) (fun _ hk => hk.2) (.slice y9 y2.length Q0)) (fun _ hk => hk.1.1), bl HB⟩
      ·
       rw [if_neg c14] at H
       exact absurd H (by simp)
     ·
      rw [if_neg c13] at H
      exact absurd H (by simp)
    ·
     rw [if_neg c12] at H
     exact absurd H (by simp)
   ·
    replace c10 := Bool.eq_false_iff.mpr c10
    subst c10
    have H1 : (some (0, ([] : List (S39)), false, ([] : List Int), 1)) = some (r1, r2, r3, r4, r5) := by rw [if_neg (show ¬ (false = true) by decide)] at H; exact H
    clear H
    have H := H1
    clear H1
    simp only [Option.some.injEq, Prod.mk.injEq] at H
    obtain ⟨rfl, rfl, rfl, rfl, rfl⟩ := H
    go_enter Try.func12, Try.ntmps12
    go_wp2_with (first | ((with_reducible refine gate_dst (N := 3) rfl ?_); refine bx 3 #[.int .i64 j0, .slice j7 q9.length j8, .bool j1, .slice j3 q8.length j4] 26 ?_; intro q7 hg w33 hbox hb; have q1 := Qaa.mk (hbox); have y5 := Qaa.mk ((by rw [hg]; exact (below_size (bl HB)) : w.heap.size ≤ q7)); have y6 := Qaa.mk ((by rw [hg]; exact (below_size (bl HB)) : w.heap.size ≤ q7)); replace q3 := Qaa.mk (Kd.V_below (Kd.V_elderB (V_u q3.out) q7 (Nat.le_of_eq hg.symm)) hb); replace HB := bs HB hb; clear hb hbox hg) | ((with_reducible refine gate_dst (N := 6) rfl ?_); refine bx 6 #[.int .i64 0, .slice none 0 0, .bool false, .slice none 0 0] 26 ?_; intro q0 hg w34 hbox hb; have q4 := Qaa.mk (hbox); have y7 := Qaa.mk ((by rw [hg]; exact (below_size (bl HB)) : w.heap.size ≤ q0)); have y8 := Qaa.mk ((by rw [hg]; exact (below_size (bl HB)) : w.heap.size ≤ q0)); have q5 := Qaa.mk ((by rw [hg]; exact Nat.ne_of_lt (blk_lt (Ub q1)) : q7 ≠ q0)); have j5 := Qaa.mk ((by rw [hg]; exact Nat.ne_of_gt (blk_lt (Ub q1)) : q0 ≠ q7)); replace q3 := Qaa.mk (Kd.V_below (Kd.V_elderB (V_u q3.out) q0 (Nat.le_of_eq hg.symm)) hb); replace q1 := Bb q1 hb; replace HB := bs HB hb; clear hb hbox hg; have Jw := q5.out; have Jx := j5.out; obtain ⟨Qu, Qv, Qw, Qx, Qy, Qz, Z0, Z1⟩ := cf4 q1) | ((with_reducible refine gate_callee (f := 34) rfl ?_); refine gL (some 11) Try.func34 #[.agg #[.int .i64 j0, .slice j7 q9.length j8, .bool j1, .slice j3 q8.length j4]] ?_; (with_reducible refine (Qac.calls k j0 _ _ q9 j1 _ _ q8 j9 _ ?side1 ?side2 ?side3 ?side4 A4.out).mono ?_); (case side1 => exact Cb z2 HB); (case side2 => exact z3.out); (case side3 => exact Cu (Kd.V_reads' q3.out).2.2); (case side4 => exact (Kd.V_reads' q3.out).2.1); rintro e w37 ⟨rfl, hb⟩; refine ⟨_, rfl, ?_⟩; replace q3 := Qaa.mk (Kd.V_below (V_u q3.out) hb); replace q1 := Bb q1 hb; replace q4 := Bb q4 hb; replace HB := bs HB hb; (try clear hb); obtain ⟨Z2, Z3, Z4, Z5, Z6, Z7, Z8, Z9⟩ := cf4 q1) | ((with_reducible refine gate_callee (f := 22) rfl ?_); refine gL (some 17) Try.func22 #[.agg #[.int .i64 j0, .slice j7 q9.length j8, .bool j1, .slice j3 q8.length j4]] ?_; (with_reducible refine (Qao.calls k j0 _ _ q9 j1 (fun k_ => (((j6 k_ ∨ w.heap.size ≤ k_) ∧ k_ ≠ q7) ∧ k_ ≠ q0)) _ _ q8 q2 _ ?side1 ?side2 ?side3 A6.out).mono ?_); (case side1 => exact Cb z2 HB); (case side2 => exact z3.out); (case side3 => exact q3.out); rintro e w39 ⟨Q6, rfl, ho0, hb⟩; refine ⟨_, rfl, ?_⟩; have j2 := Qaa.mk (Kd.V_lower (Kd.V_mono (ok' := fun k_ => (j6 k_ ∨ w.heap.size ≤ k_) ∧ k_ ≠ q7 ∧ k_ ≠ q0) ho0 (fun k_ hk_ => ⟨Or.elim hk_ (fun hs_ => hs_.1.1) (fun hn_ => (.inr (Nat.le_trans (below_size (bl HB)) hn_))), Or.elim hk_ (fun hs_ => hs_.1.2) (fun hn_ => (Kd.freshB (Ub q1) k_ hn_)), Or.elim hk_ (fun hs_ => hs_.2) (fun hn_ => (Kd.freshB (Ub q4) k_ hn_))⟩)) (below_size (bl HB))); replace q3 := Qaa.mk (Kd.V_below (V_u q3.out) hb); replace q1 := Bb q1 hb; replace q4 := Bb q4 hb; replace HB := bs HB hb; (try clear hb); (try clear ho0); obtain ⟨Q7, Q8, eo40⟩ := Kd.V_slice j2.out; subst eo40) | ((with_reducible refine gate_callee (f := 25) rfl ?_); refine gL (some 21) Try.func25 #[.int .i64 a1, .int .i64 0, .int .i64 (q2.length : Int)] ?_; (with_reducible refine (Qaq.calls a1 0 (q2.length : Int) true _ A7.out).mono ?_); rintro e w' ⟨rfl, ⟨nd, rfl⟩⟩; refine ⟨_, rfl, ?_⟩; (try (rw [drewN_self w39]; generalize hq_ : World.drewN w39 _ = w39; have n0_ : Qaa (Kd.V (Kd.int .i64) 3 w39 w.heap.size (fun k_ => (j6 k_ ∨ w.heap.size ≤ k_) ∧ k_ ≠ q7 ∧ k_ ≠ q0) (.slice j3 q8.length j4) q8) := ⟨by rw [← hq_]; exact (by apply V_u; exact Vm q3.out)⟩; have n1_ : Qaa (Kd.V (Kd.int .i64) 3 w39 w.heap.size (fun k_ => (j6 k_ ∨ w.heap.size ≤ k_) ∧ k_ ≠ q7 ∧ k_ ≠ q0) (.slice Q7 q2.length Q8) q2) := ⟨by rw [← hq_]; exact (V_u j2.out)⟩; have n2_ : Qaa (w39.heap[q7]? = some (.cells #[.int .i64 j0, .slice j7 q9.length j8, .bool j1, .slice j3 q8.length j4] 26 (0, 0))) := ⟨by rw [← hq_]; exact (blk_u q1.out)⟩; have n3_ : Qaa (w39.heap[q0]? = some (.cells #[.int .i64 0, .slice none 0 0, .bool false, .slice none 0 0] 26 (0, 0))) := ⟨by rw [← hq_]; exact (blk_u q4.out)⟩; have n4_ : Qaa (Below w.heap.size w w39) := ⟨by rw [← hq_]; exact (bl HB)⟩; clear q3 j2 q1 q4 HB hq_; have q3 := n0_; have j2 := n1_; have q1 := n2_; have q4 := n3_; have HB := n4_; clear n0_ n1_ n2_ n3_ n4_))) | (go_at_call 25; (with_reducible refine (Qaq.calls a2 0 1000 false _ A9.out).mono ?_); rintro e w' ⟨rfl, ⟨nd, rfl⟩⟩; (try (rw [drewN_self w39]; generalize hq_ : World.drewN w39 _ = w39; have n0_ : Qaa (Kd.V (Kd.int .i64) 3 w39 w.heap.size (fun k_ => (j6 k_ ∨ w.heap.size ≤ k_) ∧ k_ ≠ q7 ∧ k_ ≠ q0) (.slice j3 q8.length j4) q8) := ⟨by rw [← hq_]; exact (by apply V_u; exact Vm q3.out)⟩; have n1_ : Qaa (Kd.V (Kd.int .i64) 3 w39 w.heap.size (fun k_ => (j6 k_ ∨ w.heap.size ≤ k_) ∧ k_ ≠ q7 ∧ k_ ≠ q0) (.slice Q7 q2.length Q8) q2) := ⟨by rw [← hq_]; exact (V_u j2.out)⟩; have n2_ : Qaa (w39.heap[q7]? = some (.cells #[.int .i64 j0, .slice j7 q9.length j8, .bool j1, .slice j3 q8.length j4] 26 (0, 0))) := ⟨by rw [← hq_]; exact (blk_u q1.out)⟩; have n3_ : Qaa (w39.heap[q0]? = some (.cells #[.int .i64 0, .slice none 0 0, .bool false, .slice none 0 0] 26 (0, 0))) := ⟨by rw [← hq_]; exact (blk_u q4.out)⟩; have n4_ : Qaa (Below w.heap.size w w39) := ⟨by rw [← hq_]; exact (bl HB)⟩; clear q3 j2 q1 q4 HB hq_; have q3 := n0_; have j2 := n1_; have q1 := n2_; have q4 := n3_; have HB := n4_; clear n0_ n1_ n2_ n3_ n4_)); obtain ⟨Za, Zb, Zc, Zd, Ze, Zf, Zg, Zh⟩ := cf4 q4))
    refine bodyPost_ret (results_ct rfl _ _ q0 26 #[.int .i64 0, .slice none 0 0, .bool false, .slice none 0 0] (0, 0) _ rfl (by apply blk_u; refine blk_put (cs := #[.int .i64 0, .slice none 0 0, .bool false, .slice none 0 0]) ?_ 3 _ rfl; apply blk_u; refine blk_put (cs := #[.int .i64 0, .slice none 0 0, .bool false, .slice none 0 0]) ?_ 2 _ rfl; apply blk_u; refine blk_put (cs := #[.int .i64 0, .slice none 0 0, .bool false, .slice none 0 0]) ?_ 1 _ rfl; apply blk_u; refine blk_put (cs := #[.int .i64 0, .slice none 0 0, .bool false, .slice none 0 0]) ?_ 0 _ rfl; apply blk_u; exact q4.out) Try.underlying26 rfl (by kernel_rfl)) rfl ?_
    exact ⟨_, _, by first | rfl | (simp [errW_none, errW_some] <;> rfl) | (simp [*, errW_none, errW_some] <;> rfl), by first | exact Kd.S_nil _ _ _ _ _ | exact Kd.N_nil _ _ _ _ _ | exact Kd.V_nil _ _ _ _ _ | exact Kd.Q_nil _ _ _ _ _ | exact Kd.R_nil _ _ _ _ _, by first | exact Kd.R_nil _ _ _ _ _ | exact Kd.N_nil _ _ _ _ _ | exact Kd.V_nil _ _ _ _ _ | exact Kd.Q_nil _ _ _ _ _ | exact Kd.S_nil _ _ _ _ _, bl HB⟩
  ·
   replace c8 := Bool.eq_false_iff.mpr c8
   subst c8
   have H1 : (some (0, ([] : List (S39)), false, ([] : List Int), 1)) = some (r1, r2, r3, r4, r5) := by rw [if_neg (show ¬ (false = true) by decide)] at H; exact H
   clear H
   have H := H1
   clear H1
   simp only [Option.some.injEq, Prod.mk.injEq] at H
   obtain ⟨rfl, rfl, rfl, rfl, rfl⟩ := H
   go_enter Try.func12, Try.ntmps12
   go_wp2_with (first | ((with_reducible refine gate_dst (N := 3) rfl ?_); refine bx 3 #[.int .i64 j0, .slice j7 q9.length j8, .bool j1, .slice j3 q8.length j4] 26 ?_; intro q7 hg w42 hbox hb; have q1 := Qaa.mk (hbox); have y5 := Qaa.mk ((by rw [hg]; exact (below_size (bl HB)) : w.heap.size ≤ q7)); have y6 := Qaa.mk ((by rw [hg]; exact (below_size (bl HB)) : w.heap.size ≤ q7)); replace q3 := Qaa.mk (Kd.V_below (Kd.V_elderB (V_u q3.out) q7 (Nat.le_of_eq hg.symm)) hb); replace HB := bs HB hb; clear hb hbox hg) | ((with_reducible refine gate_dst (N := 6) rfl ?_); refine bx 6 #[.int .i64 0, .slice none 0 0, .bool false, .slice none 0 0] 26 ?_; intro q0 hg w43 hbox hb; have q4 := Qaa.mk (hbox); have y7 := Qaa.mk ((by rw [hg]; exact (below_size (bl HB)) : w.heap.size ≤ q0)); have y8 := Qaa.mk ((by rw [hg]; exact (below_size (bl HB)) : w.heap.size ≤ q0)); have q5 := Qaa.mk ((by rw [hg]; exact Nat.ne_of_lt (blk_lt (Ub q1)) : q7 ≠ q0)); have j5 := Qaa.mk ((by rw [hg]; exact Nat.ne_of_gt (blk_lt (Ub q1)) : q0 ≠ q7)); replace q3 := Qaa.mk (Kd.V_below (Kd.V_elderB (V_u q3.out) q0 (Nat.le_of_eq hg.symm)) hb); replace q1 := Bb q1 hb; replace HB := bs HB hb; clear hb hbox hg; have Jy := q5.out; have Jz := j5.out; obtain ⟨Zi, Zj, Zk, Zl, Zm, Zn, Zo, Zp⟩ := cf4 q1) | ((with_reducible refine gate_callee (f := 34) rfl ?_); refine gL (some 11) Try.func34 #[.agg #[.int .i64 j0, .slice j7 q9.length j8, .bool j1, .slice j3 q8.length j4]] ?_; (with_reducible refine (Qac.calls k j0 _ _ q9 j1 _ _ q8 j9 _ ?side1 ?side2 ?side3 ?side4 A4.out).mono ?_); (case side1 => exact Cb z2 HB); (case side2 => exact z3.out); (case side3 => exact Cu (Kd.V_reads' q3.out).2.2); (case side4 => exact (Kd.V_reads' q3.out).2.1); rintro e w46 ⟨rfl, hb⟩; refine ⟨_, rfl, ?_⟩; replace q3 := Qaa.mk (Kd.V_below (V_u q3.out) hb); replace q1 := Bb q1 hb; replace q4 := Bb q4 hb; replace HB := bs HB hb; (try clear hb); obtain ⟨Zq, Zr, Zs, Zt, Zu, Zv, Zw, Zx⟩ := cf4 q1) | ((with_reducible refine gate_callee (f := 22) rfl ?_); refine gL (some 17) Try.func22 #[.agg #[.int .i64 j0, .slice j7 q9.length j8, .bool j1, .slice j3 q8.length j4]] ?_; (with_reducible refine (Qao.calls k j0 _ _ q9 j1 (fun k_ => (((j6 k_ ∨ w.heap.size ≤ k_) ∧ k_ ≠ q7) ∧ k_ ≠ q0)) _ _ q8 q2 _ ?side1 ?side2 ?side3 A6.out).mono ?_); (case side1 => exact Cb z2 HB); (case side2 => exact z3.out); (case side3 => exact q3.out); rintro e w48 ⟨Q6, rfl, ho0, hb⟩; refine ⟨_, rfl, ?_⟩; have j2 := Qaa.mk (Kd.V_lower (Kd.V_mono (ok' := fun k_ => (j6 k_ ∨ w.heap.size ≤ k_) ∧ k_ ≠ q7 ∧ k_ ≠ q0) ho0 (fun k_ hk_ => ⟨Or.elim hk_ (fun hs_ => hs_.1.1) (fun hn_ => (.inr (Nat.le_trans (below_size (bl HB)) hn_))), Or.elim hk_ (fun hs_ => hs_.1.2) (fun hn_ => (Kd.freshB (Ub q1) k_ hn_)), Or.elim hk_ (fun hs_ => hs_.2) (fun hn_ => (Kd.freshB (Ub q4) k_ hn_))⟩)) (below_size (bl HB))); replace q3 := Qaa.mk (Kd.V_below (V_u q3.out) hb); replace q1 := Bb q1 hb; replace q4 := Bb q4 hb; replace HB := bs HB hb; (try clear hb); (try clear ho0); obtain ⟨Qc, Qd, eo49⟩ := Kd.V_slice j2.out; subst eo49) | ((with_reducible refine gate_callee (f := 25) rfl ?_); refine gL (some 21) Try.func25 #[.int .i64 a1, .int .i64 0, .int .i64 (q2.length : Int)] ?_; (with_reducible refine (Qaq.calls a1 0 (q2.length : Int) false _ A7.out).mono ?_); rintro e w' ⟨rfl, ⟨nd, rfl⟩⟩; refine ⟨_, rfl, ?_⟩; (try (rw [drewN_self w48]; generalize hq_ : World.drewN w48 _ = w48; have n0_ : Qaa (Kd.V (Kd.int .i64) 3 w48 w.heap.size (fun k_ => (j6 k_ ∨ w.heap.size ≤ k_) ∧ k_ ≠ q7 ∧ k_ ≠ q0) (.slice j3 q8.length j4) q8) := ⟨by rw [← hq_]; exact (by apply V_u; exact Vm q3.out)⟩; have n1_ : Qaa (Kd.V (Kd.int .i64) 3 w48 w.heap.size (fun k_ => (j6 k_ ∨ w.heap.size ≤ k_) ∧ k_ ≠ q7 ∧ k_ ≠ q0) (.slice Qc q2.length Qd) q2) := ⟨by rw [← hq_]; exact (V_u j2.out)⟩; have n2_ : Qaa (w48.heap[q7]? = some (.cells #[.int .i64 j0, .slice j7 q9.length j8, .bool j1, .slice j3 q8.length j4] 26 (0, 0))) := ⟨by rw [← hq_]; exact (blk_u q1.out)⟩; have n3_ : Qaa (w48.heap[q0]? = some (.cells #[.int .i64 0, .slice none 0 0, .bool false, .slice none 0 0] 26 (0, 0))) := ⟨by rw [← hq_]; exact (blk_u q4.out)⟩; have n4_ : Qaa (Below w.heap.size w w48) := ⟨by rw [← hq_]; exact (bl HB)⟩; clear q3 j2 q1 q4 HB hq_; have q3 := n0_; have j2 := n1_; have q1 := n2_; have q4 := n3_; have HB := n4_; clear n0_ n1_ n2_ n3_ n4_)); obtain ⟨Zy, Zz, J0, J1, J2, J3, J4, J5⟩ := cf4 q4))
   refine bodyPost_ret (results_ct rfl _ _ q0 26 #[.int .i64 0, .slice none 0 0, .bool false, .slice none 0 0] (0, 0) _ rfl (by apply blk_u; refine blk_put (cs := #[.int .i64 0, .slice none 0 0, .bool false, .slice none 0 0]) ?_ 3 _ rfl; apply blk_u; refine blk_put (cs := #[.int .i64 0, .slice none 0 0, .bool false, .slice none 0 0]) ?_ 2 _ rfl; apply blk_u; refine blk_put (cs := #[.int .i64 0, .slice none 0 0, .bool false, .slice none 0 0]) ?_ 1 _ rfl; apply blk_u; refine blk_put (cs := #[.int .i64 0, .slice none 0 0, .bool false, .slice none 0 0]) ?_ 0 _ rfl; apply blk_u; exact q4.out) Try.underlying26 rfl (by kernel_rfl)) rfl ?_
   exact ⟨_, _, by first | rfl | (simp [errW_none, errW_some] <;> rfl) | (simp [*, errW_none, errW_some] <;> rfl), by first | exact Kd.S_nil _ _ _ _ _ | exact Kd.N_nil _ _ _ _ _ | exact Kd.V_nil _ _ _ _ _ | exact Kd.Q_nil _ _ _ _ _ | exact Kd.R_nil _ _ _ _ _, by first | exact Kd.R_nil _ _ _ _ _ | exact Kd.N_nil _ _ _ _ _ | exact Kd.V_nil _ _ _ _ _ | exact Kd.Q_nil _ _ _ _ _ | exact Kd.S_nil _ _ _ _ _, bl HB⟩
 ·
  rw [if_neg c5] at H
  have Q9 : (j9 == 0) = false := beq_eq_false_iff_ne.mpr c5
  have Qa : (j9 != 0) = true := bne_iff_ne.mpr c5
  simp only [Option.some.injEq, Prod.mk.injEq] at H
  obtain ⟨rfl, rfl, rfl, rfl, rfl⟩ := H
  go_enter Try.func12, Try.ntmps12
  go_wp2_with (first | ((with_reducible refine gate_dst (N := 3) rfl ?_); refine bx 3 #[.int .i64 j0, .slice j7 q9.length j8, .bool j1, .slice j3 q8.length j4] 26 ?_; intro q7 hg w51 hbox hb; have q1 := Qaa.mk (hbox); have y5 := Qaa.mk ((by rw [hg]; exact (below_size (bl HB)) : w.heap.size ≤ q7)); have y6 := Qaa.mk ((by rw [hg]; exact (below_size (bl HB)) : w.heap.size ≤ q7)); replace q3 := Qaa.mk (Kd.V_below (Kd.V_elderB (V_u q3.out) q7 (Nat.le_of_eq hg.symm)) hb); replace HB := bs HB hb; clear hb hbox hg) | ((with_reducible refine gate_dst (N := 6) rfl ?_); refine bx 6 #[.int .i64 0, .slice none 0 0, .bool false, .slice none 0 0] 26 ?_; intro q0 hg w52 hbox hb; have q4 := Qaa.mk (hbox); have y7 := Qaa.mk ((by rw [hg]; exact (below_size (bl HB)) : w.heap.size ≤ q0)); have y8 := Qaa.mk ((by rw [hg]; exact (below_size (bl HB)) : w.heap.size ≤ q0)); have q5 := Qaa.mk ((by rw [hg]; exact Nat.ne_of_lt (blk_lt (Ub q1)) : q7 ≠ q0)); have j5 := Qaa.mk ((by rw [hg]; exact Nat.ne_of_gt (blk_lt (Ub q1)) : q0 ≠ q7)); replace q3 := Qaa.mk (Kd.V_below (Kd.V_elderB (V_u q3.out) q0 (Nat.le_of_eq hg.symm)) hb); replace q1 := Bb q1 hb; replace HB := bs HB hb; clear hb hbox hg; have Y0 := q5.out; have Y1 := j5.out; obtain ⟨J6, J7, J8, J9, Ja, Jb, Jc, Jd⟩ := cf4 q1) | ((with_reducible refine gate_callee (f := 34) rfl ?_); refine gL (some 11) Try.func34 #[.agg #[.int .i64 j0, .slice j7 q9.length j8, .bool j1, .slice j3 q8.length j4]] ?_; (with_reducible refine (Qac.calls k j0 _ _ q9 j1 _ _ q8 j9 _ ?side1 ?side2 ?side3 ?side4 A4.out).mono ?_); (case side1 => exact Cb z2 HB); (case side2 => exact z3.out); (case side3 => exact Cu (Kd.V_reads' q3.out).2.2); (case side4 => exact (Kd.V_reads' q3.out).2.1); rintro e w55 ⟨rfl, hb⟩; refine ⟨_, rfl, ?_⟩; replace q3 := Qaa.mk (Kd.V_below (V_u q3.out) hb); replace q1 := Bb q1 hb; replace q4 := Bb q4 hb; replace HB := bs HB hb; (try clear hb); obtain ⟨Je, Jf, Jg, Jh, Ji, Jj, Jk, Jl⟩ := cf4 q4))
  refine bodyPost_ret (results_ct rfl _ _ q0 26 #[.int .i64 0, .slice none 0 0, .bool false, .slice none 0 0] (0, 0) _ rfl (by apply blk_u; refine blk_put (cs := #[.int .i64 0, .slice none 0 0, .bool false, .slice none 0 0]) ?_ 3 _ rfl; apply blk_u; refine blk_put (cs := #[.int .i64 0, .slice none 0 0, .bool false, .slice none 0 0]) ?_ 2 _ rfl; apply blk_u; refine blk_put (cs := #[.int .i64 0, .slice none 0 0, .bool false, .slice none 0 0]) ?_ 1 _ rfl; apply blk_u; refine blk_put (cs := #[.int .i64 0, .slice none 0 0, .bool false, .slice none 0 0]) ?_ 0 _ rfl; apply blk_u; exact q4.out) Try.underlying26 rfl (by kernel_rfl)) rfl ?_
  exact ⟨_, _, by first | rfl | (simp [errW_none, errW_some] <;> rfl) | (simp [*, errW_none, errW_some] <;> rfl), by first | exact Kd.S_nil _ _ _ _ _ | exact Kd.N_nil _ _ _ _ _ | exact Kd.V_nil _ _ _ _ _ | exact Kd.Q_nil _ _ _ _ _ | exact Kd.R_nil _ _ _ _ _, by first | exact Kd.R_nil _ _ _ _ _ | exact Kd.N_nil _ _ _ _ _ | exact Kd.V_nil _ _ _ _ _ | exact Kd.Q_nil _ _ _ _ _ | exact Kd.S_nil _ _ _ _ _, bl HB⟩
end Go.Proofs.Ytphnmaobpefoiaa.XA
end
section
namespace Go.Proofs.Ytphnmaobpefoiaa.XA
open Go.RowKit Go.Proofs.YtphnmaobpefoiaaXW Go.Proofs.YtphnmaobpefoiaaW.PrintWords Go.Proofs.YtphnmaobpefoiaaW.PrintLast Go.Proofs.YtphnmaobpefoiaaW.PrintMore
attribute [local go_sem] max2_int min2_int max_two min_two max_three min_three max_four min_four sleq
set_option linter.unusedVariables false
set_option linter.unusedSimpArgs false
def Qbo.f (k : Nat) (q8 : Int) (q6 : List (S39)) (q9 : Bool) (q5 : List Int) : Option (Int × (List (S39)) × Bool × List Int × Int) := (Qac.f k q8 q6 q9 q5).bind fun j2 => (if j2 = 0 then ((Qao.f k q8 q6 q9 q5).bind fun j3 => ((Qam.f k q8 q6 q9 q5 j3).bind fun q7 => (some (q7.1, q7.2.1, q7.2.2.1, q7.2.2.2, 0)))) else (some (0, ([] : List (S39)), false, ([] : List Int), j2)))
set_option maxHeartbeats 8000000 in
set_option maxRecDepth 100000 in
theorem Qbo.calls (k : Nat) (q8 : Int) (j6 : Option Addr) (j7 : Nat) (q6 : List (S39)) (q9 : Bool) (j9 : Nat → Prop) (j4 : Option Addr) (j5 : Nat) (q5 : List Int) (r1 : Int) (r2 : List (S39)) (r3 : Bool) (r4 : List Int) (r5 : Int) (w : World) (y0 : Kd.C k39 w j6 q6.length q6) (y1 : q6.length ≤ j7) (hs0_3 : Kd.V (Kd.int .i64) 3 w w.heap.size (fun k_ => j9 k_) (.slice j4 q5.length j5) q5) (h : Qbo.f k q8 q6 q9 q5 = some (r1, r2, r3, r4, r5)) :
  Calls Try.prog 14 #[.agg #[.int .i64 q8, .slice j6 q6.length j7, .bool q9, .slice j4 q5.length j5]] w fun e w' => ∃ v1_ v3_ : Value, e = .returned (.tuple #[.agg #[.int .i64 r1, v1_, .bool r3, v3_], .int .i64 r5]) ∧ Kd.N k39 39 w' w.heap.size (fun k_ => (j9 k_ ∨ w.heap.size ≤ k_) ∧ some k_ ≠ (v3_ : Value).ownBlock) v1_ r2 ∧ Kd.R (Kd.int .i64) 3 w' w.heap.size (fun k_ => (w.heap.size ≤ k_)) v3_ r4 ∧ Below w.heap.size w w' := by
 have hu26 := Try.underlying26
 have z3 := Qaa.mk y0
 have z4 := Qaa.mk y1
 clear y0 y1
 have q3 := Qaa.mk (show Kd.V (Kd.int .i64) 3 w w.heap.size (fun k_ => (j9 k_ ∨ w.heap.size ≤ k_)) (.slice j4 q5.length j5) q5 from Kd.V_mono hs0_3 (fun k_ hk => .inl hk))
 have HB := Qaa.mk (Below.refl w.heap.size w)
 have H : ((Qac.f k q8 q6 q9 q5).bind fun j2 => (if j2 = 0 then ((Qao.f k q8 q6 q9 q5).bind fun j3 => ((Qam.f k q8 q6 q9 q5 j3).bind fun q7 => (some (q7.1, q7.2.1, q7.2.2.1, q7.2.2.2, 0)))) else (some (0, ([] : List (S39)), false, ([] : List Int), j2)))) = some (r1, r2, r3, r4, r5) := h
 clear h
 replace H := Option.bind_eq_some_iff.mp H
 obtain ⟨j2, A20, H⟩ := H
 replace H : (if j2 = 0 then ((Qao.f k q8 q6 q9 q5).bind fun j3 => ((Qam.f k q8 q6 q9 q5 j3).bind fun q7 => (some (q7.1, q7.2.1, q7.2.2.1, q7.2.2.2, 0)))) else (some (0, ([] : List (S39)), false, ([] : List Int), j2))) = some (r1, r2, r3, r4, r5) := H
 have A2 := Qaa.mk A20
 clear A20
 by_cases c3 : j2 = 0
 ·
  rw [if_pos c3] at H
  have y8 : (j2 == 0) = true := beq_iff_eq.mpr c3
  have y9 : (j2 != 0) = false := bne_eq_false_iff_eq.mpr c3
  clear c3
  replace H := Option.bind_eq_some_iff.mp H
  obtain ⟨j3, A40, H⟩ := H
  replace H : ((Qam.f k q8 q6 q9 q5 j3).bind fun q7 => (some (q7.1, q7.2.1, q7.2.2.1, q7.2.2.2, 0))) = some (r1, r2, r3, r4, r5) := H
  have A4 := Qaa.mk A40
  clear A40
  replace H := Option.bind_eq_some_iff.mp H
  obtain ⟨⟨j8, z0, z2, z5⟩, A50, H⟩ := H
  replace H : (some (j8, z0, z2, z5, 0)) = some (r1, r2, r3, r4, r5) := H
  have A5 := Qaa.mk A50
  clear A50
  simp only [Option.some.injEq, Prod.mk.injEq] at H
  obtain ⟨rfl, rfl, rfl, rfl, rfl⟩ := H
  go_enter Try.func14, Try.ntmps14
  try go_wp2_with (first | ((with_reducible refine gate_dst (N := 1) rfl ?_); refine bx 1 #[.int .i64 q8, .slice j6 q6.length j7, .bool q9, .slice j4 q5.length j5] 26 ?_; intro j0 hg w6 hbox hb; have q2 := Qaa.mk (hbox); have y4 := Qaa.mk ((by rw [hg]; exact (below_size (bl HB)) : w.heap.size ≤ j0)); have y5 := Qaa.mk ((by rw [hg]; exact (below_size (bl HB)) : w.heap.size ≤ j0)); replace q3 := Qaa.mk (Kd.V_below (Kd.V_elderB (V_u q3.out) j0 (Nat.le_of_eq hg.symm)) hb); replace HB := bs HB hb; clear hb hbox hg) | ((with_reducible refine gate_dst (N := 2) rfl ?_); refine bx 2 #[.int .i64 0, .slice none 0 0, .bool false, .slice none 0 0] 26 ?_; intro q0 hg w7 hbox hb; have q4 := Qaa.mk (hbox); have y6 := Qaa.mk ((by rw [hg]; exact (below_size (bl HB)) : w.heap.size ≤ q0)); have y7 := Qaa.mk ((by rw [hg]; exact (below_size (bl HB)) : w.heap.size ≤ q0)); have q1 := Qaa.mk ((by rw [hg]; exact Nat.ne_of_lt (blk_lt (Ub q2)) : j0 ≠ q0)); have j1 := Qaa.mk ((by rw [hg]; exact Nat.ne_of_gt (blk_lt (Ub q2)) : q0 ≠ j0)); replace q3 := Qaa.mk (Kd.V_below (Kd.V_elderB (V_u q3.out) q0 (Nat.le_of_eq hg.symm)) hb); replace q2 := Bb q2 hb; replace HB := bs HB hb; clear hb hbox hg; have Qt := q1.out; have Qu := j1.out; obtain ⟨Qj, Qk, Ql, Qm, Qn, Qo, Qp, Qq⟩ := cf4 q2) | ((with_reducible refine gate_callee (f := 34) rfl ?_); refine gL (some 6) Try.func34 #[.agg #[.int .i64 q8, .slice j6 q6.length j7, .bool q9, .slice j4 q5.length j5]] ?_; (with_reducible refine (Qac.calls k q8 _ _ q6 q9 _ _ q5 j2 _ ?side1 ?side2 ?side3 ?side4 A2.out).mono ?_); (case side1 => exact Cb z3 HB); (case side2 => exact z4.out); (case side3 => exact Cu (Kd.V_reads' q3.out).2.2); (case side4 => exact (Kd.V_reads' q3.out).2.1); rintro e w10 ⟨rfl, hb⟩; refine ⟨_, rfl, ?_⟩; replace q3 := Qaa.mk (Kd.V_below (V_u q3.out) hb); replace q2 := Bb q2 hb; replace q4 := Bb q4 hb; replace HB := bs HB hb; (try clear hb)))
  replace q3 := Qaa.mk (Kd.V_drew q3.out)
  replace q2 := Qaa.mk (blk_drew q2.out)
  replace q4 := Qaa.mk (blk_drew q4.out)
  replace HB := Qaa.mk (below_drew1 HB.out)
  refine start_ (n := 6) (S := fun w' => w'.cell? ⟨j0, 0, none⟩ = some (.int .i64 q8) ∧ w'.cell? ⟨j0, 1, none⟩ = some (.slice j6 q6.length j7) ∧ w'.cell? ⟨j0, 2, none⟩ = some (.bool q9) ∧ w'.cell? ⟨j0, 3, none⟩ = some (.slice j4 q5.length j5)) (ds := []) #[false, false, false, false, false, false] (by kernel_rfl) rfl rfl ⟨(blk_cell q2.out 0).trans rfl, (blk_cell q2.out 1).trans rfl, (blk_cell q2.out 2).trans rfl, (blk_cell q2.out 3).trans rfl⟩ (fun hHeld => ?_)
  generalize w10.drew = w11 at q3 q2 q4 HB hHeld ⊢
  refine take_ (i := 0) (N := some 11) (v := ?_) (a' := ?_) #[true, false, false, false, false, false] rfl rfl (by kernel_rfl) (fun _ _ _ h => h) (Or.inl ⟨by rfl, ?_⟩) hHeld ?_ ?_
  rotate_left
  ·
   rintro w' ⟨s0, s1, s2, s3⟩
   go_simp
   with_reducible rfl
  rotate_left
  ·
   simp only [Act.put, List.setIfInBounds_toArray, List.set_cons_zero, List.set_cons_succ, i64_w, i32_w]
   rfl
  refine take_ (i := 1) (N := some 12) (v := ?_) (a' := ?_) #[true, true, false, false, false, false] rfl rfl (by kernel_rfl) (fun _ _ _ h => h) (Or.inl ⟨by rfl, ?_⟩) hHeld ?_ ?_
  rotate_left
  ·
   rintro w' ⟨s0, s1, s2, s3⟩
   go_simp
   with_reducible rfl
  rotate_left
  ·
   simp only [Act.put, List.setIfInBounds_toArray, List.set_cons_zero, List.set_cons_succ, i64_w, i32_w]
   rfl
  refine one_ (i := 2) (N := some 13) #[true, true, true, false, false, false] rfl rfl (by kernel_rfl) (by decide) (fun K hK => ?_)
  refine goes_ Try.func22 (by kernel_rfl) rfl #[.agg #[.int .i64 q8, .slice j6 q6.length j7, .bool q9, .slice j4 q5.length j5]] (by rfl) rfl rfl (by (try simp only [List.map_toArray, List.map_cons, List.map_nil]); first | done | rfl | (simp only [List.length_drop, List.length_take]; rfl)) ?_
  with_reducible refine (Qao.calls k q8 _ _ q6 q9 (fun k_ => (((j9 k_ ∨ w.heap.size ≤ k_) ∧ k_ ≠ j0) ∧ k_ ≠ q0)) _ _ q5 j3 _ ?side1 ?side2 ?side3 A4.out).mono ?_
  (case side1 => exact Cb z3 HB)
  (case side2 => exact z4.out)
  (case side3 => exact q3.out)
  rintro e w12 ⟨Qv, rfl, ho0, hb⟩
  refine ⟨_, rfl, ?_⟩
  have z1 := Qaa.mk (Kd.V_lower (Kd.V_mono (ok' := fun k_ => (j9 k_ ∨ w.heap.size ≤ k_) ∧ k_ ≠ j0 ∧ k_ ≠ q0) ho0 (fun k_ hk_ => ⟨Or.elim hk_ (fun hs_ => hs_.1.1) (fun hn_ => (.inr (Nat.le_trans (below_size (bl HB)) hn_))), Or.elim hk_ (fun hs_ => hs_.1.2) (fun hn_ => (Kd.freshB (Ub q2) k_ hn_)), Or.elim hk_ (fun hs_ => hs_.2) (fun hn_ => (Kd.freshB (Ub q4) k_ hn_))⟩)) (below_size (bl HB)))
  replace q3 := Qaa.mk (Kd.V_below (V_u q3.out) hb)
  replace q2 := Bb q2 hb
  replace q4 := Bb q4 hb
  replace HB := bs HB hb
  (try clear hb)
  (try clear hb2)
  (try clear hk)
  (try clear hi)
  (try clear ho0)
  obtain ⟨Q0, Q1, eo13⟩ := Kd.V_slice z1.out
  (first | subst eo13 | (injection eo13 with f1_ f2_ f3_; have f4_ := f1_.symm; have f5_ := f3_.symm; clear f1_ f2_ f3_; subst f4_; subst f5_))
  refine hK.out _ _ ⟨(blk_cell q2.out 0).trans rfl, (blk_cell q2.out 1).trans rfl, (blk_cell q2.out 2).trans rfl, (blk_cell q2.out 3).trans rfl⟩ (fun hHeld => ?_)
  clear hK K
  refine norm_ (a' := ?_) ?_ ?_
  rotate_left
  ·
   show Act.put _ (some 13) _ = _
   simp only [Act.put, List.setIfInBounds_toArray, List.set_cons_zero, List.set_cons_succ, i64_w, i32_w]
   rfl
  refine one_ (i := 3) (N := some 14) #[true, true, true, true, false, false] rfl rfl (by kernel_rfl) (by decide) (fun K hK => ?_)
  refine goes_ Try.func35 (by kernel_rfl) rfl #[.agg #[.int .i64 q8, .slice j6 q6.length j7, .bool q9, .slice j4 q5.length j5], .slice Q0 j3.length Q1] (by rfl) rfl rfl (by (try simp only [List.map_toArray, List.map_cons, List.map_nil]); first | done | rfl | (simp only [List.length_drop, List.length_take]; rfl)) ?_
  with_reducible refine (Qam.calls k q8 _ _ q6 q9 _ _ q5 _ _ j3 j8 z0 z2 z5 _ ?side1 ?side2 ?side3 ?side4 ?side5 ?side6 A5.out).mono ?_
  (case side1 => exact Cb z3 HB)
  (case side2 => exact z4.out)
  (case side3 => exact Cu (Kd.V_reads' q3.out).2.2)
  (case side4 => exact (Kd.V_reads' q3.out).2.1)
  (case side5 => exact Cu (Kd.V_reads' z1.out).2.2)
  (case side6 => exact (Kd.V_reads' z1.out).2.1)
  rintro e w14 ⟨Qw, Q2, rfl, ho0, ho1, hb⟩
  refine ⟨_, rfl, ?_⟩
  have y2 := Qaa.mk (Kd.N_lower (Kd.N_mono (ok' := fun k_ => (j9 k_ ∨ w.heap.size ≤ k_) ∧ some k_ ≠ (Q2 : Value).ownBlock ∧ k_ ≠ j0 ∧ k_ ≠ q0) ho0 (fun k_ hk_ => ⟨(.inr (Nat.le_trans (below_size (bl HB)) hk_.1)), hk_.2, (Kd.freshB (Ub q2) k_ hk_.1), (Kd.freshB (Ub q4) k_ hk_.1)⟩)) (below_size (bl HB)))
  have y3 := Qaa.mk (Kd.R_lower (Kd.R_newM (M := fun k_ => (w.heap.size ≤ k_)) (Kd.R_mono (ok' := fun k_ => True) ho1 (fun _ hk_ => trivial)) (below_size (bl HB)) (fun k_ h_ => h_)) (below_size (bl HB)))
  replace q3 := Qaa.mk (Kd.V_mono (Kd.V_told (Kd.V_told (Kd.V_old (V_u q3.out) hb) (Kd.N_base ho0)) (Kd.R_base ho1)) (fun _ h_ => h_.1))
  replace z1 := Qaa.mk (Kd.V_mono (Kd.V_told (Kd.V_told (Kd.V_old (V_u z1.out) hb) (Kd.N_base ho0)) (Kd.R_base ho1)) (fun _ h_ => h_.1))
  replace q2 := Bb q2 hb
  replace q4 := Bb q4 hb
  replace HB := bs HB hb
  (try clear hb)
  (try clear hb2)
  (try clear hk)
  (try clear hi)
  (try clear ho0)
  (try clear ho1)
  obtain ⟨z6, z7, eo16⟩ := Kd.N_slice y2.out
  (first | subst eo16 | (injection eo16 with f1_ f2_ f3_; have f4_ := f1_.symm; have f5_ := f3_.symm; clear f1_ f2_ f3_; subst f4_; subst f5_))
  obtain ⟨z8, z9, eo19⟩ := Kd.R_slice y3.out
  (first | subst eo19 | (injection eo19 with f1_ f2_ f3_; have f4_ := f1_.symm; have f5_ := f3_.symm; clear f1_ f2_ f3_; subst f4_; subst f5_))
  refine hK.out _ _ ⟨(blk_cell q2.out 0).trans rfl, (blk_cell q2.out 1).trans rfl, (blk_cell q2.out 2).trans rfl, (blk_cell q2.out 3).trans rfl⟩ (fun hHeld => ?_)
  clear hK K
  refine norm_ (a' := ?_) ?_ ?_
  rotate_left
  ·
   show Act.put _ (some 14) _ = _
   simp only [Act.put, List.setIfInBounds_toArray, List.set_cons_zero, List.set_cons_succ, i64_w, i32_w]
   rfl
  refine one_ (i := 4) (N := none) #[true, true, true, true, true, false] rfl rfl (by kernel_rfl) (by decide) (fun K hK => ?_)
  have hs15 : w14.cell? ⟨q0, 0, none⟩ = some (.int .i64 0) := (blk_cell q4.out 0).trans rfl
  have hfs15 := blk_frozen q4.out 0
  have hns15_0 := q1.out
  have hms15_0 := j1.out
  have hs17 : w14.cell? ⟨q0, 1, none⟩ = some (.slice none 0 0) := (blk_cell q4.out 1).trans rfl
  have hfs17 := blk_frozen q4.out 1
  have hns17_0 := q1.out
  have hms17_0 := j1.out
  have hs18 : w14.cell? ⟨q0, 2, none⟩ = some (.bool false) := (blk_cell q4.out 2).trans rfl
  have hfs18 := blk_frozen q4.out 2
  have hns18_0 := q1.out
  have hms18_0 := j1.out
  have hs20 : w14.cell? ⟨q0, 3, none⟩ = some (.slice none 0 0) := (blk_cell q4.out 3).trans rfl
  have hfs20 := blk_frozen q4.out 3
  have hns20_0 := q1.out
  have hms20_0 := j1.out
  refine skip_ (w1 := ?_) (by rfl) rfl ?_ ?_
  rotate_left
  ·
   go_simp
   rfl
  refine hK.out _ _ ⟨((cell_far (p := ⟨q0, _, none⟩) q1.out _).trans (((cell_far (p := ⟨q0, _, none⟩) q1.out _).trans (((cell_far (p := ⟨q0, _, none⟩) q1.out _).trans (((cell_far (p := ⟨q0, _, none⟩) q1.out _).trans (hHeld.1)))))))), ((cell_far (p := ⟨q0, _, none⟩) q1.out _).trans (((cell_far (p := ⟨q0, _, none⟩) q1.out _).trans (((cell_far (p := ⟨q0, _, none⟩) q1.out _).trans (((cell_far (p := ⟨q0, _, none⟩) q1.out _).trans (hHeld.2.1)))))))), ((cell_far (p := ⟨q0, _, none⟩) q1.out _).trans (((cell_far (p := ⟨q0, _, none⟩) q1.out _).trans (((cell_far (p := ⟨q0, _, none⟩) q1.out _).trans (((cell_far (p := ⟨q0, _, none⟩) q1.out _).trans (hHeld.2.2.1)))))))), ((cell_far (p := ⟨q0, _, none⟩) q1.out _).trans (((cell_far (p := ⟨q0, _, none⟩) q1.out _).trans (((cell_far (p := ⟨q0, _, none⟩) q1.out _).trans (((cell_far (p := ⟨q0, _, none⟩) q1.out _).trans (hHeld.2.2.2))))))))⟩ (fun hHeld => ?_)
  clear hK K
  refine pure_ (i := 5) (N := some 3) (v := ?_) (a' := ?_) #[true, true, true, true, true, true] rfl rfl (by kernel_rfl) (fun _ _ _ h => h) (Or.inl ⟨by rfl, ?_⟩) ?_ ?_
  rotate_left
  ·
   intro w'
   go_simp
   with_reducible rfl
  rotate_left
  ·
   simp only [Act.put, List.setIfInBounds_toArray, List.set_cons_zero, List.set_cons_succ, i64_w, i32_w]
   rfl
  refine done_ (by kernel_rfl) ?_
  try go_wp2
  refine bodyPost_ret (results_ct rfl _ _ q0 26 #[.int .i64 j8, .slice z6 z0.length z7, .bool z2, .slice z8 z5.length z9] (0, 0) _ rfl (by apply blk_u; refine blk_put (cs := #[.int .i64 j8, .slice z6 z0.length z7, .bool z2, .slice none 0 0]) ?_ 3 _ rfl; apply blk_u; refine blk_put (cs := #[.int .i64 j8, .slice z6 z0.length z7, .bool false, .slice none 0 0]) ?_ 2 _ rfl; apply blk_u; refine blk_put (cs := #[.int .i64 j8, .slice none 0 0, .bool false, .slice none 0 0]) ?_ 1 _ rfl; apply blk_u; refine blk_put (cs := #[.int .i64 0, .slice none 0 0, .bool false, .slice none 0 0]) ?_ 0 _ rfl; apply blk_u; exact q4.out) Try.underlying26 rfl (by kernel_rfl)) rfl ?_
  exact ⟨_, _, by first | rfl | (simp [errW_none, errW_some] <;> rfl) | (simp [*, errW_none, errW_some] <;> rfl), by apply N_u; exact Nm (Kd.N_far (p := ⟨q0, 3, none⟩) (Kd.N_far (p := ⟨q0, 2, none⟩) (Kd.N_far (p := ⟨q0, 1, none⟩) (Kd.N_far (p := ⟨q0, 0, none⟩) (Kd.N_mono y2.out (fun k_ hk => (⟨hk, hk.2.2.2⟩ : _ ∧ k_ ≠ q0))) (fun _ hk => hk.2) (.int .i64 j8)) (fun _ hk => hk.2) (.slice z6 z0.length z7)) (fun _ hk => hk.2) (.bool z2)) (fun _ hk => hk.2) (.slice z8 z5.length z9)), by apply R_u; exact Kd.R_mono (Kd.R_far (p := ⟨q0, 3, none⟩) (Kd.R_far (p := ⟨q0, 2, none⟩) (Kd.R_far (p := ⟨q0, 1, none⟩) (Kd.R_far (p := ⟨q0, 0, none⟩) (Kd.R_types y3.out q4.out (by decide)) (fun _ hk => hk.2) (.int .i64 j8)) (fun _ hk => hk.2) (.slice z6 z0.length z7)) (fun _ hk => hk.2) (.bool z2)) (fun _ hk => hk.2) (.slice z8 z5.length z9)) (fun _ hk => hk.1.1), bl HB⟩
 ·
  rw [if_neg c3] at H
  have y8 : (j2 == 0) = false := beq_eq_false_iff_ne.mpr c3
  have y9 : (j2 != 0) = true := bne_iff_ne.mpr c3
  simp only [Option.some.injEq, Prod.mk.injEq] at H
  obtain ⟨rfl, rfl, rfl, rfl, rfl⟩ := H
  go_enter Try.func14, Try.ntmps14
  go_wp2_with (first | ((with_reducible refine gate_dst (N := 1) rfl ?_); refine bx 1 #[.int .i64 q8, .slice j6 q6.length j7, .bool q9, .slice j4 q5.length j5] 26 ?_; intro j0 hg w21 hbox hb; have q2 := Qaa.mk (hbox); have y4 := Qaa.mk ((by rw [hg]; exact (below_size (bl HB)) : w.heap.size ≤ j0)); have y5 := Qaa.mk ((by rw [hg]; exact (below_size (bl HB)) : w.heap.size ≤ j0)); replace q3 := Qaa.mk (Kd.V_below (Kd.V_elderB (V_u q3.out) j0 (Nat.le_of_eq hg.symm)) hb); replace HB := bs HB hb; clear hb hbox hg) | ((with_reducible refine gate_dst (N := 2) rfl ?_); refine bx 2 #[.int .i64 0, .slice none 0 0, .bool false, .slice none 0 0] 26 ?_; intro q0 hg w22 hbox hb; have q4 := Qaa.mk (hbox); have y6 := Qaa.mk ((by rw [hg]; exact (below_size (bl HB)) : w.heap.size ≤ q0)); have y7 := Qaa.mk ((by rw [hg]; exact (below_size (bl HB)) : w.heap.size ≤ q0)); have q1 := Qaa.mk ((by rw [hg]; exact Nat.ne_of_lt (blk_lt (Ub q2)) : j0 ≠ q0)); have j1 := Qaa.mk ((by rw [hg]; exact Nat.ne_of_gt (blk_lt (Ub q2)) : q0 ≠ j0)); replace q3 := Qaa.mk (Kd.V_below (Kd.V_elderB (V_u q3.out) q0 (Nat.le_of_eq hg.symm)) hb); replace q2 := Bb q2 hb; replace HB := bs HB hb; clear hb hbox hg; have Qr := q1.out; have Qs := j1.out; obtain ⟨Q3, Q4, Q5, Q6, Q7, Q8, Q9, Qa⟩ := cf4 q2) | ((with_reducible refine gate_callee (f := 34) rfl ?_); refine gL (some 6) Try.func34 #[.agg #[.int .i64 q8, .slice j6 q6.length j7, .bool q9, .slice j4 q5.length j5]] ?_; (with_reducible refine (Qac.calls k q8 _ _ q6 q9 _ _ q5 j2 _ ?side1 ?side2 ?side3 ?side4 A2.out).mono ?_); (case side1 => exact Cb z3 HB); (case side2 => exact z4.out); (case side3 => exact Cu (Kd.V_reads' q3.out).2.2); (case side4 => exact (Kd.V_reads' q3.out).2.1); rintro e w25 ⟨rfl, hb⟩; refine ⟨_, rfl, ?_⟩; replace q3 := Qaa.mk (Kd.V_below (V_u q3.out) hb); replace q2 := Bb q2 hb; replace q4 := Bb q4 hb; replace HB := bs HB hb; (try clear hb); obtain ⟨Qb, Qc, Qd, Qe, Qf, Qg, Qh, Qi⟩ := cf4 q4))
  refine bodyPost_ret (results_ct rfl _ _ q0 26 #[.int .i64 0, .slice none 0 0, .bool false, .slice none 0 0] (0, 0) _ rfl (by apply blk_u; refine blk_put (cs := #[.int .i64 0, .slice none 0 0, .bool false, .slice none 0 0]) ?_ 3 _ rfl; apply blk_u; refine blk_put (cs := #[.int .i64 0, .slice none 0 0, .bool false, .slice none 0 0]) ?_ 2 _ rfl; apply blk_u; refine blk_put (cs := #[.int .i64 0, .slice none 0 0, .bool false, .slice none 0 0]) ?_ 1 _ rfl; apply blk_u; refine blk_put (cs := #[.int .i64 0, .slice none 0 0, .bool false, .slice none 0 0]) ?_ 0 _ rfl; apply blk_u; exact q4.out) Try.underlying26 rfl (by kernel_rfl)) rfl ?_
  exact ⟨_, _, by first | rfl | (simp [errW_none, errW_some] <;> rfl) | (simp [*, errW_none, errW_some] <;> rfl), by first | exact Kd.S_nil _ _ _ _ _ | exact Kd.N_nil _ _ _ _ _ | exact Kd.V_nil _ _ _ _ _ | exact Kd.Q_nil _ _ _ _ _ | exact Kd.R_nil _ _ _ _ _, by first | exact Kd.R_nil _ _ _ _ _ | exact Kd.N_nil _ _ _ _ _ | exact Kd.V_nil _ _ _ _ _ | exact Kd.Q_nil _ _ _ _ _ | exact Kd.S_nil _ _ _ _ _, bl HB⟩
end Go.Proofs.Ytphnmaobpefoiaa.XA
end
section
namespace Go.Proofs.Ytphnmaobpefoiaa.XA
open Go.RowKit Go.Sort Go.Proofs.YtphnmaobpefoiaaXW Go.Proofs.YtphnmaobpefoiaaW.PrintWords Go.Proofs.YtphnmaobpefoiaaW.PrintLast Go.Proofs.YtphnmaobpefoiaaW.PrintMore
abbrev VV (v : S39) (n : Nat) : Prop := Valid v.f0 v.f1 v.f2 v.f3 v.f4 v.f5 n
abbrev vAt (v : S39) (i : Nat) : S41 := valAt v.f0 v.f1 v.f2 v.f3 v.f4 v.f5 i
abbrev hasV (v : S39) : Bool := hasD v.f4 v.f5
theorem rd39 (l : List S39) (i : Nat) (h : i < l.length) : rd_T39 l (i : Int) = l[i] := by
  simp [rd_T39, List.getD_eq_getElem?_getD, h]
structure BatchOk (r : Nat) (cols : List S39) (wh : Bool) (pk : List Int) : Prop where
  le : r ≤ 1000
  few : cols.length ≤ 20
  some_ : cols ≠ []
  each : ∀ v ∈ cols, VV v r
  whole : wh = true → pk = []
  inr : ∀ (i : Nat) (h : i < pk.length), 0 ≤ pk[i] ∧ pk[i] < r
  asc : ∀ (i : Nat) (h : i + 1 < pk.length), pk[i] < pk[i + 1]
theorem BatchOk.ge {r : Nat} {cols : List S39} {wh : Bool} {pk : List Int} (h : BatchOk r cols wh pk) (i : Nat) (hi : i < pk.length) : (i : Int) ≤ pk[i] := by
  induction i with
  | zero => exact (h.inr 0 hi).1
  | succ i ih => have := ih (by omega); have := h.asc i hi; omega
theorem BatchOk.pk_len {r : Nat} {cols : List S39} {wh : Bool} {pk : List Int} (h : BatchOk r cols wh pk) : pk.length ≤ r := by
  apply Classical.byContradiction
  intro hc
  have h1 := h.ge (pk.length - 1) (by omega)
  have h2 := h.inr (pk.length - 1) (by omega)
  omega
theorem pkLoop (r : Nat) (hr : r ≤ 1000) (cols : List S39) (wh : Bool) (pk : List Int) (d : Nat) : ∀ (k i : Nat), i + d = 1001 → d < k → i ≤ pk.length →
    (∀ (j : Nat) (h : j < pk.length), j < i → 0 ≤ pk[j] ∧ pk[j] < r) → (∀ (j : Nat) (h : j + 1 < pk.length), j + 1 < i → pk[j] < pk[j + 1]) → (∀ (j : Nat) (h : j < pk.length), j < i → (j : Int) ≤ pk[j]) →
    ∃ c, Qac.l1 k pk (pk.length : Int) (i : Int) r cols wh pk = some c ∧
      (c = 0 ↔ (∀ (j : Nat) (h : j < pk.length), 0 ≤ pk[j] ∧ pk[j] < r) ∧ ∀ (j : Nat) (h : j + 1 < pk.length), pk[j] < pk[j + 1]) := by
  induction d with
  | zero =>
    intro k i hi hk hl h1 h2 h3
    have := h3 1000 (by omega) (by omega)
    have := h1 1000 (by omega) (by omega)
    omega
  | succ d ih =>
    intro k i hi hk hl h1 h2 h3
    obtain ⟨k, rfl⟩ : ∃ m, k = m + 1 := ⟨k - 1, by omega⟩
    simp only [Qac.l1]
    by_cases hlt : i < pk.length
    · rw [if_pos (by omega), if_pos (by omega), if_pos (by omega), w_in _ (by omega) (by omega), in_f, rd_nat _ _ hlt]
      simp only [Option.bind_some]
      by_cases hin : 0 ≤ pk[i] ∧ pk[i] < r
      · rw [if_pos (by simp; omega)]
        have hw1 : wrap64 ((i : Int) + 1) = ((i + 1 : Nat) : Int) := by rw [w_in _ (by omega) (by omega)]; simp
        by_cases hi0 : i = 0
        · subst hi0
          rw [if_neg (by omega), hw1]
          exact ih k 1 (by omega) (by omega) (by omega) (fun j hj hj1 => by obtain rfl : j = 0 := by omega
                                                                            exact hin) (fun j hj hj1 => by omega) (fun j hj hj1 => by obtain rfl : j = 0 := by omega
                                                                                                                                      exact hin.1)
        · obtain ⟨m, rfl⟩ : ∃ m, i = m + 1 := ⟨i - 1, by omega⟩
          have hw2 : wrap64 (((m + 1 : Nat) : Int) - 1) = (m : Int) := by rw [w_in _ (by omega) (by omega)]; omega
          rw [if_pos (by omega), hw2, if_pos (by omega), if_pos (by omega), rd_nat _ _ (by omega)]
          by_cases hle : pk[m + 1] ≤ pk[m]
          · rw [if_pos hle]
            refine ⟨8, rfl, by simp, fun h => ?_⟩
            have := h.2 m hlt
            omega
          · rw [if_neg hle, hw1]
            refine ih k (m + 2) (by omega) (by omega) (by omega) (fun j hj hj1 => ?_) (fun j hj hj1 => ?_) (fun j hj hj1 => ?_)
            · by_cases hjm : j = m + 1
              · subst hjm; exact hin
              · exact h1 j hj (by omega)
            · by_cases hjm : j = m
              · subst hjm; omega
              · exact h2 j hj (by omega)
            · by_cases hjm : j = m + 1
              · subst hjm
                have := h3 m (by omega) (by omega)
                omega
              · exact h3 j hj (by omega)
      · rw [if_neg (by simp; omega)]
        exact ⟨1, rfl, by simp, fun h => absurd (h.1 i hlt) hin⟩
    · rw [if_neg (by omega)]
      exact ⟨0, rfl, fun _ => ⟨fun j hj => h1 j hj (by omega), fun j hj => h2 j hj (by omega)⟩, fun _ => rfl⟩
theorem colsLoop (r : Nat) (hr : r ≤ 1000) (cols : List S39) (hc : cols.length ≤ 20) (wh : Bool) (pk : List Int) (d : Nat) : ∀ (k i : Nat), i + d = cols.length → d + 7000 < k →
    ∃ c, Qac.l0 k cols (cols.length : Int) (i : Int) r cols wh pk = some c ∧
      (c = 0 ↔ (∀ (j : Nat) (h : j < cols.length), i ≤ j → VV cols[j] r) ∧ (wh = true → pk = []) ∧ (∀ (j : Nat) (h : j < pk.length), 0 ≤ pk[j] ∧ pk[j] < r) ∧ ∀ (j : Nat) (h : j + 1 < pk.length), pk[j] < pk[j + 1]) := by
  induction d with
  | zero =>
    intro k i hi hk
    obtain ⟨k, rfl⟩ : ∃ m, k = m + 2 := ⟨k - 2, by omega⟩
    simp only [Qac.l0]
    rw [if_neg (by omega)]
    have e : (if wh = true then Qac.j1 (k + 1) (decide ((pk.length : Int) > 0)) r cols wh pk else Qac.j1 (k + 1) false r cols wh pk) = Qac.j1 (k + 1) (wh && decide ((pk.length : Int) > 0)) r cols wh pk := by
      cases wh <;> simp
    rw [e]
    simp only [Qac.j1]
    by_cases hb : (wh && decide ((pk.length : Int) > 0)) = true
    · rw [if_pos hb]
      refine ⟨3, rfl, by simp, fun h => ?_⟩
      simp only [Bool.and_eq_true, decide_eq_true_eq] at hb
      have := h.2.1 hb.1
      rw [this] at hb
      simp at hb
    · rw [if_neg hb]
      obtain ⟨c, h1, h2⟩ := pkLoop r hr cols wh pk 1001 k 0 (by omega) (by omega) (by omega) (fun j _ h => by omega) (fun j _ h => by omega) (fun j _ h => by omega)
      refine ⟨c, by exact_mod_cast h1, h2.trans ⟨fun h => ⟨fun j hj hij => by omega, fun hw => ?_, h⟩, fun h => h.2.2⟩⟩
      subst hw
      simp only [Bool.true_and, decide_eq_true_eq] at hb
      exact List.eq_nil_of_length_eq_zero (by omega)
  | succ d ih =>
    intro k i hi hk
    obtain ⟨k, rfl⟩ : ∃ m, k = m + 1 := ⟨k - 1, by omega⟩
    have hlt : i < cols.length := by omega
    have hw1 : wrap64 ((i : Int) + 1) = ((i + 1 : Nat) : Int) := by rw [w_in _ (by omega) (by omega)]; simp
    simp only [Qac.l0]
    rw [if_pos (by omega), if_pos (by omega), if_pos (by omega), rd39 _ _ hlt]
    obtain ⟨c, h1, h2⟩ := check_ev cols[i].f0 cols[i].f1 cols[i].f2 cols[i].f3 cols[i].f4 cols[i].f5 r k (by omega)
    rw [h1]
    simp only [Option.bind_some]
    by_cases h0 : c = 0
    · rw [if_pos h0, hw1]
      obtain ⟨c2, h3, h4⟩ := ih k (i + 1) (by omega) (by omega)
      refine ⟨c2, h3, h4.trans ⟨fun h => ⟨fun j hj hij => ?_, h.2⟩, fun h => ⟨fun j hj hij => h.1 j hj (by omega), h.2⟩⟩⟩
      by_cases hji : j = i
      · subst hji
        simpa using (h2.1 h0).2
      · exact h.1 j hj (by omega)
    · rw [if_neg h0]
      exact ⟨c, rfl, fun h => absurd h h0, fun h => absurd (h2.2 ⟨by omega, by simpa using h.1 i hlt (Nat.le_refl _)⟩) h0⟩
theorem batch_ev (r : Int) (cols : List S39) (wh : Bool) (pk : List Int) (k : Nat) (hk : 8000 ≤ k) :
    ∃ c, Qac.f k r cols wh pk = some c ∧ (c = 0 ↔ 0 ≤ r ∧ BatchOk r.toNat cols wh pk) := by
  unfold Qac.f
  rw [in_f]
  simp only [Option.bind_some]
  by_cases h1 : 0 ≤ r ∧ r ≤ 1000
  rotate_left
  · rw [if_neg (by simpa using h1)]
    refine ⟨1, rfl, by simp, fun h => absurd ⟨h.1, ?_⟩ h1⟩
    have := h.2.le; omega
  rw [if_pos (by simpa using h1)]
  obtain ⟨r, rfl⟩ : ∃ m : Nat, r = m := ⟨r.toNat, by omega⟩
  simp only [Int.toNat_natCast]
  by_cases h2 : cols.length ≤ 20
  rotate_left
  · rw [if_pos (by omega)]
    exact ⟨2, rfl, by simp, fun h => absurd h.2.few h2⟩
  rw [if_neg (by omega)]
  by_cases h3 : cols = []
  · subst h3
    rw [if_pos (by simp)]
    exact ⟨6, rfl, by simp, fun h => absurd rfl h.2.some_⟩
  rw [if_neg (by have := List.length_pos_iff.2 h3; omega)]
  obtain ⟨c, h4, h5⟩ := colsLoop r (by omega) cols h2 wh pk cols.length k 0 (by omega) (by omega)
  refine ⟨c, by exact_mod_cast h4, h5.trans ⟨fun h => ⟨by omega, ⟨by omega, h2, h3, fun v hv => ?_, h.2.1, h.2.2.1, h.2.2.2⟩⟩, fun h => ⟨fun j hj _ => h.2.each _ (List.getElem_mem hj), h.2.whole, h.2.inr, h.2.asc⟩⟩⟩
  obtain ⟨j, hj, rfl⟩ := List.getElem_of_mem hv
  exact h.1 j hj (Nat.zero_le _)
theorem batch_ok {r : Nat} {cols : List S39} {wh : Bool} {pk : List Int} (h : BatchOk r cols wh pk) (k : Nat) (hk : 8000 ≤ k) : Qac.f k (r : Int) cols wh pk = some 0 := by
  obtain ⟨c, h1, h2⟩ := batch_ev r cols wh pk k hk
  rw [h1, h2.2 ⟨by omega, by simpa using h⟩]
def pick (r : Nat) (wh : Bool) (pk : List Int) : List Int := if wh = true then (List.range r).map (fun i : Nat => (i : Int)) else pk
theorem pickLoop (r : Nat) (hr : r ≤ 1000) (d : Nat) : ∀ (k i : Nat), i + d = r → d < k →
    Qao.l0 k ((List.range i).map (fun i : Nat => (i : Int))) (r : Int) (i : Int) = some ((List.range r).map (fun i : Nat => (i : Int))) := by
  induction d with
  | zero =>
    intro k i hi hk
    obtain ⟨k, rfl⟩ : ∃ m, k = m + 1 := ⟨k - 1, by omega⟩
    simp only [Qao.l0]
    rw [if_neg (by omega), show i = r by omega]
  | succ d ih =>
    intro k i hi hk
    obtain ⟨k, rfl⟩ : ∃ m, k = m + 1 := ⟨k - 1, by omega⟩
    have hw1 : wrap64 ((i : Int) + 1) = ((i + 1 : Nat) : Int) := by rw [w_in _ (by omega) (by omega)]; simp
    have := ih k (i + 1) (by omega) (by omega)
    rw [List.range_succ, List.map_append] at this
    simp only [Qao.l0]
    rw [if_pos (by omega), if_pos (by simp; omega), hw1]
    exact this
theorem picked_f {r : Nat} (hr : r ≤ 1000) (cols : List S39) (wh : Bool) (pk : List Int) (k : Nat) (hk : 2000 ≤ k) : Qao.f k (r : Int) cols wh pk = some (pick r wh pk) := by
  unfold Qao.f pick
  cases wh with
  | true => simpa using pickLoop r hr r k 0 (by omega) (by omega)
  | false => simp
theorem pick_in {r : Nat} {cols : List S39} {wh : Bool} {pk : List Int} (h : BatchOk r cols wh pk) : (pick r wh pk).length ≤ 1000 ∧ ∀ x ∈ pick r wh pk, 0 ≤ x ∧ x < r := by
  have hle := h.le
  unfold pick
  cases hw : wh with
  | true =>
    simp only [if_true, List.length_map, List.length_range]
    refine ⟨by omega, fun x hx => ?_⟩
    obtain ⟨i, hi, rfl⟩ := List.mem_map.1 hx
    have := List.mem_range.1 hi
    omega
  | false =>
    simp only [Bool.false_eq_true, if_false]
    have := h.pk_len
    refine ⟨by omega, fun x hx => ?_⟩
    obtain ⟨i, hi, rfl⟩ := List.getElem_of_mem hx
    exact h.inr i hi
def selV (c : Bool) (a : Int) (l : List S41) : S39 := if c = true then ⟨3, onlyNulls (nullsOf l), [], [], dictL l, codesL l⟩ else ⟨a, onlyNulls (nullsOf l), numsOf a l, textsOf a l, [], []⟩
theorem selV_ok {c : Bool} {a : Int} {l : List S41} (ha : 1 ≤ a ∧ a ≤ 3) (hc : c = true → a = 3) (hl : l.length ≤ 1000) (h : ∀ v ∈ l, ColVal a v) :
    VV (selV c a l) l.length ∧ (selV c a l).f0 = a ∧ ∀ (i : Nat) (hi : i < l.length), vAt (selV c a l) i = l[i] := by
  unfold selV
  cases hb : c with
  | true =>
    have h3 := hc hb
    subst h3
    obtain ⟨h1, h2⟩ := coded_valid hl h
    exact ⟨h1, rfl, h2⟩
  | false => exact ⟨of_valid ha hl h, rfl, of_vals ha h⟩
theorem VV.has {v : S39} {n : Nat} (h : VV v n) (hc : hasV v = true) : v.f0 = 3 := by
  apply Classical.byContradiction
  intro h3
  obtain ⟨_, h2, h4, _⟩ := h.form.2.1 h3
  simp [hasV, hasD, h2, h4] at hc
theorem of_sel {c : Bool} {a : Int} {l : List S41} (hc : c = true → a = 3) (hl : l.length ≤ 1000) (k : Nat) (hk : 5000 ≤ k) :
    Qax.f k a l = some (a, onlyNulls (nullsOf l), numsOf a l, textsOf a l, [], []) ∧
    (c = true → Qai.f k a (onlyNulls (nullsOf l)) (numsOf a l) (textsOf a l) [] [] = some ((selV c a l).f0, (selV c a l).f1, (selV c a l).f2, (selV c a l).f3, (selV c a l).f4, (selV c a l).f5)) := by
  refine ⟨of_f a l (by omega) k (by omega), fun h => ?_⟩
  have h3 := hc h
  subst h3
  have htl : (textsOf 3 l).length = l.length := by simp [textsOf]
  rw [withDict_f (by omega) (by rcases onlyNulls_form l with h1 | h1; exact .inl h1; exact .inr (by omega)) k (by omega), htl]
  simp only [selV, h, if_true, dictL, codesL]
def takeV (v : S39) (ks : List Int) : List S41 := ks.map fun i => vAt v i.toNat
theorem takeV_col {v : S39} {r : Nat} (h : VV v r) {ks : List Int} (hk : ∀ x ∈ ks, 0 ≤ x ∧ x < r) : ∀ y ∈ takeV v ks, ColVal v.f0 y := by
  intro y hy
  obtain ⟨i, hi, rfl⟩ := List.mem_map.1 hy
  have := hk i hi
  exact h.colVal i.toNat (by omega)
theorem at_take {v : S39} {r : Nat} (h : VV v r) (i : Int) (h0 : 0 ≤ i) (hi : i < r) : Qat.f v.f0 v.f1 v.f2 v.f3 v.f4 v.f5 i = some ((vAt v i.toNat).f0, (vAt v i.toNat).f1, (vAt v i.toNat).f2) := by
  have := at_f h i.toNat (by omega)
  rwa [Int.toNat_of_nonneg h0] at this
section
variable {r : Nat} {cols : List S39} {ks : List Int}
theorem someIn (hr : r ≤ 1000) (hks : ks.length ≤ 1000) (hin : ∀ x ∈ ks, 0 ≤ x ∧ x < r) (v : S39) (hv : VV v r) (x1 : List Int) (x17 x18 n : Int) (acc : List S39) (hacc : acc.length ≤ 1000) (w : Bool) (kk : Nat) (hkk : 5000 ≤ kk) (d : Nat) : ∀ i, i + d = ks.length →
    Qam.l1 (kk + d + 1) x1 (takeV v (ks.take i)) cols x17 x18 ks (ks.length : Int) (i : Int) n acc w v.f0 v.f1 v.f2 v.f3 v.f4 v.f5 =
      Qam.l0 kk x1 cols x17 (wrap64 (x18 + 1)) n (acc ++ [selV (hasV v) v.f0 (takeV v ks)]) w := by
  induction d with
  | zero =>
    intro i hi
    simp only [Qam.l1]
    have htl : (takeV v ks).length ≤ 1000 := by simp [takeV]; omega
    obtain ⟨h1, h2⟩ := of_sel (c := hasV v) hv.has htl kk hkk
    rw [if_neg (by omega), List.take_of_length_le (by omega), h1, hasD_f]
    simp only [Option.bind_some]
    cases hc : hasV v with
    | true =>
      have h3 : hasD v.f4 v.f5 = true := hc
      rw [h3, if_pos rfl, h2 hc]
      simp only [Option.bind_some]
      rw [if_pos (by omega), hc]
    | false =>
      have h3 : hasD v.f4 v.f5 = false := hc
      rw [h3, if_neg (by simp), if_pos (by omega)]
      simp only [selV, Bool.false_eq_true, if_false]
  | succ d ih =>
    intro i hi
    have hlt : i < ks.length := by omega
    have hw1 : wrap64 ((i : Int) + 1) = ((i + 1 : Nat) : Int) := by rw [w_in _ (by omega) (by omega)]; simp
    have hx := hin ks[i] (List.getElem_mem hlt)
    have := ih (i + 1) (by omega)
    have e : takeV v (ks.take (i + 1)) = takeV v (ks.take i) ++ [(⟨(vAt v ks[i].toNat).f0, (vAt v ks[i].toNat).f1, (vAt v ks[i].toNat).f2⟩ : S41)] := by
      rw [List.take_succ_eq_append_getElem hlt]
      unfold takeV
      rw [List.map_append, List.map_cons, List.map_nil]
    rw [e] at this
    rw [show kk + (d + 1) + 1 = (kk + d + 1) + 1 by omega]
    simp only [Qam.l1]
    rw [if_pos (by omega), if_pos (by omega), if_pos (by omega), rd_nat _ _ hlt, at_take hv _ hx.1 hx.2]
    simp only [Option.bind_some]
    rw [if_pos (by simp [takeV]; omega), hw1]
    exact this
theorem someLoop (hr : r ≤ 1000) (hks : ks.length ≤ 1000) (hin : ∀ x ∈ ks, 0 ≤ x ∧ x < r) (hc : cols.length ≤ 20) (hv : ∀ v ∈ cols, VV v r) (x1 : List Int) (hx1 : x1 = ks) (n : Int) (w : Bool) (kk : Nat) (hkk : 5000 ≤ kk) (d : Nat) : ∀ i, i + d = cols.length →
    Qam.l0 (kk + d * (ks.length + 2) + 1) x1 cols (cols.length : Int) (i : Int) n ((cols.take i).map fun v => selV (hasV v) v.f0 (takeV v ks)) w =
      some (n, cols.map fun v => selV (hasV v) v.f0 (takeV v ks), w, []) := by
  subst hx1
  induction d with
  | zero =>
    intro i hi
    simp only [Qam.l0]
    rw [if_neg (by omega), List.take_of_length_le (by omega)]
  | succ d ih =>
    intro i hi
    have hlt : i < cols.length := by omega
    have hw1 : wrap64 ((i : Int) + 1) = ((i + 1 : Nat) : Int) := by rw [w_in _ (by omega) (by omega)]; simp
    have := ih (i + 1) (by omega)
    rw [List.take_succ_eq_append_getElem hlt, List.map_append] at this
    rw [show kk + (d + 1) * (x1.length + 2) + 1 = ((kk + d * (x1.length + 2) + 1) + x1.length + 1) + 1 by rw [Nat.succ_mul]; omega]
    simp only [Qam.l0]
    rw [if_pos (by omega), if_pos (by omega), if_pos (by omega), rd39 _ _ hlt]
    have h1 := someIn (cols := cols) hr hks hin cols[i] (hv _ (List.getElem_mem hlt)) x1 (cols.length : Int) (i : Int) n ((cols.take i).map fun v => selV (hasV v) v.f0 (takeV v x1)) (by simp; omega) w (kk + d * (x1.length + 2) + 1) (by omega) x1.length 0 (by omega)
    simp only [List.take_zero] at h1
    rw [show takeV cols[i] [] = [] from rfl] at h1
    rw [show ((0 : Nat) : Int) = 0 from rfl] at h1
    rw [h1, hw1]
    exact this
end
def selB (cols : List S39) (ks : List Int) : List S39 := cols.map fun v => selV (hasV v) v.f0 (takeV v ks)
theorem some_f {r : Nat} {cols : List S39} {wh : Bool} {pk ks : List Int} (h : BatchOk r cols wh pk) (hks : ks.length ≤ 1000) (hin : ∀ x ∈ ks, 0 ≤ x ∧ x < r) (k : Nat) (hk : 30000 ≤ k) :
    Qam.f k (r : Int) cols wh pk ks = some ((ks.length : Int), selB cols ks, true, []) := by
  have hc := h.few
  have hb : cols.length * (ks.length + 2) ≤ 20 * 1002 := Nat.mul_le_mul hc (by omega)
  have := someLoop (cols := cols) h.le hks hin hc h.each ks rfl (ks.length : Int) true (k - cols.length * (ks.length + 2) - 1) (by omega) cols.length 0 (by omega)
  rw [show k - cols.length * (ks.length + 2) - 1 + cols.length * (ks.length + 2) + 1 = k by omega] at this
  unfold Qam.f
  simpa [selB] using this
theorem selB_ok {r : Nat} {cols : List S39} {wh : Bool} {pk ks : List Int} (h : BatchOk r cols wh pk) (hks : ks.length ≤ 1000) (hin : ∀ x ∈ ks, 0 ≤ x ∧ x < r) : BatchOk ks.length (selB cols ks) true [] where
  le := hks
  few := by simp [selB]; exact h.few
  some_ := by simp [selB]; exact h.some_
  each := by
    intro v hv
    obtain ⟨u, hu, rfl⟩ := List.mem_map.1 hv
    have hu2 := h.each u hu
    have := (selV_ok (c := hasV u) hu2.kind hu2.has (l := takeV u ks) (by simp [takeV]; omega) (takeV_col hu2 hin)).1
    simpa [takeV] using this
  whole := fun _ => rfl
  inr := by intro i hi; simp at hi
  asc := by intro i hi; simp at hi
end Go.Proofs.Ytphnmaobpefoiaa.XA
end
section
namespace Go.Proofs.Ytphnmaobpefoiaa.XA
open Go.RowKit Go.Proofs.YtphnmaobpefoiaaXW Go.Proofs.YtphnmaobpefoiaaW.PrintWords Go.Proofs.YtphnmaobpefoiaaW.PrintLast Go.Proofs.YtphnmaobpefoiaaW.PrintMore
attribute [local go_sem] max2_int min2_int max_two min_two max_three min_three max_four min_four sleq
set_option linter.unusedVariables false
set_option linter.unusedSimpArgs false
mutual
def Qad.l0 : Nat → List (S39) → Int → Int → Int → List (S39) → Bool → List Int → Int → List (S39) → Bool → List Int → Option (Int × (List (S39)) × Bool × List Int × Int)
 | 0, _, _, _, _, _, _, _, _, _, _, _ => none
 | k + 1, x43, x44, x45, z3, z0, z4, z5, q1, q0, q2, q3 => if x45 < x44 then (if 0 ≤ x45 then (if x45 < (x43.length : Int) then (if x45 < (q0.length : Int) then (if ((rd_T39 x43 x45).f0) = ((rd_T39 q0 x45).f0) then (Qad.l0 k x43 x44 (wrap64 (x45 + 1)) z3 z0 z4 z5 q1 q0 q2 q3) else (some (0, ([] : List (S39)), false, ([] : List Int), 10))) else (none)) else (none)) else (none)) else ((Qao.f k z3 z0 z4 z5).bind fun z8 => ((Qao.f k q1 q0 q2 q3).bind fun z9 => (if (wrap64 ((z8.length : Int) + (z9.length : Int))) > 1000 then (some (0, ([] : List (S39)), false, ([] : List Int), 2)) else (Qad.l1 k z8 z9 z0 (z0.length : Int) 0 q1 q0 q2 q3 (wrap64 ((z8.length : Int) + (z9.length : Int))) ([] : List (S39)) true))))
def Qad.l1 : Nat → List Int → List Int → List (S39) → Int → Int → Int → List (S39) → Bool → List Int → Int → List (S39) → Bool → Option (Int × (List (S39)) × Bool × List Int × Int)
 | 0, _, _, _, _, _, _, _, _, _, _, _, _ => none
 | k + 1, x10, x11, x79, x80, x81, q1, q0, q2, q3, q6, q4, q7 => if x81 < x80 then (if 0 ≤ x81 then (if x81 < (x79.length : Int) then (if x81 < (q0.length : Int) then (Qad.l2 k x10 x11 ([] : List (S41)) x79 x80 x81 x10 (x10.length : Int) 0 q1 q0 q2 q3 q6 q4 q7 ((rd_T39 x79 x81).f0) ((rd_T39 x79 x81).f1) ((rd_T39 x79 x81).f2) ((rd_T39 x79 x81).f3) ((rd_T39 x79 x81).f4) ((rd_T39 x79 x81).f5) ((rd_T39 q0 x81).f0) ((rd_T39 q0 x81).f1) ((rd_T39 q0 x81).f2) ((rd_T39 q0 x81).f3) ((rd_T39 q0 x81).f4) ((rd_T39 q0 x81).f5)) else (none)) else (none)) else (none)) else (some (q6, q4, q7, ([] : List Int), 0))
def Qad.l2 : Nat → List Int → List Int → List (S41) → List (S39) → Int → Int → List Int → Int → Int → Int → List (S39) → Bool → List Int → Int → List (S39) → Bool → Int → List Bool → List Int → List ByteArray → List ByteArray → List Int → Int → List Bool → List Int → List ByteArray → List ByteArray → List Int → Option (Int × (List (S39)) × Bool × List Int × Int)
 | 0, _, _, _, _, _, _, _, _, _, _, _, _, _, _, _, _, _, _, _, _, _, _, _, _, _, _, _, _ => none
 | k + 1, x10, x11, x16, x79, x80, x81, x91, x92, x93, q1, q0, q2, q3, q6, q4, q7, q8, q9, j0, j1, j2, j3, j4, j5, j6, j7, j8, j9 => if x93 < x92 then (if 0 ≤ x93 then (if x93 < (x91.length : Int) then ((Qat.f q8 q9 j0 j1 j2 j3 (rd x91 x93)).bind fun z6 => (if x16.length < 4398046511104 then (Qad.l2 k x10 x11 (x16 ++ [(⟨z6.1, z6.2.1, z6.2.2⟩ : S41)]) x79 x80 x81 x91 x92 (wrap64 (x93 + 1)) q1 q0 q2 q3 q6 q4 q7 q8 q9 j0 j1 j2 j3 j4 j5 j6 j7 j8 j9) else (none))) else (none)) else (none)) else (Qad.l3 k x10 x11 x16 x79 x80 x81 x11 (x11.length : Int) 0 q1 q0 q2 q3 q6 q4 q7 q8 q9 j0 j1 j2 j3 j4 j5 j6 j7 j8 j9)
def Qad.l3 : Nat → List Int → List Int → List (S41) → List (S39) → Int → Int → List Int → Int → Int → Int → List (S39) → Bool → List Int → Int → List (S39) → Bool → Int → List Bool → List Int → List ByteArray → List ByteArray → List Int → Int → List Bool → List Int → List ByteArray → List ByteArray → List Int → Option (Int × (List (S39)) × Bool × List Int × Int)
 | 0, _, _, _, _, _, _, _, _, _, _, _, _, _, _, _, _, _, _, _, _, _, _, _, _, _, _, _, _ => none
 | k + 1, x10, x11, x16, x79, x80, x81, x104, x105, x106, q1, q0, q2, q3, q6, q4, q7, q8, q9, j0, j1, j2, j3, j4, j5, j6, j7, j8, j9 => if x106 < x105 then (if 0 ≤ x106 then (if x106 < (x104.length : Int) then ((Qat.f j4 j5 j6 j7 j8 j9 (rd x104 x106)).bind fun z7 => (if x16.length < 4398046511104 then (Qad.l3 k x10 x11 (x16 ++ [(⟨z7.1, z7.2.1, z7.2.2⟩ : S41)]) x79 x80 x81 x104 x105 (wrap64 (x106 + 1)) q1 q0 q2 q3 q6 q4 q7 q8 q9 j0 j1 j2 j3 j4 j5 j6 j7 j8 j9) else (none))) else (none)) else (none)) else ((Qax.f k q8 x16).bind fun q5 => ((Qar.f q8 q9 j0 j1 j2 j3).bind fun Q9 => (if Q9 = true then ((Qar.f j4 j5 j6 j7 j8 j9).bind fun Qa => (if Qa = true then ((Qai.f k q5.1 q5.2.1 q5.2.2.1 q5.2.2.2.1 q5.2.2.2.2.1 q5.2.2.2.2.2).bind fun z1 => (if q4.length < 1099511627776 then (Qad.l1 k x10 x11 x79 x80 (wrap64 (x81 + 1)) q1 q0 q2 q3 q6 (q4 ++ [(⟨z1.1, z1.2.1, z1.2.2.1, z1.2.2.2.1, z1.2.2.2.2.1, z1.2.2.2.2.2⟩ : S39)]) q7) else (none))) else (if q4.length < 1099511627776 then (Qad.l1 k x10 x11 x79 x80 (wrap64 (x81 + 1)) q1 q0 q2 q3 q6 (q4 ++ [(⟨q5.1, q5.2.1, q5.2.2.1, q5.2.2.2.1, q5.2.2.2.2.1, q5.2.2.2.2.2⟩ : S39)]) q7) else (none)))) else (if q4.length < 1099511627776 then (Qad.l1 k x10 x11 x79 x80 (wrap64 (x81 + 1)) q1 q0 q2 q3 q6 (q4 ++ [(⟨q5.1, q5.2.1, q5.2.2.1, q5.2.2.2.1, q5.2.2.2.2.1, q5.2.2.2.2.2⟩ : S39)]) q7) else (none)))))
end
def Qad.f (k : Nat) (Q1 : Int) (z2 : List (S39)) (Q2 : Bool) (Q3 : List Int) (Q4 : Int) (Q0 : List (S39)) (Q5 : Bool) (Q6 : List Int) : Option (Int × (List (S39)) × Bool × List Int × Int) := (Qac.f k Q1 z2 Q2 Q3).bind fun Q7 => (if Q7 = 0 then ((Qac.f k Q4 Q0 Q5 Q6).bind fun Q8 => (if Q8 = 0 then (if (z2.length : Int) = (Q0.length : Int) then (Qad.l0 k z2 (z2.length : Int) 0 Q1 z2 Q2 Q3 Q4 Q0 Q5 Q6) else (some (0, ([] : List (S39)), false, ([] : List Int), 3))) else (some (0, ([] : List (S39)), false, ([] : List Int), Q8)))) else (some (0, ([] : List (S39)), false, ([] : List Int), Q7)))
end Go.Proofs.Ytphnmaobpefoiaa.XA
end
section
namespace Go.Proofs.Ytphnmaobpefoiaa.XA
open Go.RowKit Go.Proofs.YtphnmaobpefoiaaXW Go.Proofs.YtphnmaobpefoiaaW.PrintWords Go.Proofs.YtphnmaobpefoiaaW.PrintLast Go.Proofs.YtphnmaobpefoiaaW.PrintMore
attribute [local go_sem] max2_int min2_int max_two min_two max_three min_three max_four min_four sleq
set_option linter.unusedVariables false
set_option linter.unusedSimpArgs false
mutual
def Qau.j0 : Nat → ByteArray → Bool → Option (Bool)
 | 0, _, _ => none
 | k + 1, x0, x11 => if x11 = true then (some false) else (Qau.l0 k x0 (x0.size : Int) 0)
def Qau.l0 : Nat → ByteArray → Int → Int → Option (Bool)
 | 0, _, _, _ => none
 | k + 1, x0, x13, x14 => if x14 < x13 then (if 0 ≤ x14 then (if x14 < (x0.size : Int) then (if (bt x0 x14) < 97 then (if x14 = 0 then (Qau.j2 k x0 x13 x14 true) else (if (bt x0 x14) = 95 then (Qau.j2 k x0 x13 x14 false) else (if (bt x0 x14) < 48 then (Qau.j2 k x0 x13 x14 true) else (Qau.j2 k x0 x13 x14 (decide ((bt x0 x14) > 57)))))) else (if (bt x0 x14) > 122 then (if x14 = 0 then (Qau.j2 k x0 x13 x14 true) else (if (bt x0 x14) = 95 then (Qau.j2 k x0 x13 x14 false) else (if (bt x0 x14) < 48 then (Qau.j2 k x0 x13 x14 true) else (Qau.j2 k x0 x13 x14 (decide ((bt x0 x14) > 57)))))) else (Qau.j2 k x0 x13 x14 false))) else (none)) else (none)) else (some true)
def Qau.j2 : Nat → ByteArray → Int → Int → Bool → Option (Bool)
 | 0, _, _, _, _ => none
 | k + 1, x0, x13, x14, x41 => if x41 = true then (some false) else (Qau.l0 k x0 x13 (wrap64 (x14 + 1)))
end
def Qau.f (k : Nat) (a0 : ByteArray) : Option (Bool) := if a0.toList = ([] : List UInt8) then (Qau.j0 k a0 true) else (Qau.j0 k a0 (decide ((a0.size : Int) > 32)))
set_option maxHeartbeats 8000000 in
set_option maxRecDepth 100000 in
theorem Qau.calls (k : Nat) (a0 : ByteArray) (r : Bool) (w : World) (h : Qau.f k a0 = some r) :
  Calls Try.prog 68 #[.string a0] w fun e w' => e = .returned (.bool r) ∧ Drawn0 w w' := by
 have H : (if a0.toList = ([] : List UInt8) then (Qau.j0 k a0 true) else (Qau.j0 k a0 (decide ((a0.size : Int) > 32)))) = some r := h
 clear h
 have j7 := Qaa.mk H
 clear H
 go_enter Try.func68, Try.ntmps68
 go_upto_region 1 with (fail)
 go_cut [11] (fun v11 wc => ∃ (kq : Nat) (x11_1 : Bool), v11 = .bool x11_1 ∧ Qaa (Qau.j0 kq a0 x11_1 = some r) ∧ Qaa (kq ≤ k) ∧ Drawn0 w wc)
 case first =>
  have H := j7.out
  clear j7
  by_cases c3 : a0.toList = ([] : List UInt8)
  ·
   rw [if_pos c3] at H
   have q0 : (a0.toList == ([] : List UInt8)) = true := beq_iff_eq.mpr c3
   have q2 : (a0.toList != ([] : List UInt8)) = false := bne_eq_false_iff_eq.mpr c3
   clear c3
   (first | rw [q0] | (simp only [i64_w, i32_w]; rw [q0]) | skip)
   have H' := Qaa.mk H
   clear H
   go_wp2
   go_meet
   case rel => exact ⟨_, (true), (by first | rfl | (simp; done) | (simp [*]; done)), H', ⟨by first | omega | exact Nat.le_refl _⟩, by repeat (first | exact Drawn0.refl _ | apply Drawn0.step)⟩
  ·
   rw [if_neg c3] at H
   have q0 : (a0.toList == ([] : List UInt8)) = false := beq_eq_false_iff_ne.mpr c3
   have q2 : (a0.toList != ([] : List UInt8)) = true := bne_iff_ne.mpr c3
   (first | rw [q0] | (simp only [i64_w, i32_w]; rw [q0]) | skip)
   have H' := Qaa.mk H
   clear H
   go_wp2
   go_meet
   case rel => exact ⟨_, (decide ((a0.size : Int) > 32)), (by first | rfl | (simp; done) | (simp [*]; done)), H', ⟨by first | omega | exact Nat.le_refl _⟩, by repeat (first | exact Drawn0.refl _ | apply Drawn0.step)⟩
 case rest =>
  clear j7
  try clear p2
  try clear c3
  try clear q0
  try clear q2
  obtain ⟨kq, x11_1, rfl, HA, HJ1, ⟨mc1, rfl⟩⟩ := hcut
  cases kq with
  | zero => exact absurd HA.out (by simp [Qau.j0])
  | succ kj1 =>
   have H := HA.out
   clear HA
   simp only [Qau.j0] at H
   by_cases c4 : x11_1 = true
   ·
    subst c4
    have H1 : (some false) = some r := by rw [if_pos rfl] at H; exact H
    clear H
    have H := H1
    clear H1
    obtain rfl := Option.some.inj H
    go_wp2
    go_ret
    exact ⟨by first | rfl | (simp; done) | (simp [*]; done), by repeat (first | exact Drawn0.refl _ | apply Drawn0.step)⟩
   ·
    replace c4 := Bool.eq_false_iff.mpr c4
    subst c4
    have H1 : (Qau.l0 kj1 a0 (a0.size : Int) 0) = some r := by rw [if_neg (show ¬ (false = true) by decide)] at H; exact H
    clear H
    have H := H1
    clear H1
    have H' := Qaa.mk H
    clear H
    go_wp2
    go_loopg [14] kj1 (fun kq v14 w' => ∃ (x14_2 : Int), v14 = .int .i64 x14_2 ∧ Qaa (Qau.l0 kq a0 (a0.size : Int) x14_2 = some r) ∧ Qaa (kq ≤ kj1) ∧ Drawn0 w w')
    case atStart => exact ⟨(0), (by first | rfl | (simp; done) | (simp [*]; done)), H', ⟨Nat.le_refl _⟩, by repeat (first | exact Drawn0.refl _ | apply Drawn0.step)⟩
    case round =>
     clear H'
     try clear c1
     try clear p2
     try clear c3
     try clear q0
     try clear q2
     try clear c4
     try clear p2
     obtain ⟨x14_2, rfl, HA, HK2, ⟨m2, rfl⟩⟩ := hrel
     cases gk with
     | zero => exact absurd HA.out (by simp [Qau.l0])
     | succ k2 =>
      have H := HA.out
      clear HA
      simp only [Qau.l0] at H
      by_cases c5 : x14_2 < (a0.size : Int)
      ·
       rw [if_pos c5] at H
       have j8 : decide (x14_2 < (a0.size : Int)) = true := decide_eq_true c5
       clear c5
       by_cases c6 : 0 ≤ x14_2
       ·
        rw [if_pos c6] at H
        have z0 : decide (0 ≤ x14_2) = true := decide_eq_true c6
        clear c6
        by_cases c7 : x14_2 < (a0.size : Int)
        ·
         rw [if_pos c7] at H
         have z1 : decide (x14_2 < (a0.size : Int)) = true := decide_eq_true c7
         clear c7
         have j9 := Qaa.mk H
         clear H
         have p8 : 0 ≤ (x14_2 : Int) := of_decide_eq_true (by first | (with_reducible assumption) | assumption)
         have q8 : x14_2 < (a0.size : Int) := of_decide_eq_true (by first | (with_reducible assumption) | assumption)
         have hx8 := bt_at a0 x14_2
         replace p8 := eq_true p8
         replace q8 := eq_true q8
         go_upto_region 7 with (fail)
         go_cut [41] (fun v41 wc => ∃ (kq : Nat) (x41_8 : Bool), v41 = .bool x41_8 ∧ Qaa (Qau.j2 kq a0 (a0.size : Int) x14_2 x41_8 = some r) ∧ Qaa (kq ≤ k2) ∧ Drawn0 w wc)
         case first =>
          have H := j9.out
          clear j9
          by_cases c10 : (bt a0 x14_2) < 97
          ·
           rw [if_pos c10] at H
           have q1 : decide ((bt a0 x14_2) < 97) = true := decide_eq_true c10
           clear c10
           (first | rw [q1] | (simp only [i64_w, i32_w]; rw [q1]) | skip)
           by_cases c11 : x14_2 = 0
           ·
            rw [if_pos c11] at H
            have q3 : (x14_2 == 0) = true := beq_iff_eq.mpr c11
            have q4 : (x14_2 != 0) = false := bne_eq_false_iff_eq.mpr c11
            clear c11
            have H' := Qaa.mk H
            clear H
            go_wp2
            go_meet
            case rel => exact ⟨_, (true), (by first | rfl | (simp; done) | (simp [*]; done)), H', ⟨by have := HJ1.out; have := HK2.out; first | omega | exact Nat.le_refl _⟩, by repeat (first | exact Drawn0.refl _ | apply Drawn0.step)⟩
           ·
            rw [if_neg c11] at H
            have q3 : (x14_2 == 0) = false := beq_eq_false_iff_ne.mpr c11
            have q4 : (x14_2 != 0) = true := bne_iff_ne.mpr c11
            by_cases c12 : (bt a0 x14_2) = 95
            ·
             rw [if_pos c12] at H
             have q5 : ((bt a0 x14_2) == 95) = true := beq_iff_eq.mpr c12
             have q6 : ((bt a0 x14_2) != 95) = false := bne_eq_false_iff_eq.mpr c12
             clear c12
             have H' := Qaa.mk H
             clear H
             go_wp2
             go_meet
             case rel => exact ⟨_, (false), (by first | rfl | (simp; done) | (simp [*]; done)), H', ⟨by have := HJ1.out; have := HK2.out; first | omega | exact Nat.le_refl _⟩, by repeat (first | exact Drawn0.refl _ | apply Drawn0.step)⟩
            ·
             rw [if_neg c12] at H
             have q5 : ((bt a0 x14_2) == 95) = false := beq_eq_false_iff_ne.mpr c12
             have q6 : ((bt a0 x14_2) != 95) = true := bne_iff_ne.mpr c12
             by_cases c13 : (bt a0 x14_2) < 48
             ·
              rw [if_pos c13] at H
              have q7 : decide ((bt a0 x14_2) < 48) = true := decide_eq_true c13
              clear c13
              have H' := Qaa.mk H
              clear H
              go_wp2
              go_meet
              case rel => exact ⟨_, (true), (by first | rfl | (simp; done) | (simp [*]; done)), H', ⟨by have := HJ1.out; have := HK2.out; first | omega | exact Nat.le_refl _⟩, by repeat (first | exact Drawn0.refl _ | apply Drawn0.step)⟩
             ·
              rw [if_neg c13] at H
              have q7 : decide ((bt a0 x14_2) < 48) = false := decide_eq_false c13
              clear c13
              have H' := Qaa.mk H
              clear H
              go_wp2
              go_meet
              case rel => exact ⟨_, (decide ((bt a0 x14_2) > 57)), (by first | rfl | (simp; done) | (simp [*]; done)), H', ⟨by have := HJ1.out; have := HK2.out; first | omega | exact Nat.le_refl _⟩, by repeat (first | exact Drawn0.refl _ | apply Drawn0.step)⟩
          ·
           rw [if_neg c10] at H
           have q1 : decide ((bt a0 x14_2) < 97) = false := decide_eq_false c10
           clear c10
           (first | rw [q1] | (simp only [i64_w, i32_w]; rw [q1]) | skip)
           by_cases c14 : (bt a0 x14_2) > 122
           ·
            rw [if_pos c14] at H
            have q9 : decide (122 < (bt a0 x14_2)) = true := decide_eq_true c14
            clear c14
            by_cases c15 : x14_2 = 0
            ·
             rw [if_pos c15] at H
             have j1 : (x14_2 == 0) = true := beq_iff_eq.mpr c15
             have j3 : (x14_2 != 0) = false := bne_eq_false_iff_eq.mpr c15
             clear c15
             have H' := Qaa.mk H
             clear H
             go_wp2
             go_meet
             case rel => exact ⟨_, (true), (by first | rfl | (simp; done) | (simp [*]; done)), H', ⟨by have := HJ1.out; have := HK2.out; first | omega | exact Nat.le_refl _⟩, by repeat (first | exact Drawn0.refl _ | apply Drawn0.step)⟩
            ·
             rw [if_neg c15] at H
             have j1 : (x14_2 == 0) = false := beq_eq_false_iff_ne.mpr c15
             have j3 : (x14_2 != 0) = true := bne_iff_ne.mpr c15
             by_cases c16 : (bt a0 x14_2) = 95
             ·
              rw [if_pos c16] at H
              have j4 : ((bt a0 x14_2) == 95) = true := beq_iff_eq.mpr c16
              have j5 : ((bt a0 x14_2) != 95) = false := bne_eq_false_iff_eq.mpr c16
              clear c16
              have H' := Qaa.mk H
              clear H
              go_wp2
              go_meet
              case rel => exact ⟨_, (false), (by first | rfl | (simp; done) | (simp [*]; done)), H', ⟨by have := HJ1.out; have := HK2.out; first | omega | exact Nat.le_refl _⟩, by repeat (first | exact Drawn0.refl _ | apply Drawn0.step)⟩
             ·
              rw [if_neg c16] at H
              have j4 : ((bt a0 x14_2) == 95) = false := beq_eq_false_iff_ne.mpr c16
              have j5 : ((bt a0 x14_2) != 95) = true := bne_iff_ne.mpr c16
              by_cases c17 : (bt a0 x14_2) < 48
              ·
               rw [if_pos c17] at H
               have j6 : decide ((bt a0 x14_2) < 48) = true := decide_eq_true c17
               clear c17
               have H' := Qaa.mk H
               clear H
               go_wp2
               go_meet
               case rel => exact ⟨_, (true), (by first | rfl | (simp; done) | (simp [*]; done)), H', ⟨by have := HJ1.out; have := HK2.out; first | omega | exact Nat.le_refl _⟩, by repeat (first | exact Drawn0.refl _ | apply Drawn0.step)⟩
              ·
               rw [if_neg c17] at H
               have j6 : decide ((bt a0 x14_2) < 48) = false := decide_eq_false c17
               clear c17
               have H' := Qaa.mk H
               clear H
               go_wp2
               go_meet
               case rel => exact ⟨_, (decide ((bt a0 x14_2) > 57)), (by first | rfl | (simp; done) | (simp [*]; done)), H', ⟨by have := HJ1.out; have := HK2.out; first | omega | exact Nat.le_refl _⟩, by repeat (first | exact Drawn0.refl _ | apply Drawn0.step)⟩
           ·
            rw [if_neg c14] at H
            have q9 : decide (122 < (bt a0 x14_2)) = false := decide_eq_false c14
            clear c14
            have H' := Qaa.mk H
            clear H
            go_wp2
            go_meet
            case rel => exact ⟨_, (false), (by first | rfl | (simp; done) | (simp [*]; done)), H', ⟨by have := HJ1.out; have := HK2.out; first | omega | exact Nat.le_refl _⟩, by repeat (first | exact Drawn0.refl _ | apply Drawn0.step)⟩
         case rest =>
          clear j9
          try clear c1
          try clear p2
          try clear c3
          try clear q0
          try clear q2
          try clear c4
          try clear c5
          try clear j8
          try clear c6
          try clear z0
          try clear c7
          try clear z1
          try clear p8
          try clear q8
          try clear hx8
          try clear c10
          try clear q1
          try clear c11
          try clear q3
          try clear q4
          try clear c12
          try clear q5
          try clear q6
          try clear c13
          try clear q7
          try clear c14
          try clear q9
          try clear c15
          try clear j1
          try clear j3
          try clear c16
          try clear j4
          try clear j5
          try clear c17
          try clear j6
          try clear p2
          try clear p8
          try clear q8
          obtain ⟨kq, x41_8, rfl, HA, HJ8, ⟨mc8, rfl⟩⟩ := hcut
          cases kq with
          | zero => exact absurd HA.out (by simp [Qau.j2])
          | succ kj8 =>
           have H := HA.out
           clear HA
           simp only [Qau.j2] at H
           by_cases c18 : x41_8 = true
           ·
            subst c18
            have H1 : (some false) = some r := by rw [if_pos rfl] at H; exact H
            clear H
            have H := H1
            clear H1
            obtain rfl := Option.some.inj H
            go_wp2
            go_ret
            exact ⟨by first | rfl | (simp; done) | (simp [*]; done), by repeat (first | exact Drawn0.refl _ | apply Drawn0.step)⟩
           ·
            replace c18 := Bool.eq_false_iff.mpr c18
            subst c18
            have H1 : (Qau.l0 kj8 a0 (a0.size : Int) (wrap64 (x14_2 + 1))) = some r := by rw [if_neg (show ¬ (false = true) by decide)] at H; exact H
            clear H
            have H := H1
            clear H1
            have H' := Qaa.mk H
            clear H
            go_wp2
            go_roundg kj8
            case measure => have := HJ1.out; have := HK2.out; have := HJ8.out; omega
            case rel => exact ⟨(wrap64 (x14_2 + 1)), (by first | rfl | (simp; done) | (simp [*]; done)), H', ⟨by have := HJ1.out; have := HK2.out; have := HJ8.out; omega⟩, by repeat (first | exact Drawn0.refl _ | apply Drawn0.step)⟩
        ·
         rw [if_neg c7] at H
         exact absurd H (by simp)
       ·
        rw [if_neg c6] at H
        exact absurd H (by simp)
      ·
       rw [if_neg c5] at H
       have j8 : decide (x14_2 < (a0.size : Int)) = false := decide_eq_false c5
       clear c5
       obtain rfl := Option.some.inj H
       go_wp2
       go_ret
       exact ⟨by first | rfl | (simp; done) | (simp [*]; done), by repeat (first | exact Drawn0.refl _ | apply Drawn0.step)⟩
end Go.Proofs.Ytphnmaobpefoiaa.XA
end
section
namespace Go.Proofs.Ytphnmaobpefoiaa.XA
open Go.RowKit Go.Proofs.YtphnmaobpefoiaaXW Go.Proofs.YtphnmaobpefoiaaW.PrintWords Go.Proofs.YtphnmaobpefoiaaW.PrintLast Go.Proofs.YtphnmaobpefoiaaW.PrintMore
attribute [local go_sem] max2_int min2_int max_two min_two max_three min_three max_four min_four sleq
set_option linter.unusedVariables false
set_option linter.unusedSimpArgs false
mutual
def Qaj.l0 : Nat → List (S86) → List (S86) → Int → Int → Option (Int)
 | 0, _, _, _, _ => none
 | k + 1, x0, x13, x14, x15 => if x15 < x14 then (if 0 ≤ x15 then (if x15 < (x13.length : Int) then ((Qau.f k ((rd_T86 x13 x15).f0)).bind fun j2 => (if j2 = true then (if x15 ≤ (x0.length : Int) then ((some (x0.take (x15 : Int).toNat : List (S86))).bind fun y149 => (Qaj.l1 k x0 x13 x14 x15 y149 (y149.length : Int) 0 ((rd_T86 x13 x15).f0) ((rd_T86 x13 x15).f1))) else (none)) else (some 5))) else (none)) else (none)) else (some 0)
def Qaj.l1 : Nat → List (S86) → List (S86) → Int → Int → List (S86) → Int → Int → ByteArray → Int → Option (Int)
 | 0, _, _, _, _, _, _, _, _, _ => none
 | k + 1, x0, x13, x14, x15, x26, x27, x28, j0, j1 => if x28 < x27 then (if 0 ≤ x28 then (if x28 < (x26.length : Int) then (if ((rd_T86 x26 x28).f0).toList = j0.toList then (some 7) else (Qaj.l1 k x0 x13 x14 x15 x26 x27 (wrap64 (x28 + 1)) j0 j1)) else (none)) else (none)) else ((Qaq.f j1 1 3).bind fun j3 => (if j3 = true then (Qaj.l0 k x0 x13 x14 (wrap64 (x15 + 1))) else (some 4)))
end
def Qaj.f (k : Nat) (l0 : List (S86)) : Option (Int) := if (l0.length : Int) > 20 then (some 2) else (if (l0.length : Int) = 0 then (some 6) else (Qaj.l0 k l0 l0 (l0.length : Int) 0))
set_option maxHeartbeats 8000000 in
set_option maxRecDepth 100000 in
theorem Qaj.calls (k : Nat) (A0 : Option Addr) (c0 : Nat) (l0 : List (S86)) (r : Int) (w : World) (hr0 : Kd.C k86 w A0 l0.length l0) (hc0 : l0.length ≤ c0) (h : Qaj.f k l0 = some r) :
  Calls Try.prog 58 #[.slice A0 l0.length c0] w fun e w' => e = .returned (.int .i64 r) ∧ Below w.heap.size w w' := by
 have hu86 := Try.underlying86
 have z8 := Qaa.mk hr0
 have Z5 := Qaa.mk hc0
 clear hr0 hc0
 have HB := Qaa.mk (Below.refl w.heap.size w)
 have H : (if (l0.length : Int) > 20 then (some 2) else (if (l0.length : Int) = 0 then (some 6) else (Qaj.l0 k l0 l0 (l0.length : Int) 0))) = some r := h
 clear h
 by_cases c2 : (l0.length : Int) > 20
 ·
  rw [if_pos c2] at H
  have j5 : decide (20 < (l0.length : Int)) = true := decide_eq_true c2
  have j6 : decide (20 < l0.length) = true := decide_eq_true (by omega)
  clear c2
  obtain rfl := Option.some.inj H
  go_enter Try.func58, Try.ntmps58
  go_wp2
  go_ret
  exact ⟨by first | rfl | (simp [errW_none, errW_some] <;> rfl) | (simp [*, errW_none, errW_some] <;> rfl), bl HB⟩
 ·
  rw [if_neg c2] at H
  have j5 : decide (20 < (l0.length : Int)) = false := decide_eq_false c2
  have j6 : decide (20 < l0.length) = false := decide_eq_false (by omega)
  clear c2
  by_cases c3 : (l0.length : Int) = 0
  ·
   rw [if_pos c3] at H
   have j7 : ((l0.length : Int) == 0) = true := beq_iff_eq.mpr c3
   have j8 : ((l0.length : Int) != 0) = false := bne_eq_false_iff_eq.mpr c3
   clear c3
   obtain rfl := Option.some.inj H
   go_enter Try.func58, Try.ntmps58
   go_wp2
   go_ret
   exact ⟨by first | rfl | (simp [errW_none, errW_some] <;> rfl) | (simp [*, errW_none, errW_some] <;> rfl), bl HB⟩
  ·
   rw [if_neg c3] at H
   have j7 : ((l0.length : Int) == 0) = false := beq_eq_false_iff_ne.mpr c3
   have j8 : ((l0.length : Int) != 0) = true := bne_iff_ne.mpr c3
   have z9 : ¬ (l0 = []) := fun h_ => c3 (by rw [h_]; rfl)
   have H' := Qaa.mk H
   clear H
   go_enter Try.func58, Try.ntmps58
   go_wp2
   go_loopg [15] k (fun kq v15 w' => ∃ (x15_1 : Int), v15 = .int .i64 x15_1 ∧ Qaa (Qaj.l0 kq l0 l0 (l0.length : Int) x15_1 = some r) ∧ Qaa (kq ≤ k) ∧ Qaa (Below w.heap.size w w'))
   case atStart => exact ⟨(0), (by first | rfl | (simp; done) | (simp [*]; done)), H', ⟨Nat.le_refl _⟩, ⟨bl HB⟩⟩
   case round =>
    clear H'
    try clear c2
    try clear j5
    try clear j6
    try clear p2
    try clear c3
    try clear j7
    try clear j8
    try clear z9
    obtain ⟨x15_1, rfl, HA, HK1, HB⟩ := hrel
    cases gk with
    | zero => exact absurd HA.out (by simp [Qaj.l0])
    | succ k1 =>
     have H := HA.out
     clear HA
     simp only [Qaj.l0] at H
     by_cases c4 : x15_1 < (l0.length : Int)
     ·
      rw [if_pos c4] at H
      have y9 : decide (x15_1 < (l0.length : Int)) = true := decide_eq_true c4
      clear c4
      by_cases c5 : 0 ≤ x15_1
      ·
       rw [if_pos c5] at H
       have Qa : decide (0 ≤ x15_1) = true := decide_eq_true c5
       clear c5
       by_cases c6 : x15_1 < (l0.length : Int)
       ·
        rw [if_pos c6] at H
        have Qb : decide (x15_1 < (l0.length : Int)) = true := decide_eq_true c6
        clear c6
        replace H := Option.bind_eq_some_iff.mp H
        obtain ⟨j2, A70, H⟩ := H
        replace H : (if j2 = true then (if x15_1 ≤ (l0.length : Int) then ((some (l0.take (x15_1 : Int).toNat : List (S86))).bind fun y149 => (Qaj.l1 k1 l0 l0 (l0.length : Int) x15_1 y149 (y149.length : Int) 0 ((rd_T86 l0 x15_1).f0) ((rd_T86 l0 x15_1).f1))) else (none)) else (some 5)) = some r := H
        have A7 := Qaa.mk A70
        clear A70
        by_cases c8 : j2 = true
        ·
         subst c8
         have H1 : (if x15_1 ≤ (l0.length : Int) then ((some (l0.take (x15_1 : Int).toNat : List (S86))).bind fun y149 => (Qaj.l1 k1 l0 l0 (l0.length : Int) x15_1 y149 (y149.length : Int) 0 ((rd_T86 l0 x15_1).f0) ((rd_T86 l0 x15_1).f1))) else (none)) = some r := by rw [if_pos rfl] at H; exact H
         clear H
         have H := H1
         clear H1
         have Qc := eq_true (of_decide_eq_true (by first | (with_reducible assumption) | assumption) : 0 ≤ x15_1)
         by_cases c10 : x15_1 ≤ (l0.length : Int)
         ·
          rw [if_pos c10] at H
          have Q1 := eq_true c10
          have Q2 : decide (x15_1 ≤ (l0.length : Int)) = true := decide_eq_true c10
          clear c10
          obtain ⟨y149, hy149⟩ : ∃ y_ : List (S86), y_ = (l0.take (x15_1 : Int).toNat) := ⟨_, rfl⟩
          replace H : (Qaj.l1 k1 l0 l0 (l0.length : Int) x15_1 y149 (y149.length : Int) 0 ((rd_T86 l0 x15_1).f0) ((rd_T86 l0 x15_1).f1)) = some r := by first | (rw [hy149]; with_reducible exact H) | (have H2_ := (Option.bind_some _ _).symm.trans H; rw [hy149]; with_reducible exact H2_) | (have H2_ := (Option.bind_some _ _).symm.trans H; with_reducible exact H2_) | with_reducible exact H | (rw [hy149]; exact H) | exact H
          have Ny149 := Qaa.mk hy149
          clear hy149
          have H' := Qaa.mk H
          clear H
          have p146 : 0 ≤ (x15_1 : Int) := of_decide_eq_true (by first | (with_reducible assumption) | assumption)
          have q146 : x15_1 < (l0.length : Int) := of_decide_eq_true (by first | (with_reducible assumption) | assumption)
          obtain ⟨ad146, e146, q3, q4⟩ := at_T86 z8.out x15_1 p146 q146
          cases e146
          replace q3 := (HB.out.cell (World.block_lt_of_cell? w _ q3)).trans q3
          replace q4 := (HB.out.cell (World.block_lt_of_cell? w _ q4)).trans q4
          replace p146 := eq_true p146
          replace q146 := eq_true q146
          go_wp2_with (first | ((with_reducible refine gate_dst (N := 4) rfl ?_); refine bx 4 #[.string (⟨#[]⟩ : ByteArray), .int .i64 0] 86 ?_; intro q2 hg w11 hbox hb; have q0 := Qaa.mk (hbox); have Q3 := Qaa.mk ((by rw [hg]; exact (below_size (bl HB)) : w.heap.size ≤ q2)); have Q4 := Qaa.mk ((by rw [hg]; exact (below_size (bl HB)) : w.heap.size ≤ q2)); replace HB := bs HB hb; clear hb hbox hg; obtain ⟨z0, z1, z2, z3⟩ := cf2 q0) | ((with_reducible refine gate_store (t := 86) (p := 4) rfl ?_); refine store_event (t := 86) (p := 4) (v := ?vo_w13) (w1 := ((w11.setCell ⟨q2, 0, none⟩ (.string ((rd_T86 l0 x15_1).f0))).setCell ⟨q2, 1, none⟩ (.int .i64 ((rd_T86 l0 x15_1).f1)))) ?hg ?ho ?hn ?hr ?_; (case ho => rfl); (case hg => rfl); (case hn => rfl); (case hr => first | (go_simp; done) | (go_simp; rfl)); intro w13 hw; replace q0 : Qaa (w13.heap[q2]? = some (.cells #[.string ((rd_T86 l0 x15_1).f0), .int .i64 ((rd_T86 l0 x15_1).f1)] 86 (0, 0))) := ⟨(by rw [hw]; exact (by apply blk_u; refine blk_put (cs := #[.string ((rd_T86 l0 x15_1).f0), .int .i64 0]) ?_ 1 _ rfl; apply blk_u; refine blk_put (cs := #[.string (⟨#[]⟩ : ByteArray), .int .i64 0]) ?_ 0 _ rfl; apply blk_u; exact q0.out))⟩; replace HB : Qaa (Below w.heap.size w w13) := ⟨(by rw [hw]; exact (bl HB))⟩; clear hw; obtain ⟨z4, z5, z6, z7⟩ := cf2 q0) | ((with_reducible refine gate_callee (f := 68) rfl ?_); refine gL (some 22) Try.func68 #[.string ((rd_T86 l0 x15_1).f0)] ?_; (with_reducible refine (Qau.calls k1 ((rd_T86 l0 x15_1).f0) true _ A7.out).mono ?_); rintro e w' ⟨rfl, ⟨nd, rfl⟩⟩; refine ⟨_, rfl, ?_⟩; have q15 : (x15_1 : Int) ≤ ((l0.length : Int) : Int) := of_decide_eq_true (by first | (with_reducible assumption) | assumption); obtain ⟨i015, hi015, _, hsz15, _⟩ := info_parts info86; have hroom15 : l0.length ≤ c0 := Z5.out; have hC15 : Kd.C k86 _ (some ad146) l0.length l0 := z8.out; have hcut15 := cut_to (P := Try.prog) 22 86 .i64 Try.underlying22 hi015 (some ad146) l0.length c0 x15_1 (of_decide_eq_true (by first | (with_reducible assumption) | assumption)) q15 hroom15; have hr15 := Kd.C_take (m := (x15_1 : Int).toNat) hC15 (by omega); have hy15 : y149.length = (x15_1 : Int).toNat := (by rw [Ny149.out, List.length_take]; omega); rw [← Ny149.out] at hr15; rw [← hy15] at hcut15; have j9 := Qaa.mk hr15; have Z6 := Qaa.mk (show y149.length ≤ c0 from by omega); clear hr15 hC15 hroom15 hi015 hsz15; have KY15 := Qaa.mk hy15; clear hy15; replace q15 := eq_true q15))
          go_loopg [28] k1 (fun kq v28 w' => ∃ (x28_2 : Int), v28 = .int .i64 x28_2 ∧ Qaa (Qaj.l1 kq l0 l0 (l0.length : Int) x15_1 y149 (y149.length : Int) x28_2 ((rd_T86 l0 x15_1).f0) ((rd_T86 l0 x15_1).f1) = some r) ∧ Qaa (kq ≤ k1) ∧ Qaa (w'.heap[q2]? = some (.cells #[.string ((rd_T86 l0 x15_1).f0), .int .i64 ((rd_T86 l0 x15_1).f1)] 86 (0, 0))) ∧ Qaa (Below w.heap.size w w'))
          case atStart => exact ⟨(0), (by first | rfl | (simp; done) | (simp [*]; done)), H', ⟨Nat.le_refl _⟩, ⟨by apply blk_u; exact q0.out⟩, ⟨bl HB⟩⟩
          case round =>
           clear H'
           try clear c1
           try clear p1
           try clear q1
           try clear hx1
           try clear c2
           try clear j5
           try clear j6
           try clear p2
           try clear c3
           try clear j7
           try clear j8
           try clear z9
           try clear c4
           try clear y9
           try clear c5
           try clear Qa
           try clear c6
           try clear Qb
           try clear c8
           try clear c9
           try clear Qc
           try clear c10
           try clear Q1
           try clear Q2
           try clear p14
           try clear q14
           try clear hx14
           try clear q15
           try clear z0
           try clear z1
           try clear z4
           try clear z5
           try clear z2
           try clear z3
           try clear z6
           try clear z7
           try clear q3
           try clear q4
           try clear p146
           try clear p2
           try clear q146
           try clear q15
           obtain ⟨x28_2, rfl, HA, HK2, q0, HB⟩ := hrel
           cases gk with
           | zero => exact absurd HA.out (by simp [Qaj.l1])
           | succ k2 =>
            have H := HA.out
            clear HA
            simp only [Qaj.l1] at H
            by_cases c16 : x28_2 < (y149.length : Int)
            ·
             rw [if_pos c16] at H
             have Q5 : decide (x28_2 < (y149.length : Int)) = true := decide_eq_true c16
             clear c16
             by_cases c17 : 0 ≤ x28_2
             ·
              rw [if_pos c17] at H
              have Z7 : decide (0 ≤ x28_2) = true := decide_eq_true c17
              clear c17
              by_cases c18 : x28_2 < (y149.length : Int)
              ·
               rw [if_pos c18] at H
               have Z8 : decide (x28_2 < (y149.length : Int)) = true := decide_eq_true c18
               clear c18
               by_cases c19 : ((rd_T86 y149 x28_2).f0).toList = ((rd_T86 l0 x15_1).f0).toList
               ·
                rw [if_pos c19] at H
                have Q6 : (((rd_T86 y149 x28_2).f0).toList == ((rd_T86 l0 x15_1).f0).toList) = true := beq_iff_eq.mpr c19
                have Q7 : (((rd_T86 y149 x28_2).f0).toList != ((rd_T86 l0 x15_1).f0).toList) = false := bne_eq_false_iff_eq.mpr c19
                clear c19
                obtain rfl := Option.some.inj H
                have p153 : 0 ≤ (x28_2 : Int) := of_decide_eq_true (by first | (with_reducible assumption) | assumption)
                have q153 : x28_2 < (y149.length : Int) := of_decide_eq_true (by first | (with_reducible assumption) | assumption)
                obtain ⟨ad153, e153, q5, q6⟩ := at_T86 j9.out x28_2 p153 q153
                obtain rfl : ad146 = ad153 := (by injection e153)
                replace q5 := (HB.out.cell (World.block_lt_of_cell? w _ q5)).trans q5
                replace q6 := (HB.out.cell (World.block_lt_of_cell? w _ q6)).trans q6
                replace p153 := eq_true p153
                replace q153 := eq_true q153
                go_wp2_with (first | ((with_reducible refine gate_dst (N := 6) rfl ?_); refine bx 6 #[.string (⟨#[]⟩ : ByteArray), .int .i64 0] 86 ?_; intro q8 hg w20 hbox hb; have j4 := Qaa.mk (hbox); have Q8 := Qaa.mk ((by rw [hg]; exact (below_size (bl HB)) : w.heap.size ≤ q8)); have Q9 := Qaa.mk ((by rw [hg]; exact (below_size (bl HB)) : w.heap.size ≤ q8)); have q7 := Qaa.mk ((by rw [hg]; exact Nat.ne_of_lt (blk_lt (Ub q0)) : q2 ≠ q8)); have q9 := Qaa.mk ((by rw [hg]; exact Nat.ne_of_gt (blk_lt (Ub q0)) : q8 ≠ q2)); replace q0 := Bb q0 hb; replace HB := bs HB hb; clear hb hbox hg; have Z9 := q9.out; have Za := q7.out; obtain ⟨Qd, Qe, Qf, Qg⟩ := cf2 j4; obtain ⟨Qh, Qi, Qj, Qk⟩ := cf2 q0))
                go_ret
                exact ⟨by first | rfl | (simp [errW_none, errW_some] <;> rfl) | (simp [*, errW_none, errW_some] <;> rfl), bl HB⟩
               ·
                rw [if_neg c19] at H
                have Q6 : (((rd_T86 y149 x28_2).f0).toList == ((rd_T86 l0 x15_1).f0).toList) = false := beq_eq_false_iff_ne.mpr c19
                have Q7 : (((rd_T86 y149 x28_2).f0).toList != ((rd_T86 l0 x15_1).f0).toList) = true := bne_iff_ne.mpr c19
                have H' := Qaa.mk H
                clear H
                have p153 : 0 ≤ (x28_2 : Int) := of_decide_eq_true (by first | (with_reducible assumption) | assumption)
                have q153 : x28_2 < (y149.length : Int) := of_decide_eq_true (by first | (with_reducible assumption) | assumption)
                obtain ⟨ad153, e153, q5, q6⟩ := at_T86 j9.out x28_2 p153 q153
                obtain rfl : ad146 = ad153 := (by injection e153)
                replace q5 := (HB.out.cell (World.block_lt_of_cell? w _ q5)).trans q5
                replace q6 := (HB.out.cell (World.block_lt_of_cell? w _ q6)).trans q6
                replace p153 := eq_true p153
                replace q153 := eq_true q153
                go_wp2_with (first | ((with_reducible refine gate_dst (N := 6) rfl ?_); refine bx 6 #[.string (⟨#[]⟩ : ByteArray), .int .i64 0] 86 ?_; intro q8 hg w24 hbox hb; have j4 := Qaa.mk (hbox); have Q8 := Qaa.mk ((by rw [hg]; exact (below_size (bl HB)) : w.heap.size ≤ q8)); have Q9 := Qaa.mk ((by rw [hg]; exact (below_size (bl HB)) : w.heap.size ≤ q8)); have q7 := Qaa.mk ((by rw [hg]; exact Nat.ne_of_lt (blk_lt (Ub q0)) : q2 ≠ q8)); have q9 := Qaa.mk ((by rw [hg]; exact Nat.ne_of_gt (blk_lt (Ub q0)) : q8 ≠ q2)); replace q0 := Bb q0 hb; replace HB := bs HB hb; clear hb hbox hg; have Zb := q9.out; have Zc := q7.out; obtain ⟨Ql, Qm, Qn, Qo⟩ := cf2 j4; obtain ⟨Qp, Qq, Qr, Qs⟩ := cf2 q0))
                go_roundg k2
                case measure => have := HK1.out; have := HK2.out; omega
                case rel => exact ⟨(wrap64 (x28_2 + 1)), (by first | rfl | (simp; done) | (simp [*]; done)), H', ⟨by have := HK1.out; have := HK2.out; omega⟩, ⟨by apply blk_u; refine blk_far ?_ q7.out _; apply blk_u; refine blk_far ?_ q7.out _; apply blk_u; exact q0.out⟩, ⟨bl HB⟩⟩
              ·
               rw [if_neg c18] at H
               exact absurd H (by simp)
             ·
              rw [if_neg c17] at H
              exact absurd H (by simp)
            ·
             rw [if_neg c16] at H
             have Q5 : decide (x28_2 < (y149.length : Int)) = false := decide_eq_false c16
             clear c16
             replace H := Option.bind_eq_some_iff.mp H
             obtain ⟨j3, Q0, H⟩ := H
             replace H : (if j3 = true then (Qaj.l0 k2 l0 l0 (l0.length : Int) (wrap64 (x15_1 + 1))) else (some 4)) = some r := H
             have A28 := Qaa.mk Q0
             clear Q0
             by_cases c29 : j3 = true
             ·
              subst c29
              have H1 : (Qaj.l0 k2 l0 l0 (l0.length : Int) (wrap64 (x15_1 + 1))) = some r := by rw [if_pos rfl] at H; exact H
              clear H
              have H := H1
              clear H1
              have H' := Qaa.mk H
              clear H
              obtain ⟨Qt, Qu, Qv, Qw⟩ := cf2 q0
              go_wp2_with (first | ((with_reducible refine gate_callee (f := 25) rfl ?_); refine gL (some 40) Try.func25 #[.int .i64 ((rd_T86 l0 x15_1).f1), .int .i64 1, .int .i64 3] ?_; (with_reducible refine (Qaq.calls ((rd_T86 l0 x15_1).f1) 1 3 true _ A28.out).mono ?_); rintro e w' ⟨rfl, ⟨nd, rfl⟩⟩; refine ⟨_, rfl, ?_⟩))
              go_roundg k2
              case measure => have := HK1.out; have := HK2.out; omega
              case rel => exact ⟨(wrap64 (x15_1 + 1)), (by first | rfl | (simp; done) | (simp [*]; done)), H', ⟨by have := HK1.out; have := HK2.out; omega⟩, ⟨bl HB⟩⟩
             ·
              replace c29 := Bool.eq_false_iff.mpr c29
              subst c29
              have H1 : (some 4) = some r := by rw [if_neg (show ¬ (false = true) by decide)] at H; exact H
              clear H
              have H := H1
              clear H1
              obtain rfl := Option.some.inj H
              obtain ⟨Qx, Qy, Qz, Z0⟩ := cf2 q0
              go_wp2_with (first | ((with_reducible refine gate_callee (f := 25) rfl ?_); refine gL (some 40) Try.func25 #[.int .i64 ((rd_T86 l0 x15_1).f1), .int .i64 1, .int .i64 3] ?_; (with_reducible refine (Qaq.calls ((rd_T86 l0 x15_1).f1) 1 3 false _ A28.out).mono ?_); rintro e w' ⟨rfl, ⟨nd, rfl⟩⟩; refine ⟨_, rfl, ?_⟩))
              go_ret
              exact ⟨by first | rfl | (simp [errW_none, errW_some] <;> rfl) | (simp [*, errW_none, errW_some] <;> rfl), bl HB⟩
         ·
          rw [if_neg c10] at H
          exact absurd H (by simp)
        ·
         replace c8 := Bool.eq_false_iff.mpr c8
         subst c8
         have H1 : (some 5) = some r := by rw [if_neg (show ¬ (false = true) by decide)] at H; exact H
         clear H
         have H := H1
         clear H1
         obtain rfl := Option.some.inj H
         have p146 : 0 ≤ (x15_1 : Int) := of_decide_eq_true (by first | (with_reducible assumption) | assumption)
         have q146 : x15_1 < (l0.length : Int) := of_decide_eq_true (by first | (with_reducible assumption) | assumption)
         obtain ⟨ad146, e146, q3, q4⟩ := at_T86 z8.out x15_1 p146 q146
         cases e146
         replace q3 := (HB.out.cell (World.block_lt_of_cell? w _ q3)).trans q3
         replace q4 := (HB.out.cell (World.block_lt_of_cell? w _ q4)).trans q4
         replace p146 := eq_true p146
         replace q146 := eq_true q146
         go_wp2_with (first | ((with_reducible refine gate_dst (N := 4) rfl ?_); refine bx 4 #[.string (⟨#[]⟩ : ByteArray), .int .i64 0] 86 ?_; intro q2 hg w32 hbox hb; have q0 := Qaa.mk (hbox); have Q3 := Qaa.mk ((by rw [hg]; exact (below_size (bl HB)) : w.heap.size ≤ q2)); have Q4 := Qaa.mk ((by rw [hg]; exact (below_size (bl HB)) : w.heap.size ≤ q2)); replace HB := bs HB hb; clear hb hbox hg; obtain ⟨Z1, Z2, Z3, Z4⟩ := cf2 q0) | ((with_reducible refine gate_callee (f := 68) rfl ?_); refine gL (some 22) Try.func68 #[.string ((rd_T86 l0 x15_1).f0)] ?_; (with_reducible refine (Qau.calls k1 ((rd_T86 l0 x15_1).f0) false _ A7.out).mono ?_); rintro e w' ⟨rfl, ⟨nd, rfl⟩⟩; refine ⟨_, rfl, ?_⟩))
         go_ret
         exact ⟨by first | rfl | (simp [errW_none, errW_some] <;> rfl) | (simp [*, errW_none, errW_some] <;> rfl), bl HB⟩
       ·
        rw [if_neg c6] at H
        exact absurd H (by simp)
      ·
       rw [if_neg c5] at H
       exact absurd H (by simp)
     ·
      rw [if_neg c4] at H
      have y9 : decide (x15_1 < (l0.length : Int)) = false := decide_eq_false c4
      clear c4
      obtain rfl := Option.some.inj H
      go_wp2
      go_ret
      exact ⟨by first | rfl | (simp [errW_none, errW_some] <;> rfl) | (simp [*, errW_none, errW_some] <;> rfl), bl HB⟩
end Go.Proofs.Ytphnmaobpefoiaa.XA
end
