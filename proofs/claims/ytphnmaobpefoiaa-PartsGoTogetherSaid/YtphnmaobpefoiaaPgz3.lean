/- A part of the proof of: PartsGoTogether: for every columns, batch and n the law's call returns true, and what came in reads as before; no condition. -/
import Derived.Test.YtphnmaobpefoiaaPgz2
set_option linter.unusedVariables false
set_option linter.unusedSimpArgs false
section
namespace Go.Proofs.Ytphnmaobpefoiaa.XA
open Go.RowKit Go.Proofs.YtphnmaobpefoiaaXW Go.Proofs.YtphnmaobpefoiaaW.PrintWords Go.Proofs.YtphnmaobpefoiaaW.PrintLast Go.Proofs.YtphnmaobpefoiaaW.PrintMore
attribute [local go_sem] max2_int min2_int max_two min_two max_three min_three max_four min_four sleq
set_option linter.unusedVariables false
set_option linter.unusedSimpArgs false
mutual
def Qai.l0 : Nat → List ByteArray → Int → Int → Int → List Bool → List Int → List ByteArray → List ByteArray → List Int → Int → List Bool → List ByteArray → Option (Int × List Bool × List Int × List ByteArray × List ByteArray × List Int)
 | 0, _, _, _, _, _, _, _, _, _, _, _, _ => none
 | k + 1, x15, x16, x17, Q3, Q4, Q5, z7, Q6, Q7, Qb, Qc, Q1 => if x17 < x16 then (if 0 ≤ x17 then (if x17 < (x15.length : Int) then ((Qaz.f Q3 Q4 Q5 z7 Q6 Q7 x17).bind fun Zh => (if Zh = true then (Qai.l0 k x15 x16 (wrap64 (x17 + 1)) Q3 Q4 Q5 z7 Q6 Q7 Qb Qc Q1) else (if Q1.length < 8796093022208 then (Qai.l0 k x15 x16 (wrap64 (x17 + 1)) Q3 Q4 Q5 z7 Q6 Q7 Qb Qc (Q1 ++ [rdOf ByteArray.empty x15 x17])) else (none)))) else (none)) else (none)) else ((Qbg.f Q1).bind fun Qy => ((Qbd.f Qy).bind fun j7 => (Qai.l1 k z7 (z7.length : Int) 0 Q3 Q4 Q5 z7 Q6 Q7 Qb Qc j7 ([] : List Int))))
def Qai.l1 : Nat → List ByteArray → Int → Int → Int → List Bool → List Int → List ByteArray → List ByteArray → List Int → Int → List Bool → List ByteArray → List Int → Option (Int × List Bool × List Int × List ByteArray × List ByteArray × List Int)
 | 0, _, _, _, _, _, _, _, _, _, _, _, _, _ => none
 | k + 1, x41, x42, x43, Q3, Q4, Q5, z7, Q6, Q7, Qb, Qc, Q1, Qg => if x43 < x42 then (if 0 ≤ x43 then (if x43 < (x41.length : Int) then ((Qaz.f Q3 Q4 Q5 z7 Q6 Q7 x43).bind fun Zi => (if Zi = true then (if Qg.length < 17592186044416 then (Qai.l1 k x41 x42 (wrap64 (x43 + 1)) Q3 Q4 Q5 z7 Q6 Q7 Qb Qc Q1 (Qg ++ [0])) else (none)) else ((Qaf.f k Q1 (rdOf ByteArray.empty x41 x43)).bind fun Qq => (if Qg.length < 17592186044416 then (Qai.l1 k x41 x42 (wrap64 (x43 + 1)) Q3 Q4 Q5 z7 Q6 Q7 Qb Qc Q1 (Qg ++ [Qq.1])) else (none))))) else (none)) else (none)) else (some (Qb, Qc, ([] : List Int), ([] : List ByteArray), Q1, Qg))
end
def Qai.f (k : Nat) (q6 : Int) (q2 : List Bool) (j8 : List Int) (q0 : List ByteArray) (j9 : List ByteArray) (z0 : List Int) : Option (Int × List Bool × List Int × List ByteArray × List ByteArray × List Int) := Qai.l0 k q0 (q0.length : Int) 0 q6 q2 j8 q0 j9 z0 q6 q2 ([] : List ByteArray)
set_option maxHeartbeats 8000000 in
set_option maxRecDepth 100000 in
theorem Qai.calls (k : Nat) (q6 : Int) (z4 : Nat → Prop) (z1 : Option Addr) (z2 : Nat) (q2 : List Bool) (Qh : Option Addr) (Qi : Nat) (j8 : List Int) (Qz : Option Addr) (Qj : Nat) (q0 : List ByteArray) (Qk : Option Addr) (Ql : Nat) (j9 : List ByteArray) (Qm : Option Addr) (Qn : Nat) (z0 : List Int) (r1 : Int) (r2 : List Bool) (r3 : List Int) (r4 : List ByteArray) (r5 : List ByteArray) (r6 : List Int) (w : World) (hs0_1 : Kd.V Kd.bool 4 w w.heap.size (fun k_ => z4 k_) (.slice z1 q2.length z2) q2) (Jb : Kd.C (Kd.int .i64) w Qh j8.length j8) (Jc : j8.length ≤ Qi) (Jd : Kd.C Kd.string w Qz q0.length q0) (Je : q0.length ≤ Qj) (Jf : Kd.C Kd.string w Qk j9.length j9) (Jg : j9.length ≤ Ql) (Jh : Kd.C (Kd.int .i64) w Qm z0.length z0) (Ji : z0.length ≤ Qn) (h : Qai.f k q6 q2 j8 q0 j9 z0 = some (r1, r2, r3, r4, r5, r6)) :
  Calls Try.prog 28 #[.agg #[.int .i64 q6, .slice z1 q2.length z2, .slice Qh j8.length Qi, .slice Qz q0.length Qj, .slice Qk j9.length Ql, .slice Qm z0.length Qn]] w fun e w' => ∃ v1_ v2_ v3_ v4_ v5_ : Value, e = .returned (.agg #[.int .i64 r1, v1_, v2_, v3_, v4_, v5_]) ∧ Kd.V Kd.bool 4 w' w.heap.size (fun k_ => (z4 k_ ∨ w.heap.size ≤ k_) ∧ some k_ ≠ (v2_ : Value).ownBlock ∧ some k_ ≠ (v3_ : Value).ownBlock ∧ some k_ ≠ (v4_ : Value).ownBlock ∧ some k_ ≠ (v5_ : Value).ownBlock) v1_ r2 ∧ Kd.R (Kd.int .i64) 3 w' w.heap.size (fun k_ => (w.heap.size ≤ k_) ∧ some k_ ≠ (v5_ : Value).ownBlock) v2_ r3 ∧ Kd.R Kd.string 9 w' w.heap.size (fun k_ => (w.heap.size ≤ k_) ∧ some k_ ≠ (v4_ : Value).ownBlock) v3_ r4 ∧ Kd.R Kd.string 9 w' w.heap.size (fun k_ => (w.heap.size ≤ k_) ∧ some k_ ≠ (v3_ : Value).ownBlock) v4_ r5 ∧ Kd.R (Kd.int .i64) 3 w' w.heap.size (fun k_ => (w.heap.size ≤ k_) ∧ some k_ ≠ (v2_ : Value).ownBlock) v5_ r6 ∧ Below w.heap.size w w' := by
 have hu39 := Try.underlying39
 have Qe := Qaa.mk (show Kd.V Kd.bool 4 w w.heap.size (fun k_ => (z4 k_ ∨ w.heap.size ≤ k_)) (.slice z1 q2.length z2) q2 from Kd.V_mono hs0_1 (fun k_ hk => .inl hk))
 have Qr := Qaa.mk Jb
 have Qs := Qaa.mk Jc
 clear Jb Jc
 have Qf := Qaa.mk Jd
 have Qt := Qaa.mk Je
 clear Jd Je
 have Qu := Qaa.mk Jf
 have Qv := Qaa.mk Jg
 clear Jf Jg
 have Qw := Qaa.mk Jh
 have Qx := Qaa.mk Ji
 clear Jh Ji
 have HB := Qaa.mk (Below.refl w.heap.size w)
 have H : (Qai.l0 k q0 (q0.length : Int) 0 q6 q2 j8 q0 j9 z0 q6 q2 ([] : List ByteArray)) = some (r1, r2, r3, r4, r5, r6) := h
 clear h
 have H' := Qaa.mk H
 clear H
 go_enter Try.func28, Try.ntmps28
 go_wp2_with (first | ((with_reducible refine gate_dst (N := 1) rfl ?_); refine bx 1 #[.int .i64 q6, .slice z1 q2.length z2, .slice Qh j8.length Qi, .slice Qz q0.length Qj, .slice Qk j9.length Ql, .slice Qm z0.length Qn] 39 ?_; intro z3 hg w2 hbox hb; have q8 := Qaa.mk (hbox); have Ff := Qaa.mk ((by rw [hg]; exact (below_size (bl HB)) : w.heap.size ≤ z3)); have Jj := Qaa.mk ((by rw [hg]; exact (below_size (bl HB)) : w.heap.size ≤ z3)); replace Qe := Qaa.mk (Kd.V_below (Kd.V_elderB (V_u Qe.out) z3 (Nat.le_of_eq hg.symm)) hb); replace HB := bs HB hb; clear hb hbox hg) | ((with_reducible refine gate_dst (N := 2) rfl ?_); refine bx 2 #[.int .i64 0, .slice none 0 0, .slice none 0 0, .slice none 0 0, .slice none 0 0, .slice none 0 0] 39 ?_; intro j0 hg w3 hbox hb; have j3 := Qaa.mk (hbox); have Fg := Qaa.mk ((by rw [hg]; exact (below_size (bl HB)) : w.heap.size ≤ j0)); have Jk := Qaa.mk ((by rw [hg]; exact (below_size (bl HB)) : w.heap.size ≤ j0)); have z8 := Qaa.mk ((by rw [hg]; exact Nat.ne_of_lt (blk_lt (Ub q8)) : z3 ≠ j0)); have z9 := Qaa.mk ((by rw [hg]; exact Nat.ne_of_gt (blk_lt (Ub q8)) : j0 ≠ z3)); replace Qe := Qaa.mk (Kd.V_below (Kd.V_elderB (V_u Qe.out) j0 (Nat.le_of_eq hg.symm)) hb); replace q8 := Bb q8 hb; replace HB := bs HB hb; clear hb hbox hg; have Di := z8.out; have Dj := z9.out; obtain ⟨Zn, Zo, Zp, Zq, Zr, Zs, Zt, Zu, Zv, Zw, Zx, Zy⟩ := cf6 q8) | ((with_reducible refine gate_dst (N := 3) rfl ?_); refine bx 3 #[.int .i64 0, .slice none 0 0, .slice none 0 0, .slice none 0 0, .slice none 0 0, .slice none 0 0] 39 ?_; intro q3 hg w6 hbox hb; have q7 := Qaa.mk (hbox); have Fh := Qaa.mk ((by rw [hg]; exact (below_size (bl HB)) : w.heap.size ≤ q3)); have Jl := Qaa.mk ((by rw [hg]; exact (below_size (bl HB)) : w.heap.size ≤ q3)); have j5 := Qaa.mk ((by rw [hg]; exact Nat.ne_of_lt (blk_lt (Ub q8)) : z3 ≠ q3)); have Q0 := Qaa.mk ((by rw [hg]; exact Nat.ne_of_gt (blk_lt (Ub q8)) : q3 ≠ z3)); have j6 := Qaa.mk ((by rw [hg]; exact Nat.ne_of_lt (blk_lt (Ub j3)) : j0 ≠ q3)); have Q8 := Qaa.mk ((by rw [hg]; exact Nat.ne_of_gt (blk_lt (Ub j3)) : q3 ≠ j0)); replace Qe := Qaa.mk (Kd.V_below (Kd.V_elderB (V_u Qe.out) q3 (Nat.le_of_eq hg.symm)) hb); replace q8 := Bb q8 hb; replace j3 := Bb j3 hb; replace HB := bs HB hb; clear hb hbox hg; have Dk := Q0.out; have Dl := j5.out; have Dm := Q8.out; have Dn := j6.out; obtain ⟨Zz, J0, J1, J2, J3, J4, J5, J6, J7, J8, J9, Ja⟩ := cf6 q7; obtain ⟨Z5, Z6, Z7, Z8, Z9, Za, Zb, Zc, Zd, Ze, Zf, Zg⟩ := cf6 q8))
 go_loopg [17] k (fun kq v17 w' => ∃ (x17_1 : Int) (j1 : List ByteArray) (Q9 : Value), v17 = .int .i64 x17_1 ∧ Qaa (Qai.l0 kq q0 (q0.length : Int) x17_1 q6 q2 j8 q0 j9 z0 q6 q2 j1 = some (r1, r2, r3, r4, r5, r6)) ∧ Qaa (kq ≤ k) ∧ Qaa (Kd.V Kd.bool 4 w' w.heap.size (fun k_ => (z4 k_ ∨ w.heap.size ≤ k_) ∧ some k_ ≠ (Q9 : Value).ownBlock ∧ k_ ≠ z3 ∧ k_ ≠ j0 ∧ k_ ≠ q3) (.slice z1 q2.length z2) q2) ∧ Qaa (Kd.V Kd.bool 4 w' w.heap.size (fun k_ => (z4 k_ ∨ w.heap.size ≤ k_) ∧ some k_ ≠ (Q9 : Value).ownBlock ∧ k_ ≠ z3 ∧ k_ ≠ j0 ∧ k_ ≠ q3) (.slice z1 q2.length z2) q2) ∧ Qaa (Kd.R Kd.string 9 w' w.heap.size (fun k_ => (w.heap.size ≤ k_)) Q9 j1) ∧ Qaa (w'.heap[z3]? = some (.cells #[.int .i64 q6, (.slice z1 q2.length z2), (.slice Qh j8.length Qi), (.slice Qz q0.length Qj), (.slice Qk j9.length Ql), (.slice Qm z0.length Qn)] 39 (0, 0))) ∧ Qaa (w'.heap[j0]? = some (.cells #[.int .i64 0, (.slice none 0 0), (.slice none 0 0), (.slice none 0 0), (.slice none 0 0), (.slice none 0 0)] 39 (0, 0))) ∧ Qaa (w'.heap[q3]? = some (.cells #[.int .i64 q6, (.slice z1 q2.length z2), (.slice none 0 0), (.slice none 0 0), Q9, (.slice none 0 0)] 39 (0, 0))) ∧ Qaa (Below w.heap.size w w'))
 case atStart => exact ⟨(0), (([] : List ByteArray)), (.slice none 0 0), (by first | rfl | (simp; done) | (simp [*]; done)), H', ⟨Nat.le_refl _⟩, ⟨by apply V_u; exact Kd.V_mono (Kd.V_far (p := ⟨q3, 5, none⟩) (Kd.V_far (p := ⟨q3, 4, none⟩) (Kd.V_far (p := ⟨q3, 3, none⟩) (Kd.V_far (p := ⟨q3, 2, none⟩) (Kd.V_far (p := ⟨q3, 1, none⟩) (Kd.V_far (p := ⟨q3, 0, none⟩) (Kd.V_mono Qe.out (fun k_ hk => (⟨hk, hk.2⟩ : _ ∧ k_ ≠ q3))) (fun _ hk => hk.2) (.int .i64 q6)) (fun _ hk => hk.2) (.slice z1 q2.length z2)) (fun _ hk => hk.2) (.slice none 0 0)) (fun _ hk => hk.2) (.slice none 0 0)) (fun _ hk => hk.2) (.slice none 0 0)) (fun _ hk => hk.2) (.slice none 0 0)) (fun _ hk => ⟨hk.1.1.1.1, ⟨(by simp [Value.ownBlock]), ⟨hk.1.1.1.2, ⟨hk.1.1.2, hk.1.2⟩⟩⟩⟩)⟩, ⟨by apply V_u; exact Kd.V_mono (Kd.V_far (p := ⟨q3, 5, none⟩) (Kd.V_far (p := ⟨q3, 4, none⟩) (Kd.V_far (p := ⟨q3, 3, none⟩) (Kd.V_far (p := ⟨q3, 2, none⟩) (Kd.V_far (p := ⟨q3, 1, none⟩) (Kd.V_far (p := ⟨q3, 0, none⟩) (Kd.V_mono Qe.out (fun k_ hk => (⟨hk, hk.2⟩ : _ ∧ k_ ≠ q3))) (fun _ hk => hk.2) (.int .i64 q6)) (fun _ hk => hk.2) (.slice z1 q2.length z2)) (fun _ hk => hk.2) (.slice none 0 0)) (fun _ hk => hk.2) (.slice none 0 0)) (fun _ hk => hk.2) (.slice none 0 0)) (fun _ hk => hk.2) (.slice none 0 0)) (fun _ hk => ⟨hk.1.1.1.1, ⟨(by simp [Value.ownBlock]), ⟨hk.1.1.1.2, ⟨hk.1.1.2, hk.1.2⟩⟩⟩⟩)⟩, ⟨by first | exact Kd.R_nil _ _ _ _ _ | exact Kd.N_nil _ _ _ _ _ | exact Kd.V_nil _ _ _ _ _ | exact Kd.Q_nil _ _ _ _ _ | exact Kd.S_nil _ _ _ _ _⟩, ⟨by apply blk_u; refine blk_far ?_ j5.out _; apply blk_u; refine blk_far ?_ j5.out _; apply blk_u; refine blk_far ?_ j5.out _; apply blk_u; refine blk_far ?_ j5.out _; apply blk_u; refine blk_far ?_ j5.out _; apply blk_u; refine blk_far ?_ j5.out _; apply blk_u; exact q8.out⟩, ⟨by apply blk_u; refine blk_far ?_ j6.out _; apply blk_u; refine blk_far ?_ j6.out _; apply blk_u; refine blk_far ?_ j6.out _; apply blk_u; refine blk_far ?_ j6.out _; apply blk_u; refine blk_far ?_ j6.out _; apply blk_u; refine blk_far ?_ j6.out _; apply blk_u; exact j3.out⟩, ⟨by apply blk_u; refine blk_put (cs := #[.int .i64 q6, .slice z1 q2.length z2, .slice none 0 0, .slice none 0 0, .slice none 0 0, .slice none 0 0]) ?_ 5 _ rfl; apply blk_u; refine blk_put (cs := #[.int .i64 q6, .slice z1 q2.length z2, .slice none 0 0, .slice none 0 0, .slice none 0 0, .slice none 0 0]) ?_ 4 _ rfl; apply blk_u; refine blk_put (cs := #[.int .i64 q6, .slice z1 q2.length z2, .slice none 0 0, .slice none 0 0, .slice none 0 0, .slice none 0 0]) ?_ 3 _ rfl; apply blk_u; refine blk_put (cs := #[.int .i64 q6, .slice z1 q2.length z2, .slice none 0 0, .slice none 0 0, .slice none 0 0, .slice none 0 0]) ?_ 2 _ rfl; apply blk_u; refine blk_put (cs := #[.int .i64 q6, .slice none 0 0, .slice none 0 0, .slice none 0 0, .slice none 0 0, .slice none 0 0]) ?_ 1 _ rfl; apply blk_u; refine blk_put (cs := #[.int .i64 0, .slice none 0 0, .slice none 0 0, .slice none 0 0, .slice none 0 0, .slice none 0 0]) ?_ 0 _ rfl; apply blk_u; exact q7.out⟩, ⟨bl HB⟩⟩
 case round =>
  clear H'
  try clear c2
  try clear p2
  try clear c4
  try clear c7
  try clear c8
  try clear Z5
  try clear Z6
  try clear Z7
  try clear Z8
  try clear Z9
  try clear Za
  try clear Zn
  try clear Zo
  try clear Zp
  try clear Zq
  try clear Zr
  try clear Zs
  try clear Zz
  try clear J0
  try clear J1
  try clear J2
  try clear J3
  try clear J4
  try clear Zb
  try clear Zc
  try clear Zd
  try clear Ze
  try clear Zf
  try clear Zg
  try clear Zt
  try clear Zu
  try clear Zv
  try clear Zw
  try clear Zx
  try clear Zy
  try clear J5
  try clear J6
  try clear J7
  try clear J8
  try clear J9
  try clear Ja
  obtain ⟨x17_1, j1, Q9, rfl, HA, HK1, q5, q9, q1, q8, j3, q7, HB⟩ := hrel
  cases gk with
  | zero => exact absurd HA.out (by simp [Qai.l0])
  | succ k1 =>
   have H := HA.out
   clear HA
   simp only [Qai.l0] at H
   by_cases c11 : x17_1 < (q0.length : Int)
   ·
    rw [if_pos c11] at H
    have Jm : decide (x17_1 < (q0.length : Int)) = true := decide_eq_true c11
    clear c11
    by_cases c12 : 0 ≤ x17_1
    ·
     rw [if_pos c12] at H
     have Wl : decide (0 ≤ x17_1) = true := decide_eq_true c12
     clear c12
     by_cases c13 : x17_1 < (q0.length : Int)
     ·
      rw [if_pos c13] at H
      have Wm : decide (x17_1 < (q0.length : Int)) = true := decide_eq_true c13
      clear c13
      replace H := Option.bind_eq_some_iff.mp H
      obtain ⟨Zh, Wf, H⟩ := H
      replace H : (if Zh = true then (Qai.l0 k1 q0 (q0.length : Int) (wrap64 (x17_1 + 1)) q6 q2 j8 q0 j9 z0 q6 q2 j1) else (if j1.length < 8796093022208 then (Qai.l0 k1 q0 (q0.length : Int) (wrap64 (x17_1 + 1)) q6 q2 j8 q0 j9 z0 q6 q2 (j1 ++ [rdOf ByteArray.empty q0 x17_1])) else (none))) = some (r1, r2, r3, r4, r5, r6) := H
      have A14 := Qaa.mk Wf
      clear Wf
      by_cases c15 : Zh = true
      ·
       subst c15
       have H1 : (Qai.l0 k1 q0 (q0.length : Int) (wrap64 (x17_1 + 1)) q6 q2 j8 q0 j9 z0 q6 q2 j1) = some (r1, r2, r3, r4, r5, r6) := by rw [if_pos rfl] at H; exact H
       clear H
       have H := H1
       clear H1
       have H' := Qaa.mk H
       clear H
       have p436 : 0 ≤ (x17_1 : Int) := of_decide_eq_true (by first | (with_reducible assumption) | assumption)
       have q436 : x17_1 < (q0.length : Int) := of_decide_eq_true (by first | (with_reducible assumption) | assumption)
       obtain ⟨ad436, e436, Qa⟩ := Kd.at_string Qf.out x17_1 p436 q436
       cases e436
       replace Qa := (HB.out.cell (World.block_lt_of_cell? w _ Qa)).trans Qa
       replace p436 := eq_true p436
       replace q436 := eq_true q436
       have Fi := z8.out
       have Fj := z9.out
       have Fk := j5.out
       have Fl := Q0.out
       obtain ⟨Jr, Js, Jt, Ju, Jv, Jw, Jx, Jy, Jz, Y0, Y1, Y2⟩ := cf6 q8
       go_wp2_with (first | ((with_reducible refine gate_callee (f := 48) rfl ?_); refine gL (some 24) Try.func48 #[.agg #[.int .i64 q6, .slice z1 q2.length z2, .slice Qh j8.length Qi, .slice (some ad436) q0.length Qj, .slice Qk j9.length Ql, .slice Qm z0.length Qn], .int .i64 x17_1] ?_; (with_reducible refine (Qaz.calls q6 _ _ q2 _ _ j8 _ _ q0 _ _ j9 _ _ z0 x17_1 true _ ?side1 ?side2 ?side3 ?side4 ?side5 ?side6 ?side7 ?side8 ?side9 ?side10 A14.out).mono ?_); (case side1 => exact Cu (Kd.V_reads' q5.out).2.2); (case side2 => exact (Kd.V_reads' q5.out).2.1); (case side3 => exact Cb Qr HB); (case side4 => exact Qs.out); (case side5 => exact Cb Qf HB); (case side6 => exact Qt.out); (case side7 => exact Cb Qu HB); (case side8 => exact Qv.out); (case side9 => exact Cb Qw HB); (case side10 => exact Qx.out); rintro e w19 ⟨rfl, hb⟩; refine ⟨_, rfl, ?_⟩; replace q5 := Qaa.mk (Kd.V_below (V_u q5.out) hb); replace q9 := Qaa.mk (Kd.V_below (V_u q9.out) hb); replace q1 := Rb q1 hb; replace q8 := Bb q8 hb; replace j3 := Bb j3 hb; replace q7 := Bb q7 hb; replace HB := bs HB hb; (try clear hb)))
       go_roundg k1
       case measure => have := HK1.out; omega
       case rel => exact ⟨(wrap64 (x17_1 + 1)), (j1), (Q9), (by first | rfl | (simp; done) | (simp [*]; done)), H', ⟨by have := HK1.out; omega⟩, ⟨by apply V_u; exact q5.out⟩, ⟨by apply V_u; exact q9.out⟩, ⟨by apply R_u; exact q1.out⟩, ⟨by apply blk_u; exact q8.out⟩, ⟨by apply blk_u; exact j3.out⟩, ⟨by apply blk_u; exact q7.out⟩, ⟨bl HB⟩⟩
      ·
       replace c15 := Bool.eq_false_iff.mpr c15
       subst c15
       have H1 : (if j1.length < 8796093022208 then (Qai.l0 k1 q0 (q0.length : Int) (wrap64 (x17_1 + 1)) q6 q2 j8 q0 j9 z0 q6 q2 (j1 ++ [rdOf ByteArray.empty q0 x17_1])) else (none)) = some (r1, r2, r3, r4, r5, r6) := by rw [if_neg (show ¬ (false = true) by decide)] at H; exact H
       clear H
       have H := H1
       clear H1
       by_cases c20 : j1.length < 8796093022208
       ·
        rw [if_pos c20] at H
        have LMc20 := Qaa.mk c20
        clear c20
        obtain ⟨y438, hy438⟩ : ∃ y_ : List ByteArray, y_ = (j1 ++ [rdOf ByteArray.empty q0 x17_1]) := ⟨_, rfl⟩
        replace H : (Qai.l0 k1 q0 (q0.length : Int) (wrap64 (x17_1 + 1)) q6 q2 j8 q0 j9 z0 q6 q2 y438) = some (r1, r2, r3, r4, r5, r6) := by first | (rw [hy438]; with_reducible exact H) | (have H2_ := (Option.bind_some _ _).symm.trans H; rw [hy438]; with_reducible exact H2_) | (have H2_ := (Option.bind_some _ _).symm.trans H; with_reducible exact H2_) | with_reducible exact H | (rw [hy438]; exact H) | exact H
        have Ny438 := Qaa.mk hy438
        clear hy438
        have H' := Qaa.mk H
        clear H
        have p436 : 0 ≤ (x17_1 : Int) := of_decide_eq_true (by first | (with_reducible assumption) | assumption)
        have q436 : x17_1 < (q0.length : Int) := of_decide_eq_true (by first | (with_reducible assumption) | assumption)
        obtain ⟨ad436, e436, Qa⟩ := Kd.at_string Qf.out x17_1 p436 q436
        cases e436
        replace Qa := (HB.out.cell (World.block_lt_of_cell? w _ Qa)).trans Qa
        replace p436 := eq_true p436
        replace q436 := eq_true q436
        have Fm := z8.out
        have Fn := z9.out
        have Fo := j5.out
        have Fp := Q0.out
        obtain ⟨Y3, Y4, Y5, Y6, Y7, Y8, Y9, Ya, Yb, Yc, Yd, Ye⟩ := cf6 q8
        go_wp2_with (first | ((with_reducible refine gate_callee (f := 48) rfl ?_); refine gL (some 24) Try.func48 #[.agg #[.int .i64 q6, .slice z1 q2.length z2, .slice Qh j8.length Qi, .slice (some ad436) q0.length Qj, .slice Qk j9.length Ql, .slice Qm z0.length Qn], .int .i64 x17_1] ?_; (with_reducible refine (Qaz.calls q6 _ _ q2 _ _ j8 _ _ q0 _ _ j9 _ _ z0 x17_1 false _ ?side1 ?side2 ?side3 ?side4 ?side5 ?side6 ?side7 ?side8 ?side9 ?side10 A14.out).mono ?_); (case side1 => exact Cu (Kd.V_reads' q5.out).2.2); (case side2 => exact (Kd.V_reads' q5.out).2.1); (case side3 => exact Cb Qr HB); (case side4 => exact Qs.out); (case side5 => exact Cb Qf HB); (case side6 => exact Qt.out); (case side7 => exact Cb Qu HB); (case side8 => exact Qv.out); (case side9 => exact Cb Qw HB); (case side10 => exact Qx.out); rintro e w24 ⟨rfl, hb⟩; refine ⟨_, rfl, ?_⟩; replace q5 := Qaa.mk (Kd.V_below (V_u q5.out) hb); replace q9 := Qaa.mk (Kd.V_below (V_u q9.out) hb); replace q1 := Rb q1 hb; replace q8 := Bb q8 hb; replace j3 := Bb j3 hb; replace q7 := Bb q7 hb; replace HB := bs HB hb; (try clear hb); have Fq := Q8.out; have Fr := j6.out; obtain ⟨Yf, Yg, Yh, Yi, Yj, Yk, Yl, Ym, Yn, Yo, Yp, Yq⟩ := cf6 q7) | ((with_reducible refine gate_builtin (b := .append) (xs := #[.tmp 27, .tmp 29]) rfl ?_); at_builtin; refine Kd.R_append Kd.string (w0 := w) w.heap.size rfl (.tmp 27) (.tmp 29) 37 9 (.string ⟨#[]⟩) 16 rfl Try.underlying37 info9 rfl (by decide) (by omega) Q9 j1 (rdOf ByteArray.empty q0 x17_1) [.string (rdOf ByteArray.empty q0 x17_1)] (fun k_ => (w.heap.size ≤ k_)) (fun _ => False) rfl rfl ?aP (fun _ hk => hk.elim) ?aF ?aO ?aB ?aS ?aL ?_; (case aP => exact rfl); (case aB => exact (bl HB)); (case aF => exact (fun k_ hk => (Nat.le_trans (below_size (bl HB)) hk))); (case aO => exact (R_u q1.out)); (case aS => exact (below_size (bl HB))); (case aL => have := LMc20.out; omega); intro Do w27 ho hb hg hat; rw [← Ny438.out] at ho; have Jn := Qaa.mk (ho); replace q5 := Qaa.mk (Kd.V_afterv (ok := (fun k_ => (z4 k_ ∨ w.heap.size ≤ k_) ∧ k_ ≠ z3 ∧ k_ ≠ j0 ∧ k_ ≠ q3)) (by apply V_u; exact Vm q5.out) hg hat); replace q9 := Qaa.mk (Kd.V_afterv (ok := (fun k_ => (z4 k_ ∨ w.heap.size ≤ k_) ∧ k_ ≠ z3 ∧ k_ ≠ j0 ∧ k_ ≠ q3)) (by apply V_u; exact Vm q9.out) hg hat); replace q8 := Qaa.mk (blk_grown (Ub q8) hg (Kd.R_ne q1.out q8.out (by decide))); replace j3 := Qaa.mk (blk_grown (Ub j3) hg (Kd.R_ne q1.out j3.out (by decide))); replace q7 := Qaa.mk (blk_grown (Ub q7) hg (Kd.R_ne q1.out q7.out (by decide))); replace HB := Qaa.mk (hb); clear q1; clear ho hb hg hat; obtain ⟨Zj, Zk, eo28⟩ := Kd.R_slice Jn.out; subst eo28; obtain ⟨Yr, Ys, Yt, Yu, Yv, Yw, Yx, Yy, Yz, X0, X1, X2⟩ := cf6 q7))
        go_roundg k1
        case measure => have := HK1.out; omega
        case rel => exact ⟨(wrap64 (x17_1 + 1)), (y438), (.slice Zj y438.length Zk), (by first | rfl | (simp; done) | (simp [*]; done)), H', ⟨by have := HK1.out; omega⟩, ⟨by apply V_u; exact Vm (Kd.V_far (p := ⟨q3, 4, none⟩) (Kd.V_mono q5.out (fun k_ hk => (⟨hk, hk.1.2.2.2⟩ : _ ∧ k_ ≠ q3))) (fun _ hk => hk.2) (.slice Zj y438.length Zk))⟩, ⟨by apply V_u; exact Vm (Kd.V_far (p := ⟨q3, 4, none⟩) (Kd.V_mono q9.out (fun k_ hk => (⟨hk, hk.1.2.2.2⟩ : _ ∧ k_ ≠ q3))) (fun _ hk => hk.2) (.slice Zj y438.length Zk))⟩, ⟨by apply R_u; exact Kd.R_mono (Kd.R_far (p := ⟨q3, 4, none⟩) (Kd.R_types Jn.out q7.out (by decide)) (fun _ hk => hk.2) (.slice Zj y438.length Zk)) (fun _ hk => hk.1)⟩, ⟨by apply blk_u; refine blk_far ?_ j5.out _; apply blk_u; exact q8.out⟩, ⟨by apply blk_u; refine blk_far ?_ j6.out _; apply blk_u; exact j3.out⟩, ⟨by apply blk_u; refine blk_put (cs := #[.int .i64 q6, .slice z1 q2.length z2, .slice none 0 0, .slice none 0 0, Q9, .slice none 0 0]) ?_ 4 _ rfl; apply blk_u; exact q7.out⟩, ⟨bl HB⟩⟩
       ·
        rw [if_neg c20] at H
        exact absurd H (by simp)
     ·
      rw [if_neg c13] at H
      exact absurd H (by simp)
    ·
     rw [if_neg c12] at H
     exact absurd H (by simp)
   ·
    rw [if_neg c11] at H
    have Jm : decide (x17_1 < (q0.length : Int)) = false := decide_eq_false c11
    clear c11
    replace H := Option.bind_eq_some_iff.mp H
    obtain ⟨Qy, Wg, H⟩ := H
    replace H : ((Qbd.f Qy).bind fun j7 => (Qai.l1 k1 q0 (q0.length : Int) 0 q6 q2 j8 q0 j9 z0 q6 q2 j7 ([] : List Int))) = some (r1, r2, r3, r4, r5, r6) := H
    have A30 := Qaa.mk Wg
    clear Wg
    replace H := Option.bind_eq_some_iff.mp H
    obtain ⟨j7, Wh, H⟩ := H
    replace H : (Qai.l1 k1 q0 (q0.length : Int) 0 q6 q2 j8 q0 j9 z0 q6 q2 j7 ([] : List Int)) = some (r1, r2, r3, r4, r5, r6) := H
    have A31 := Qaa.mk Wh
    clear Wh
    have H' := Qaa.mk H
    clear H
    have Fs := Q0.out
    have Ft := j5.out
    have Fu := Q8.out
    have Fv := j6.out
    obtain ⟨X3, X4, X5, X6, X7, X8, X9, Xa, Xb, Xc, Xd, Xe⟩ := cf6 q7
    obtain ⟨Qo, Qp, eo35⟩ := Kd.R_slice q1.out
    subst eo35
    go_wp2_with (first | ((with_reducible refine gate_callee (f := 53) rfl ?_); refine gL (some 35) Try.func53 #[.slice Qo j1.length Qp] ?_; (with_reducible refine (Qbg.calls (fun k_ => some k_ = (.slice Qo j1.length Qp : Value).ownBlock) (.slice Qo j1.length Qp) j1 Qy w _ ?side1 ?side2 A30.out).mono ?_); (case side1 => repeat (first | (with_reducible first | exact HB.out | apply below_alloc | apply pw_below_drewN | apply below_drew1 | refine below_set ?_ Jj.out | refine below_set ?_ Jk.out | refine below_set ?_ Jl.out) | exact HB.out)); (case side2 => exact Kd.R_tight rfl q1.out); rintro e w36 ⟨rfl, hy0, hb, hkp⟩; refine ⟨_, rfl, ?_⟩; replace q5 := Qaa.mk (Kd.V_mono (ok' := fun k_ => (z4 k_ ∨ w.heap.size ≤ k_) ∧ some k_ ≠ (.slice Qo j1.length Qp : Value).ownBlock ∧ k_ ≠ z3 ∧ k_ ≠ j0 ∧ k_ ≠ q3) (Kd.V_keptB (q5.out) hkp (fun k_ hk_ hs_ => (hk_.2.1) hs_)) (fun k_ hk_ => ⟨hk_.1.1, hk_.1.2.1, hk_.1.2.2.1, hk_.1.2.2.2.1, hk_.1.2.2.2.2⟩)); replace q9 := Qaa.mk (Kd.V_mono (ok' := fun k_ => (z4 k_ ∨ w.heap.size ≤ k_) ∧ some k_ ≠ (.slice Qo j1.length Qp : Value).ownBlock ∧ k_ ≠ z3 ∧ k_ ≠ j0 ∧ k_ ≠ q3) (Kd.V_keptB (q9.out) hkp (fun k_ hk_ hs_ => (hk_.2.1) hs_)) (fun k_ hk_ => ⟨hk_.1.1, hk_.1.2.1, hk_.1.2.2.1, hk_.1.2.2.2.1, hk_.1.2.2.2.2⟩)); replace q8 := Qaa.mk (blk_kept (blk_u q8.out) hkp (fun hs_ => (fun e_ => (Kd.R_ne q1.out q8.out (by decide)) e_) hs_)); replace j3 := Qaa.mk (blk_kept (blk_u j3.out) hkp (fun hs_ => (fun e_ => (Kd.R_ne q1.out j3.out (by decide)) e_) hs_)); replace q7 := Qaa.mk (blk_kept (blk_u q7.out) hkp (fun hs_ => (fun e_ => (Kd.R_ne q1.out q7.out (by decide)) e_) hs_)); replace q1 := Qaa.mk (Kd.R_reok rfl hy0 (fun k_ e_ => q1.out.1 k_ e_)); replace HB := Qaa.mk (hb); (try clear hb); (try clear hkp); (try clear hy0); obtain ⟨Xf, Xg, Xh, Xi, Xj, Xk, Xl, Xm, Xn, Xo, Xp, Xq⟩ := cf6 q7) | ((with_reducible refine gate_callee (f := 54) rfl ?_); refine gL (some 38) Try.func54 #[.slice Qo j1.length Qp] ?_; (with_reducible refine (Qbd.calls (fun k_ => some k_ = (.slice Qo j1.length Qp : Value).ownBlock) (.slice Qo j1.length Qp) Qy j7 w _ ?side1 ?side2 A31.out).mono ?_); (case side1 => repeat (first | (with_reducible first | exact HB.out | apply below_alloc | apply pw_below_drewN | apply below_drew1 | refine below_set ?_ Jj.out | refine below_set ?_ Jk.out | refine below_set ?_ Jl.out) | exact HB.out)); (case side2 => exact Kd.R_tight rfl q1.out); rintro e w38 ⟨Wi, rfl, ho0, hb, hkp⟩; refine ⟨_, rfl, ?_⟩; have Jo := Qaa.mk (Kd.R_mono (ok' := fun k_ => (w.heap.size ≤ k_)) ho0 (fun k_ hk_ => Or.elim hk_ (fun hs_ => (q1.out.1 k_ (hs_).symm)) (fun hn_ => (Nat.le_trans (below_size (bl HB)) hn_)))); replace q5 := Qaa.mk (Kd.V_mono (ok' := fun k_ => (z4 k_ ∨ w.heap.size ≤ k_) ∧ k_ ≠ z3 ∧ k_ ≠ j0 ∧ k_ ≠ q3 ∧ some k_ ≠ (Wi : Value).ownBlock) (Kd.V_keptB (q5.out) hkp (fun k_ hk_ hs_ => (hk_.2.1) hs_)) (fun k_ hk_ => ⟨hk_.1.1, hk_.1.2.2.1, hk_.1.2.2.2.1, hk_.1.2.2.2.2, fun e_ => Or.elim (ho0.1 k_ e_.symm) (fun hs_ => hk_.2.1 hs_) (fun hn_ => Nat.not_le.2 hk_.2.2 hn_)⟩)); replace q9 := Qaa.mk (Kd.V_mono (ok' := fun k_ => (z4 k_ ∨ w.heap.size ≤ k_) ∧ k_ ≠ z3 ∧ k_ ≠ j0 ∧ k_ ≠ q3 ∧ some k_ ≠ (Wi : Value).ownBlock) (Kd.V_keptB (q9.out) hkp (fun k_ hk_ hs_ => (hk_.2.1) hs_)) (fun k_ hk_ => ⟨hk_.1.1, hk_.1.2.2.1, hk_.1.2.2.2.1, hk_.1.2.2.2.2, fun e_ => Or.elim (ho0.1 k_ e_.symm) (fun hs_ => hk_.2.1 hs_) (fun hn_ => Nat.not_le.2 hk_.2.2 hn_)⟩)); replace q8 := Qaa.mk (blk_kept (blk_u q8.out) hkp (fun hs_ => (fun e_ => (Kd.R_ne q1.out q8.out (by decide)) e_) hs_)); replace j3 := Qaa.mk (blk_kept (blk_u j3.out) hkp (fun hs_ => (fun e_ => (Kd.R_ne q1.out j3.out (by decide)) e_) hs_)); replace q7 := Qaa.mk (blk_kept (blk_u q7.out) hkp (fun hs_ => (fun e_ => (Kd.R_ne q1.out q7.out (by decide)) e_) hs_)); replace HB := Qaa.mk (hb); clear q1; (try clear hb); (try clear hkp); (try clear ho0); obtain ⟨z5, z6, eo39⟩ := Kd.R_slice Jo.out; subst eo39; obtain ⟨Xr, Xs, Xt, Xu, Xv, Xw, Xx, Xy, Xz, W0, W1, W2⟩ := cf6 q7; have Fw := z8.out; have Fx := z9.out; obtain ⟨W3, W4, W5, W6, W7, W8, W9, Wa, Wb, Wc, Wd, We⟩ := cf6 q8))
    go_loopg [43] k1 (fun kq v43 w' => ∃ (x43_2 : Int) (j2 : List Int) (Q2 : Value), v43 = .int .i64 x43_2 ∧ Qaa (Qai.l1 kq q0 (q0.length : Int) x43_2 q6 q2 j8 q0 j9 z0 q6 q2 j7 j2 = some (r1, r2, r3, r4, r5, r6)) ∧ Qaa (kq ≤ k1) ∧ Qaa (Kd.V Kd.bool 4 w' w.heap.size (fun k_ => (z4 k_ ∨ w.heap.size ≤ k_) ∧ some k_ ≠ ((.slice z5 j7.length z6) : Value).ownBlock ∧ some k_ ≠ (Q2 : Value).ownBlock ∧ k_ ≠ z3 ∧ k_ ≠ j0 ∧ k_ ≠ q3) (.slice z1 q2.length z2) q2) ∧ Qaa (Kd.V Kd.bool 4 w' w.heap.size (fun k_ => (z4 k_ ∨ w.heap.size ≤ k_) ∧ some k_ ≠ ((.slice z5 j7.length z6) : Value).ownBlock ∧ some k_ ≠ (Q2 : Value).ownBlock ∧ k_ ≠ z3 ∧ k_ ≠ j0 ∧ k_ ≠ q3) (.slice z1 q2.length z2) q2) ∧ Qaa (Kd.R Kd.string 9 w' w.heap.size (fun k_ => (w.heap.size ≤ k_)) (.slice z5 j7.length z6) j7) ∧ Qaa (Kd.R (Kd.int .i64) 3 w' w.heap.size (fun k_ => (w.heap.size ≤ k_)) Q2 j2) ∧ Qaa (w'.heap[z3]? = some (.cells #[.int .i64 q6, (.slice z1 q2.length z2), (.slice Qh j8.length Qi), (.slice Qz q0.length Qj), (.slice Qk j9.length Ql), (.slice Qm z0.length Qn)] 39 (0, 0))) ∧ Qaa (w'.heap[j0]? = some (.cells #[.int .i64 0, (.slice none 0 0), (.slice none 0 0), (.slice none 0 0), (.slice none 0 0), (.slice none 0 0)] 39 (0, 0))) ∧ Qaa (w'.heap[q3]? = some (.cells #[.int .i64 q6, (.slice z1 q2.length z2), (.slice none 0 0), (.slice none 0 0), (.slice z5 j7.length z6), Q2] 39 (0, 0))) ∧ Qaa (Below w.heap.size w w'))
    case atStart => exact ⟨(0), (([] : List Int)), (.slice none 0 0), (by first | rfl | (simp; done) | (simp [*]; done)), H', ⟨Nat.le_refl _⟩, ⟨by apply V_u; exact Kd.V_mono (Kd.V_far (p := ⟨q3, 4, none⟩) (Kd.V_mono q5.out (fun k_ hk => (⟨hk, hk.2.2.2.1⟩ : _ ∧ k_ ≠ q3))) (fun _ hk => hk.2) (.slice z5 j7.length z6)) (fun _ hk => ⟨hk.1.1, ⟨hk.1.2.2.2.2, ⟨(by simp [Value.ownBlock]), ⟨hk.1.2.1, ⟨hk.1.2.2.1, hk.1.2.2.2.1⟩⟩⟩⟩⟩)⟩, ⟨by apply V_u; exact Kd.V_mono (Kd.V_far (p := ⟨q3, 4, none⟩) (Kd.V_mono q9.out (fun k_ hk => (⟨hk, hk.2.2.2.1⟩ : _ ∧ k_ ≠ q3))) (fun _ hk => hk.2) (.slice z5 j7.length z6)) (fun _ hk => ⟨hk.1.1, ⟨hk.1.2.2.2.2, ⟨(by simp [Value.ownBlock]), ⟨hk.1.2.1, ⟨hk.1.2.2.1, hk.1.2.2.2.1⟩⟩⟩⟩⟩)⟩, ⟨by apply R_u; exact Kd.R_mono (Kd.R_far (p := ⟨q3, 4, none⟩) (Kd.R_types Jo.out q7.out (by decide)) (fun _ hk => hk.2) (.slice z5 j7.length z6)) (fun _ hk => hk.1)⟩, ⟨by first | exact Kd.R_nil _ _ _ _ _ | exact Kd.N_nil _ _ _ _ _ | exact Kd.V_nil _ _ _ _ _ | exact Kd.Q_nil _ _ _ _ _ | exact Kd.S_nil _ _ _ _ _⟩, ⟨by apply blk_u; refine blk_far ?_ j5.out _; apply blk_u; exact q8.out⟩, ⟨by apply blk_u; refine blk_far ?_ j6.out _; apply blk_u; exact j3.out⟩, ⟨by apply blk_u; refine blk_put (cs := #[.int .i64 q6, .slice z1 q2.length z2, .slice none 0 0, .slice none 0 0, .slice Qo j1.length Qp, .slice none 0 0]) ?_ 4 _ rfl; apply blk_u; exact q7.out⟩, ⟨bl HB⟩⟩
    case round =>
     clear H'
     try clear c1
     try clear c2
     try clear p2
     try clear c3
     try clear c4
     try clear p4
     try clear q4
     try clear hx4
     try clear c5
     try clear p6
     try clear c7
     try clear c8
     try clear c11
     try clear Jm
     try clear c12
     try clear Wl
     try clear c13
     try clear Wm
     try clear c15
     try clear c16
     try clear c17
     try clear c20
     try clear c21
     try clear c22
     try clear c25
     try clear c28
     try clear c32
     try clear c33
     try clear c41
     try clear Z5
     try clear Z6
     try clear Z7
     try clear Z8
     try clear Z9
     try clear Za
     try clear Jr
     try clear Js
     try clear Jt
     try clear Ju
     try clear Jv
     try clear Jw
     try clear Y3
     try clear Y4
     try clear Y5
     try clear Y6
     try clear Y7
     try clear Y8
     try clear Yf
     try clear Yg
     try clear Yh
     try clear Yi
     try clear Yj
     try clear Yk
     try clear Yr
     try clear Ys
     try clear Yt
     try clear Yu
     try clear Yv
     try clear Yw
     try clear X3
     try clear X4
     try clear X5
     try clear X6
     try clear X7
     try clear X8
     try clear Xf
     try clear Xg
     try clear Xh
     try clear Xi
     try clear Xj
     try clear Xk
     try clear Xr
     try clear Xs
     try clear Xt
     try clear Xu
     try clear Xv
     try clear Xw
     try clear W3
     try clear W4
     try clear W5
     try clear W6
     try clear W7
     try clear W8
     try clear Zn
     try clear Zo
     try clear Zp
     try clear Zq
     try clear Zr
     try clear Zs
     try clear Zz
     try clear J0
     try clear J1
     try clear J2
     try clear J3
     try clear J4
     try clear Zb
     try clear Zc
     try clear Zd
     try clear Ze
     try clear Zf
     try clear Zg
     try clear Jx
     try clear Jy
     try clear Jz
     try clear Y0
     try clear Y1
     try clear Y2
     try clear Y9
     try clear Ya
     try clear Yb
     try clear Yc
     try clear Yd
     try clear Ye
     try clear Yl
     try clear Ym
     try clear Yn
     try clear Yo
     try clear Yp
     try clear Yq
     try clear Yx
     try clear Yy
     try clear Yz
     try clear X0
     try clear X1
     try clear X2
     try clear X9
     try clear Xa
     try clear Xb
     try clear Xc
     try clear Xd
     try clear Xe
     try clear Xl
     try clear Xm
     try clear Xn
     try clear Xo
     try clear Xp
     try clear Xq
     try clear Xx
     try clear Xy
     try clear Xz
     try clear W0
     try clear W1
     try clear W2
     try clear W9
     try clear Wa
     try clear Wb
     try clear Wc
     try clear Wd
     try clear We
     try clear Zt
     try clear Zu
     try clear Zv
     try clear Zw
     try clear Zx
     try clear Zy
     try clear J5
     try clear J6
     try clear J7
     try clear J8
     try clear J9
     try clear Ja
     try clear Qa
     try clear p2
     try clear p436
     try clear q436
     obtain ⟨x43_2, j2, Q2, rfl, HA, HK2, q5, q9, q1, j4, q8, j3, q7, HB⟩ := hrel
     cases gk with
     | zero => exact absurd HA.out (by simp [Qai.l1])
     | succ k2 =>
      have H := HA.out
      clear HA
      simp only [Qai.l1] at H
      by_cases c43 : x43_2 < (q0.length : Int)
      ·
       rw [if_pos c43] at H
       have Wn : decide (x43_2 < (q0.length : Int)) = true := decide_eq_true c43
       clear c43
       by_cases c44 : 0 ≤ x43_2
       ·
        rw [if_pos c44] at H
        have Fy : decide (0 ≤ x43_2) = true := decide_eq_true c44
        clear c44
        by_cases c45 : x43_2 < (q0.length : Int)
        ·
         rw [if_pos c45] at H
         have Fz : decide (x43_2 < (q0.length : Int)) = true := decide_eq_true c45
         clear c45
         replace H := Option.bind_eq_some_iff.mp H
         obtain ⟨Zi, Wj, H⟩ := H
         replace H : (if Zi = true then (if j2.length < 17592186044416 then (Qai.l1 k2 q0 (q0.length : Int) (wrap64 (x43_2 + 1)) q6 q2 j8 q0 j9 z0 q6 q2 j7 (j2 ++ [0])) else (none)) else ((Qaf.f k2 j7 (rdOf ByteArray.empty q0 x43_2)).bind fun Qq => (if j2.length < 17592186044416 then (Qai.l1 k2 q0 (q0.length : Int) (wrap64 (x43_2 + 1)) q6 q2 j8 q0 j9 z0 q6 q2 j7 (j2 ++ [Qq.1])) else (none)))) = some (r1, r2, r3, r4, r5, r6) := H
         have A46 := Qaa.mk Wj
         clear Wj
         by_cases c47 : Zi = true
         ·
          subst c47
          have H1 : (if j2.length < 17592186044416 then (Qai.l1 k2 q0 (q0.length : Int) (wrap64 (x43_2 + 1)) q6 q2 j8 q0 j9 z0 q6 q2 j7 (j2 ++ [0])) else (none)) = some (r1, r2, r3, r4, r5, r6) := by rw [if_pos rfl] at H; exact H
          clear H
          have H := H1
          clear H1
          by_cases c48 : j2.length < 17592186044416
          ·
           rw [if_pos c48] at H
           have LMc48 := Qaa.mk c48
           clear c48
           obtain ⟨y447, hy447⟩ : ∃ y_ : List Int, y_ = (j2 ++ [0]) := ⟨_, rfl⟩
           replace H : (Qai.l1 k2 q0 (q0.length : Int) (wrap64 (x43_2 + 1)) q6 q2 j8 q0 j9 z0 q6 q2 j7 y447) = some (r1, r2, r3, r4, r5, r6) := by first | (rw [hy447]; with_reducible exact H) | (have H2_ := (Option.bind_some _ _).symm.trans H; rw [hy447]; with_reducible exact H2_) | (have H2_ := (Option.bind_some _ _).symm.trans H; with_reducible exact H2_) | with_reducible exact H | (rw [hy447]; exact H) | exact H
           have Ny447 := Qaa.mk hy447
           clear hy447
           have H' := Qaa.mk H
           clear H
           have p445 : 0 ≤ (x43_2 : Int) := of_decide_eq_true (by first | (with_reducible assumption) | assumption)
           have q445 : x43_2 < (q0.length : Int) := of_decide_eq_true (by first | (with_reducible assumption) | assumption)
           obtain ⟨ad445, e445, Qd⟩ := Kd.at_string Qf.out x43_2 p445 q445
           cases e445
           replace Qd := (HB.out.cell (World.block_lt_of_cell? w _ Qd)).trans Qd
           replace p445 := eq_true p445
           replace q445 := eq_true q445
           have D0 := z8.out
           have D1 := z9.out
           have D2 := j5.out
           have D3 := Q0.out
           obtain ⟨Wp, Wq, Wr, Ws, Wt, Wu, Wv, Ww, Wx, Wy, Wz, V0⟩ := cf6 q8
           go_wp2_with (first | ((with_reducible refine gate_callee (f := 48) rfl ?_); refine gL (some 50) Try.func48 #[.agg #[.int .i64 q6, .slice z1 q2.length z2, .slice Qh j8.length Qi, .slice (some ad445) q0.length Qj, .slice Qk j9.length Ql, .slice Qm z0.length Qn], .int .i64 x43_2] ?_; (with_reducible refine (Qaz.calls q6 _ _ q2 _ _ j8 _ _ q0 _ _ j9 _ _ z0 x43_2 true _ ?side1 ?side2 ?side3 ?side4 ?side5 ?side6 ?side7 ?side8 ?side9 ?side10 A46.out).mono ?_); (case side1 => exact Cu (Kd.V_reads' q5.out).2.2); (case side2 => exact (Kd.V_reads' q5.out).2.1); (case side3 => exact Cb Qr HB); (case side4 => exact Qs.out); (case side5 => exact Cb Qf HB); (case side6 => exact Qt.out); (case side7 => exact Cb Qu HB); (case side8 => exact Qv.out); (case side9 => exact Cb Qw HB); (case side10 => exact Qx.out); rintro e w52 ⟨rfl, hb⟩; refine ⟨_, rfl, ?_⟩; replace q5 := Qaa.mk (Kd.V_below (V_u q5.out) hb); replace q9 := Qaa.mk (Kd.V_below (V_u q9.out) hb); replace q1 := Rb q1 hb; replace j4 := Rb j4 hb; replace q8 := Bb q8 hb; replace j3 := Bb j3 hb; replace q7 := Bb q7 hb; replace HB := bs HB hb; (try clear hb); have D4 := Q8.out; have D5 := j6.out; obtain ⟨V1, V2, V3, V4, V5, V6, V7, V8, V9, Va, Vb, Vc⟩ := cf6 q7) | ((with_reducible refine gate_builtin (b := .append) (xs := #[.tmp 60, .tmp 62]) rfl ?_); at_builtin; refine Kd.R_append (Kd.int .i64) (w0 := w) w.heap.size rfl (.tmp 60) (.tmp 62) 24 3 (.int .i64 0) 8 rfl Try.underlying24 info3 rfl (by decide) (by omega) Q2 j2 0 [.int .i64 0] (fun k_ => (w.heap.size ≤ k_)) (fun _ => False) rfl rfl ?aP (fun _ hk => hk.elim) ?aF ?aO ?aB ?aS ?aL ?_; (case aP => exact rfl); (case aB => exact (bl HB)); (case aF => exact (fun k_ hk => (Nat.le_trans (below_size (bl HB)) hk))); (case aO => exact (R_u j4.out)); (case aS => exact (below_size (bl HB))); (case aL => have := LMc48.out; omega); intro Dp w55 ho hb hg hat; rw [← Ny447.out] at ho; have Jp := Qaa.mk (ho); replace q5 := Qaa.mk (Kd.V_afterv (ok := (fun k_ => (z4 k_ ∨ w.heap.size ≤ k_) ∧ some k_ ≠ (.slice z5 j7.length z6 : Value).ownBlock ∧ k_ ≠ z3 ∧ k_ ≠ j0 ∧ k_ ≠ q3)) (by apply V_u; exact Vm q5.out) hg hat); replace q9 := Qaa.mk (Kd.V_afterv (ok := (fun k_ => (z4 k_ ∨ w.heap.size ≤ k_) ∧ some k_ ≠ (.slice z5 j7.length z6 : Value).ownBlock ∧ k_ ≠ z3 ∧ k_ ≠ j0 ∧ k_ ≠ q3)) (by apply V_u; exact Vm q9.out) hg hat); replace q1 := Qaa.mk (Kd.R_over' (R_u q1.out) (Kd.R_typed (R_u j4.out)) (by decide) hg); replace q8 := Qaa.mk (blk_grown (Ub q8) hg (Kd.R_ne j4.out q8.out (by decide))); replace j3 := Qaa.mk (blk_grown (Ub j3) hg (Kd.R_ne j4.out j3.out (by decide))); replace q7 := Qaa.mk (blk_grown (Ub q7) hg (Kd.R_ne j4.out q7.out (by decide))); replace HB := Qaa.mk (hb); clear j4; clear ho hb hg hat; obtain ⟨Z0, Z1, eo56⟩ := Kd.R_slice Jp.out; subst eo56; obtain ⟨Vd, Ve, Vf, Vg, Vh, Vi, Vj, Vk, Vl, Vn, Vo, Vp⟩ := cf6 q7))
           go_roundg k2
           case measure => have := HK1.out; have := HK2.out; omega
           case rel => exact ⟨(wrap64 (x43_2 + 1)), (y447), (.slice Z0 y447.length Z1), (by first | rfl | (simp; done) | (simp [*]; done)), H', ⟨by have := HK1.out; have := HK2.out; omega⟩, ⟨by apply V_u; exact Vm (Kd.V_far (p := ⟨q3, 5, none⟩) (Kd.V_mono q5.out (fun k_ hk => (⟨hk, hk.1.2.2.2.2⟩ : _ ∧ k_ ≠ q3))) (fun _ hk => hk.2) (.slice Z0 y447.length Z1))⟩, ⟨by apply V_u; exact Vm (Kd.V_far (p := ⟨q3, 5, none⟩) (Kd.V_mono q9.out (fun k_ hk => (⟨hk, hk.1.2.2.2.2⟩ : _ ∧ k_ ≠ q3))) (fun _ hk => hk.2) (.slice Z0 y447.length Z1))⟩, ⟨by apply R_u; exact Kd.R_mono (Kd.R_far (p := ⟨q3, 5, none⟩) (Kd.R_types q1.out q7.out (by decide)) (fun _ hk => hk.2) (.slice Z0 y447.length Z1)) (fun _ hk => hk.1)⟩, ⟨by apply R_u; exact Kd.R_mono (Kd.R_far (p := ⟨q3, 5, none⟩) (Kd.R_types Jp.out q7.out (by decide)) (fun _ hk => hk.2) (.slice Z0 y447.length Z1)) (fun _ hk => hk.1)⟩, ⟨by apply blk_u; refine blk_far ?_ j5.out _; apply blk_u; exact q8.out⟩, ⟨by apply blk_u; refine blk_far ?_ j6.out _; apply blk_u; exact j3.out⟩, ⟨by apply blk_u; refine blk_put (cs := #[.int .i64 q6, .slice z1 q2.length z2, .slice none 0 0, .slice none 0 0, .slice z5 j7.length z6, Q2]) ?_ 5 _ rfl; apply blk_u; exact q7.out⟩, ⟨bl HB⟩⟩
          ·
           rw [if_neg c48] at H
           exact absurd H (by simp)
         ·
          replace c47 := Bool.eq_false_iff.mpr c47
          subst c47
          have H1 : ((Qaf.f k2 j7 (rdOf ByteArray.empty q0 x43_2)).bind fun Qq => (if j2.length < 17592186044416 then (Qai.l1 k2 q0 (q0.length : Int) (wrap64 (x43_2 + 1)) q6 q2 j8 q0 j9 z0 q6 q2 j7 (j2 ++ [Qq.1])) else (none))) = some (r1, r2, r3, r4, r5, r6) := by rw [if_neg (show ¬ (false = true) by decide)] at H; exact H
          clear H
          have H := H1
          clear H1
          replace H := Option.bind_eq_some_iff.mp H
          obtain ⟨⟨Z2, Wo⟩, Wk, H⟩ := H
          replace H : (if j2.length < 17592186044416 then (Qai.l1 k2 q0 (q0.length : Int) (wrap64 (x43_2 + 1)) q6 q2 j8 q0 j9 z0 q6 q2 j7 (j2 ++ [Z2])) else (none)) = some (r1, r2, r3, r4, r5, r6) := H
          have A58 := Qaa.mk Wk
          clear Wk
          by_cases c59 : j2.length < 17592186044416
          ·
           rw [if_pos c59] at H
           have LMc59 := Qaa.mk c59
           clear c59
           obtain ⟨y452, hy452⟩ : ∃ y_ : List Int, y_ = (j2 ++ [Z2]) := ⟨_, rfl⟩
           replace H : (Qai.l1 k2 q0 (q0.length : Int) (wrap64 (x43_2 + 1)) q6 q2 j8 q0 j9 z0 q6 q2 j7 y452) = some (r1, r2, r3, r4, r5, r6) := by first | (rw [hy452]; with_reducible exact H) | (have H2_ := (Option.bind_some _ _).symm.trans H; rw [hy452]; with_reducible exact H2_) | (have H2_ := (Option.bind_some _ _).symm.trans H; with_reducible exact H2_) | with_reducible exact H | (rw [hy452]; exact H) | exact H
           have Ny452 := Qaa.mk hy452
           clear hy452
           have H' := Qaa.mk H
           clear H
           have p445 : 0 ≤ (x43_2 : Int) := of_decide_eq_true (by first | (with_reducible assumption) | assumption)
           have q445 : x43_2 < (q0.length : Int) := of_decide_eq_true (by first | (with_reducible assumption) | assumption)
           obtain ⟨ad445, e445, Qd⟩ := Kd.at_string Qf.out x43_2 p445 q445
           cases e445
           replace Qd := (HB.out.cell (World.block_lt_of_cell? w _ Qd)).trans Qd
           replace p445 := eq_true p445
           replace q445 := eq_true q445
           have D6 := z8.out
           have D7 := z9.out
           have D8 := j5.out
           have D9 := Q0.out
           obtain ⟨Vq, Vr, Vs, Vt, Vu, Vv, Vw, Vx, Vy, Vz, G0, G1⟩ := cf6 q8
           go_wp2_with (first | ((with_reducible refine gate_callee (f := 48) rfl ?_); refine gL (some 50) Try.func48 #[.agg #[.int .i64 q6, .slice z1 q2.length z2, .slice Qh j8.length Qi, .slice (some ad445) q0.length Qj, .slice Qk j9.length Ql, .slice Qm z0.length Qn], .int .i64 x43_2] ?_; (with_reducible refine (Qaz.calls q6 _ _ q2 _ _ j8 _ _ q0 _ _ j9 _ _ z0 x43_2 false _ ?side1 ?side2 ?side3 ?side4 ?side5 ?side6 ?side7 ?side8 ?side9 ?side10 A46.out).mono ?_); (case side1 => exact Cu (Kd.V_reads' q5.out).2.2); (case side2 => exact (Kd.V_reads' q5.out).2.1); (case side3 => exact Cb Qr HB); (case side4 => exact Qs.out); (case side5 => exact Cb Qf HB); (case side6 => exact Qt.out); (case side7 => exact Cb Qu HB); (case side8 => exact Qv.out); (case side9 => exact Cb Qw HB); (case side10 => exact Qx.out); rintro e w63 ⟨rfl, hb⟩; refine ⟨_, rfl, ?_⟩; replace q5 := Qaa.mk (Kd.V_below (V_u q5.out) hb); replace q9 := Qaa.mk (Kd.V_below (V_u q9.out) hb); replace q1 := Rb q1 hb; replace j4 := Rb j4 hb; replace q8 := Bb q8 hb; replace j3 := Bb j3 hb; replace q7 := Bb q7 hb; replace HB := bs HB hb; (try clear hb); have Da := Q8.out; have Db := j6.out; obtain ⟨G2, G3, G4, G5, G6, G7, G8, G9, Ga, Gb, Gc, Gd⟩ := cf6 q7) | ((with_reducible refine gate_callee (f := 55) rfl ?_); refine gL (some 56) Try.func55 #[.slice z5 j7.length z6, .string (rdOf ByteArray.empty q0 x43_2)] ?_; (with_reducible refine (Qaf.calls k2 _ _ j7 (rdOf ByteArray.empty q0 x43_2) Z2 Wo _ ?side1 ?side2 A58.out).mono ?_); (case side1 => exact Cu (Kd.R_reads' q1.out).2.2); (case side2 => exact (Kd.R_reads' q1.out).2.1); rintro e w' ⟨rfl, ⟨nd, rfl⟩⟩; refine ⟨_, rfl, ?_⟩; skip) | ((with_reducible refine gate_builtin (b := .append) (xs := #[.tmp 60, .tmp 62]) rfl ?_); at_builtin; refine Kd.R_append (Kd.int .i64) (w0 := w) w.heap.size rfl (.tmp 60) (.tmp 62) 24 3 (.int .i64 0) 8 rfl Try.underlying24 info3 rfl (by decide) (by omega) Q2 j2 Z2 [.int .i64 Z2] (fun k_ => (w.heap.size ≤ k_)) (fun _ => False) rfl rfl ?aP (fun _ hk => hk.elim) ?aF ?aO ?aB ?aS ?aL ?_; (case aP => exact rfl); (case aB => exact (bl HB)); (case aF => exact (fun k_ hk => (Nat.le_trans (below_size (bl HB)) hk))); (case aO => exact (R_u j4.out)); (case aS => exact (below_size (bl HB))); (case aL => have := LMc59.out; omega); intro Dq w66 ho hb hg hat; rw [← Ny452.out] at ho; have Jq := Qaa.mk (ho); replace q5 := Qaa.mk (Kd.V_afterv (ok := (fun k_ => (z4 k_ ∨ w.heap.size ≤ k_) ∧ some k_ ≠ (.slice z5 j7.length z6 : Value).ownBlock ∧ k_ ≠ z3 ∧ k_ ≠ j0 ∧ k_ ≠ q3)) (by apply V_u; exact Vm q5.out) hg hat); replace q9 := Qaa.mk (Kd.V_afterv (ok := (fun k_ => (z4 k_ ∨ w.heap.size ≤ k_) ∧ some k_ ≠ (.slice z5 j7.length z6 : Value).ownBlock ∧ k_ ≠ z3 ∧ k_ ≠ j0 ∧ k_ ≠ q3)) (by apply V_u; exact Vm q9.out) hg hat); replace q1 := Qaa.mk (Kd.R_over' (R_u q1.out) (Kd.R_typed (R_u j4.out)) (by decide) hg); replace q8 := Qaa.mk (blk_grown (Ub q8) hg (Kd.R_ne j4.out q8.out (by decide))); replace j3 := Qaa.mk (blk_grown (Ub j3) hg (Kd.R_ne j4.out j3.out (by decide))); replace q7 := Qaa.mk (blk_grown (Ub q7) hg (Kd.R_ne j4.out q7.out (by decide))); replace HB := Qaa.mk (hb); clear j4; clear ho hb hg hat; obtain ⟨Z3, Z4, eo67⟩ := Kd.R_slice Jq.out; subst eo67; obtain ⟨Ge, Gf, Gg, Gh, Gi, Gj, Gk, Gl, Gm, Gn, Gp, Gq⟩ := cf6 q7))
           go_roundg k2
           case measure => have := HK1.out; have := HK2.out; omega
           case rel => exact ⟨(wrap64 (x43_2 + 1)), (y452), (.slice Z3 y452.length Z4), (by first | rfl | (simp; done) | (simp [*]; done)), H', ⟨by have := HK1.out; have := HK2.out; omega⟩, ⟨by apply V_u; exact Vm (Kd.V_far (p := ⟨q3, 5, none⟩) (Kd.V_mono q5.out (fun k_ hk => (⟨hk, hk.1.2.2.2.2⟩ : _ ∧ k_ ≠ q3))) (fun _ hk => hk.2) (.slice Z3 y452.length Z4))⟩, ⟨by apply V_u; exact Vm (Kd.V_far (p := ⟨q3, 5, none⟩) (Kd.V_mono q9.out (fun k_ hk => (⟨hk, hk.1.2.2.2.2⟩ : _ ∧ k_ ≠ q3))) (fun _ hk => hk.2) (.slice Z3 y452.length Z4))⟩, ⟨by apply R_u; exact Kd.R_mono (Kd.R_far (p := ⟨q3, 5, none⟩) (Kd.R_types q1.out q7.out (by decide)) (fun _ hk => hk.2) (.slice Z3 y452.length Z4)) (fun _ hk => hk.1)⟩, ⟨by apply R_u; exact Kd.R_mono (Kd.R_far (p := ⟨q3, 5, none⟩) (Kd.R_types Jq.out q7.out (by decide)) (fun _ hk => hk.2) (.slice Z3 y452.length Z4)) (fun _ hk => hk.1)⟩, ⟨by apply blk_u; refine blk_far ?_ j5.out _; apply blk_u; exact q8.out⟩, ⟨by apply blk_u; refine blk_far ?_ j6.out _; apply blk_u; exact j3.out⟩, ⟨by apply blk_u; refine blk_put (cs := #[.int .i64 q6, .slice z1 q2.length z2, .slice none 0 0, .slice none 0 0, .slice z5 j7.length z6, Q2]) ?_ 5 _ rfl; apply blk_u; exact q7.out⟩, ⟨bl HB⟩⟩
          ·
           rw [if_neg c59] at H
           exact absurd H (by simp)
        ·
         rw [if_neg c45] at H
         exact absurd H (by simp)
       ·
        rw [if_neg c44] at H
        exact absurd H (by simp)
      ·
       rw [if_neg c43] at H
       have Wn : decide (x43_2 < (q0.length : Int)) = false := decide_eq_false c43
       clear c43
       simp only [Option.some.injEq, Prod.mk.injEq] at H
       obtain ⟨rfl, rfl, rfl, rfl, rfl, rfl⟩ := H
       have Dc := Q0.out
       have Dd := j5.out
       have De := Q8.out
       have Df := j6.out
       obtain ⟨Gr, Gs, Gt, Gu, Gv, Gw, Gx, Gy, Gz, F0, F1, F2⟩ := cf6 q7
       have Dg := z9.out
       have Dh := z8.out
       obtain ⟨F3, F4, F5, F6, F7, F8, F9, Fa, Fb, Fc, Fd, Fe⟩ := cf6 j3
       obtain ⟨Zl, Zm, eo74⟩ := Kd.R_slice j4.out
       subst eo74
       go_wp2
       refine bodyPost_ret (results_cell_row rfl _ _ j0 39 #[.int .i64 q6, .slice z1 q2.length z2, .slice none 0 0, .slice none 0 0, .slice z5 j7.length z6, .slice Zl j2.length Zm] (0, 0) _ rfl (by apply blk_u; refine blk_put (cs := #[.int .i64 q6, .slice z1 q2.length z2, .slice none 0 0, .slice none 0 0, .slice z5 j7.length z6, .slice none 0 0]) ?_ 5 _ rfl; apply blk_u; refine blk_put (cs := #[.int .i64 q6, .slice z1 q2.length z2, .slice none 0 0, .slice none 0 0, .slice none 0 0, .slice none 0 0]) ?_ 4 _ rfl; apply blk_u; refine blk_put (cs := #[.int .i64 q6, .slice z1 q2.length z2, .slice none 0 0, .slice none 0 0, .slice none 0 0, .slice none 0 0]) ?_ 3 _ rfl; apply blk_u; refine blk_put (cs := #[.int .i64 q6, .slice z1 q2.length z2, .slice none 0 0, .slice none 0 0, .slice none 0 0, .slice none 0 0]) ?_ 2 _ rfl; apply blk_u; refine blk_put (cs := #[.int .i64 q6, .slice none 0 0, .slice none 0 0, .slice none 0 0, .slice none 0 0, .slice none 0 0]) ?_ 1 _ rfl; apply blk_u; refine blk_put (cs := #[.int .i64 0, .slice none 0 0, .slice none 0 0, .slice none 0 0, .slice none 0 0, .slice none 0 0]) ?_ 0 _ rfl; apply blk_u; exact j3.out) Try.underlying39 rfl (by kernel_rfl)) rfl ?_
       exact ⟨_, _, _, _, _, by first | rfl | (simp [errW_none, errW_some] <;> rfl) | (simp [*, errW_none, errW_some] <;> rfl), by apply V_u; exact Kd.V_mono (Kd.V_far (p := ⟨j0, 5, none⟩) (Kd.V_far (p := ⟨j0, 4, none⟩) (Kd.V_far (p := ⟨j0, 3, none⟩) (Kd.V_far (p := ⟨j0, 2, none⟩) (Kd.V_far (p := ⟨j0, 1, none⟩) (Kd.V_far (p := ⟨j0, 0, none⟩) (Kd.V_mono q9.out (fun k_ hk => (⟨hk, hk.2.2.2.2.1⟩ : _ ∧ k_ ≠ j0))) (fun _ hk => hk.2) (.int .i64 q6)) (fun _ hk => hk.2) (.slice z1 q2.length z2)) (fun _ hk => hk.2) (.slice none 0 0)) (fun _ hk => hk.2) (.slice none 0 0)) (fun _ hk => hk.2) (.slice z5 j7.length z6)) (fun _ hk => hk.2) (.slice Zl j2.length Zm)) (fun _ hk => ⟨hk.1.1, ⟨(by simp [Value.ownBlock]), ⟨(by simp [Value.ownBlock]), ⟨hk.1.2.1, hk.1.2.2.1⟩⟩⟩⟩), by first | exact Kd.R_nil _ _ _ _ _ | exact Kd.N_nil _ _ _ _ _ | exact Kd.V_nil _ _ _ _ _ | exact Kd.Q_nil _ _ _ _ _ | exact Kd.S_nil _ _ _ _ _, by first | exact Kd.R_nil _ _ _ _ _ | exact Kd.N_nil _ _ _ _ _ | exact Kd.V_nil _ _ _ _ _ | exact Kd.Q_nil _ _ _ _ _ | exact Kd.S_nil _ _ _ _ _, by apply R_u; exact Kd.R_mono (Kd.R_far (p := ⟨j0, 5, none⟩) (Kd.R_far (p := ⟨j0, 4, none⟩) (Kd.R_far (p := ⟨j0, 3, none⟩) (Kd.R_far (p := ⟨j0, 2, none⟩) (Kd.R_far (p := ⟨j0, 1, none⟩) (Kd.R_far (p := ⟨j0, 0, none⟩) (Kd.R_types q1.out j3.out (by decide)) (fun _ hk => hk.2) (.int .i64 q6)) (fun _ hk => hk.2) (.slice z1 q2.length z2)) (fun _ hk => hk.2) (.slice none 0 0)) (fun _ hk => hk.2) (.slice none 0 0)) (fun _ hk => hk.2) (.slice z5 j7.length z6)) (fun _ hk => hk.2) (.slice Zl j2.length Zm)) (fun _ hk => ⟨hk.1, (by simp [Value.ownBlock])⟩), by apply R_u; exact Kd.R_mono (Kd.R_far (p := ⟨j0, 5, none⟩) (Kd.R_far (p := ⟨j0, 4, none⟩) (Kd.R_far (p := ⟨j0, 3, none⟩) (Kd.R_far (p := ⟨j0, 2, none⟩) (Kd.R_far (p := ⟨j0, 1, none⟩) (Kd.R_far (p := ⟨j0, 0, none⟩) (Kd.R_types j4.out j3.out (by decide)) (fun _ hk => hk.2) (.int .i64 q6)) (fun _ hk => hk.2) (.slice z1 q2.length z2)) (fun _ hk => hk.2) (.slice none 0 0)) (fun _ hk => hk.2) (.slice none 0 0)) (fun _ hk => hk.2) (.slice z5 j7.length z6)) (fun _ hk => hk.2) (.slice Zl j2.length Zm)) (fun _ hk => ⟨hk.1, (by simp [Value.ownBlock])⟩), bl HB⟩
end Go.Proofs.Ytphnmaobpefoiaa.XA
end
section
namespace Go.Proofs.Ytphnmaobpefoiaa.XA
open Go.RowKit Go.Proofs.YtphnmaobpefoiaaXW Go.Proofs.YtphnmaobpefoiaaW.PrintWords Go.Proofs.YtphnmaobpefoiaaW.PrintLast Go.Proofs.YtphnmaobpefoiaaW.PrintMore
attribute [local go_sem] max2_int min2_int max_two min_two max_three min_three max_four min_four sleq
set_option linter.unusedVariables false
set_option linter.unusedSimpArgs false
def Qbs.f (q0 : Int) (q1 : Int) (q2 : ByteArray) : Option (Bool) := some (q0 == 0)
set_option maxHeartbeats 8000000 in
set_option maxRecDepth 100000 in
theorem Qbs.calls (q0 : Int) (q1 : Int) (q2 : ByteArray) (r : Bool) (w : World) (h : Qbs.f q0 q1 q2 = some r) :
  Calls Try.prog 56 #[.agg #[.int .i64 q0, .int .i64 q1, .string q2]] w fun e w' => e = .returned (.bool r) ∧ Below w.heap.size w w' := by
 have hu41 := Try.underlying41
 have HB := Qaa.mk (Below.refl w.heap.size w)
 have H : (some (q0 == 0)) = some r := h
 clear h
 obtain rfl := Option.some.inj H
 go_enter Try.func56, Try.ntmps56
 go_wp2_with (first | ((with_reducible refine gate_dst (N := 1) rfl ?_); refine bx 1 #[.int .i64 q0, .int .i64 q1, .string q2] 41 ?_; intro q3 hg w2 hbox hb; have q4 := Qaa.mk (hbox); have j1 := Qaa.mk ((by rw [hg]; exact (below_size (bl HB)) : w.heap.size ≤ q3)); have j2 := Qaa.mk ((by rw [hg]; exact (below_size (bl HB)) : w.heap.size ≤ q3)); replace HB := bs HB hb; clear hb hbox hg; obtain ⟨q5, q6, q7, q8, q9, j0⟩ := cf3 q4))
 go_ret
 exact ⟨by first | rfl | (simp [errW_none, errW_some] <;> rfl) | (simp [*, errW_none, errW_some] <;> rfl), bl HB⟩
end Go.Proofs.Ytphnmaobpefoiaa.XA
end
section
namespace Go.Proofs.Ytphnmaobpefoiaa.XA
open Go.RowKit Go.Proofs.YtphnmaobpefoiaaXW Go.Proofs.YtphnmaobpefoiaaW.PrintWords Go.Proofs.YtphnmaobpefoiaaW.PrintLast Go.Proofs.YtphnmaobpefoiaaW.PrintMore
attribute [local go_sem] max2_int min2_int max_two min_two max_three min_three max_four min_four sleq
set_option linter.unusedVariables false
set_option linter.unusedSimpArgs false
def Qax.l0 : Nat → Int → List Bool → List (S41) → Int → Int → Int → List Int → List ByteArray → Option (Int × List Bool × List Int × List ByteArray × List ByteArray × List Int)
 | 0, _, _, _, _, _, _, _, _ => none
 | k + 1, x0, x6, x11, x12, x13, z8, z1, z2 => if x13 < x12 then (if 0 ≤ x13 then (if x13 < (x11.length : Int) then ((Qbs.f ((rd_T41 x11 x13).f0) ((rd_T41 x11 x13).f1) ((rd_T41 x11 x13).f2)).bind fun z0 => (if x6.length < 140737488355328 then ((some (x6 ++ [z0] : List Bool)).bind fun y461 => (if x0 = 3 then (if z2.length < 8796093022208 then (Qax.l0 k x0 y461 x11 x12 (wrap64 (x13 + 1)) z8 z1 (z2 ++ [(rd_T41 x11 x13).f2])) else (none)) else (if z1.length < 17592186044416 then (Qax.l0 k x0 y461 x11 x12 (wrap64 (x13 + 1)) z8 (z1 ++ [(rd_T41 x11 x13).f1]) z2) else (none)))) else (none))) else (none)) else (none)) else ((Qay.f k x6 true).bind fun Q5 => (if Q5 = true then (some (z8, x6, z1, z2, ([] : List ByteArray), ([] : List Int))) else (some (z8, ([] : List Bool), z1, z2, ([] : List ByteArray), ([] : List Int)))))
def Qax.f (k : Nat) (a0 : Int) (l1 : List (S41)) : Option (Int × List Bool × List Int × List ByteArray × List ByteArray × List Int) := Qax.l0 k a0 ([] : List Bool) l1 (l1.length : Int) 0 a0 ([] : List Int) ([] : List ByteArray)
set_option maxHeartbeats 8000000 in
set_option maxRecDepth 100000 in
theorem Qax.calls (k : Nat) (a0 : Int) (A1 : Option Addr) (c1 : Nat) (l1 : List (S41)) (r1 : Int) (r2 : List Bool) (r3 : List Int) (r4 : List ByteArray) (r5 : List ByteArray) (r6 : List Int) (w : World) (hr1 : Kd.C k41 w A1 l1.length l1) (hc1 : l1.length ≤ c1) (h : Qax.f k a0 l1 = some (r1, r2, r3, r4, r5, r6)) :
  Calls Try.prog 29 #[.int .i64 a0, .slice A1 l1.length c1] w fun e w' => ∃ v1_ v2_ v3_ v4_ v5_ : Value, e = .returned (.agg #[.int .i64 r1, v1_, v2_, v3_, v4_, v5_]) ∧ Kd.R Kd.bool 4 w' w.heap.size (fun _ => True) v1_ r2 ∧ Kd.R (Kd.int .i64) 3 w' w.heap.size (fun k_ => some k_ ≠ (v5_ : Value).ownBlock) v2_ r3 ∧ Kd.R Kd.string 9 w' w.heap.size (fun k_ => some k_ ≠ (v4_ : Value).ownBlock) v3_ r4 ∧ Kd.R Kd.string 9 w' w.heap.size (fun k_ => some k_ ≠ (v3_ : Value).ownBlock) v4_ r5 ∧ Kd.R (Kd.int .i64) 3 w' w.heap.size (fun k_ => some k_ ≠ (v2_ : Value).ownBlock) v5_ r6 ∧ Below w.heap.size w w' := by
 have hu39 := Try.underlying39
 have hu41 := Try.underlying41
 have Qw := Qaa.mk hr1
 have W1 := Qaa.mk hc1
 clear hr1 hc1
 have HB := Qaa.mk (Below.refl w.heap.size w)
 have H : (Qax.l0 k a0 ([] : List Bool) l1 (l1.length : Int) 0 a0 ([] : List Int) ([] : List ByteArray)) = some (r1, r2, r3, r4, r5, r6) := h
 clear h
 have H' := Qaa.mk H
 clear H
 go_enter Try.func29, Try.ntmps29
 go_wp2_with (first | ((with_reducible refine gate_dst (N := 4) rfl ?_); refine bx 4 #[.int .i64 0, .slice none 0 0, .slice none 0 0, .slice none 0 0, .slice none 0 0, .slice none 0 0] 39 ?_; intro q6 hg w3 hbox hb; have q5 := Qaa.mk (hbox); have Xb := Qaa.mk ((by rw [hg]; exact (below_size (bl HB)) : w.heap.size ≤ q6)); have Xc := Qaa.mk ((by rw [hg]; exact (below_size (bl HB)) : w.heap.size ≤ q6)); replace HB := bs HB hb; clear hb hbox hg) | ((with_reducible refine gate_dst (N := 5) rfl ?_); refine bx 5 #[.int .i64 0, .slice none 0 0, .slice none 0 0, .slice none 0 0, .slice none 0 0, .slice none 0 0] 39 ?_; intro j0 hg w4 hbox hb; have q4 := Qaa.mk (hbox); have Xd := Qaa.mk ((by rw [hg]; exact (below_size (bl HB)) : w.heap.size ≤ j0)); have Xe := Qaa.mk ((by rw [hg]; exact (below_size (bl HB)) : w.heap.size ≤ j0)); have q9 := Qaa.mk ((by rw [hg]; exact Nat.ne_of_lt (blk_lt (Ub q5)) : q6 ≠ j0)); have j9 := Qaa.mk ((by rw [hg]; exact Nat.ne_of_gt (blk_lt (Ub q5)) : j0 ≠ q6)); replace q5 := Bb q5 hb; replace HB := bs HB hb; clear hb hbox hg; have Xv := j9.out; have Xw := q9.out; obtain ⟨Qc, Qd, Qe, Qf, Qg, Qh, Qi, Qj, Qk, Ql, Qm, Qn⟩ := cf6 q4))
 go_loopg [6, 13] k (fun kq v6 v13 w' => ∃ (x6_1 : List Bool) (x13_1 : Int) (q0 : List Int) (q3 : List ByteArray) (j1 : Value) (j2 : Value), v13 = .int .i64 x13_1 ∧ Qaa (Qax.l0 kq a0 x6_1 l1 (l1.length : Int) x13_1 a0 q0 q3 = some (r1, r2, r3, r4, r5, r6)) ∧ Qaa (kq ≤ k) ∧ Qaa (Kd.R Kd.bool 4 w' w.heap.size (fun _ => True) v6 x6_1) ∧ Qaa (Kd.R (Kd.int .i64) 3 w' w.heap.size (fun _ => True) j1 q0) ∧ Qaa (Kd.R Kd.string 9 w' w.heap.size (fun _ => True) j2 q3) ∧ Qaa (w'.heap[q6]? = some (.cells #[.int .i64 0, (.slice none 0 0), (.slice none 0 0), (.slice none 0 0), (.slice none 0 0), (.slice none 0 0)] 39 (0, 0))) ∧ Qaa (w'.heap[j0]? = some (.cells #[.int .i64 a0, (.slice none 0 0), j1, j2, (.slice none 0 0), (.slice none 0 0)] 39 (0, 0))) ∧ Qaa (Below w.heap.size w w'))
 case atStart => exact ⟨(([] : List Bool)), (0), (([] : List Int)), (([] : List ByteArray)), (.slice none 0 0), (.slice none 0 0), (by first | rfl | (simp; done) | (simp [*]; done)), H', ⟨Nat.le_refl _⟩, ⟨by first | exact Kd.R_nil _ _ _ _ _ | exact Kd.N_nil _ _ _ _ _ | exact Kd.V_nil _ _ _ _ _ | exact Kd.Q_nil _ _ _ _ _ | exact Kd.S_nil _ _ _ _ _⟩, ⟨by first | exact Kd.R_nil _ _ _ _ _ | exact Kd.N_nil _ _ _ _ _ | exact Kd.V_nil _ _ _ _ _ | exact Kd.Q_nil _ _ _ _ _ | exact Kd.S_nil _ _ _ _ _⟩, ⟨by first | exact Kd.R_nil _ _ _ _ _ | exact Kd.N_nil _ _ _ _ _ | exact Kd.V_nil _ _ _ _ _ | exact Kd.Q_nil _ _ _ _ _ | exact Kd.S_nil _ _ _ _ _⟩, ⟨by apply blk_u; refine blk_far ?_ q9.out _; apply blk_u; refine blk_far ?_ q9.out _; apply blk_u; refine blk_far ?_ q9.out _; apply blk_u; refine blk_far ?_ q9.out _; apply blk_u; refine blk_far ?_ q9.out _; apply blk_u; refine blk_far ?_ q9.out _; apply blk_u; exact q5.out⟩, ⟨by apply blk_u; refine blk_put (cs := #[.int .i64 a0, .slice none 0 0, .slice none 0 0, .slice none 0 0, .slice none 0 0, .slice none 0 0]) ?_ 5 _ rfl; apply blk_u; refine blk_put (cs := #[.int .i64 a0, .slice none 0 0, .slice none 0 0, .slice none 0 0, .slice none 0 0, .slice none 0 0]) ?_ 4 _ rfl; apply blk_u; refine blk_put (cs := #[.int .i64 a0, .slice none 0 0, .slice none 0 0, .slice none 0 0, .slice none 0 0, .slice none 0 0]) ?_ 3 _ rfl; apply blk_u; refine blk_put (cs := #[.int .i64 a0, .slice none 0 0, .slice none 0 0, .slice none 0 0, .slice none 0 0, .slice none 0 0]) ?_ 2 _ rfl; apply blk_u; refine blk_put (cs := #[.int .i64 a0, .slice none 0 0, .slice none 0 0, .slice none 0 0, .slice none 0 0, .slice none 0 0]) ?_ 1 _ rfl; apply blk_u; refine blk_put (cs := #[.int .i64 0, .slice none 0 0, .slice none 0 0, .slice none 0 0, .slice none 0 0, .slice none 0 0]) ?_ 0 _ rfl; apply blk_u; exact q4.out⟩, ⟨bl HB⟩⟩
 case round =>
  clear H'
  try clear c1
  try clear c2
  try clear p2
  try clear c5
  try clear Qc
  try clear Qd
  try clear Qe
  try clear Qf
  try clear Qg
  try clear Qh
  try clear Qi
  try clear Qj
  try clear Qk
  try clear Ql
  try clear Qm
  try clear Qn
  obtain ⟨x6_1, x13_1, q0, q3, j1, j2, rfl, HA, HK1, q7, q1, q2, q5, q4, HB⟩ := hrel
  cases gk with
  | zero => exact absurd HA.out (by simp [Qax.l0])
  | succ k1 =>
   have H := HA.out
   clear HA
   simp only [Qax.l0] at H
   by_cases c7 : x13_1 < (l1.length : Int)
   ·
    rw [if_pos c7] at H
    have Qx : decide (x13_1 < (l1.length : Int)) = true := decide_eq_true c7
    clear c7
    by_cases c8 : 0 ≤ x13_1
    ·
     rw [if_pos c8] at H
     have Xx : decide (0 ≤ x13_1) = true := decide_eq_true c8
     clear c8
     by_cases c9 : x13_1 < (l1.length : Int)
     ·
      rw [if_pos c9] at H
      have Xy : decide (x13_1 < (l1.length : Int)) = true := decide_eq_true c9
      clear c9
      replace H := Option.bind_eq_some_iff.mp H
      obtain ⟨z0, Qo, H⟩ := H
      replace H : (if x6_1.length < 140737488355328 then ((some (x6_1 ++ [z0] : List Bool)).bind fun y461 => (if a0 = 3 then (if q3.length < 8796093022208 then (Qax.l0 k1 a0 y461 l1 (l1.length : Int) (wrap64 (x13_1 + 1)) a0 q0 (q3 ++ [(rd_T41 l1 x13_1).f2])) else (none)) else (if q0.length < 17592186044416 then (Qax.l0 k1 a0 y461 l1 (l1.length : Int) (wrap64 (x13_1 + 1)) a0 (q0 ++ [(rd_T41 l1 x13_1).f1]) q3) else (none)))) else (none)) = some (r1, r2, r3, r4, r5, r6) := H
      have A10 := Qaa.mk Qo
      clear Qo
      by_cases c11 : x6_1.length < 140737488355328
      ·
       rw [if_pos c11] at H
       have LMc11 := Qaa.mk c11
       clear c11
       obtain ⟨y461, hy461⟩ : ∃ y_ : List Bool, y_ = (x6_1 ++ [z0]) := ⟨_, rfl⟩
       replace H : (if a0 = 3 then (if q3.length < 8796093022208 then (Qax.l0 k1 a0 y461 l1 (l1.length : Int) (wrap64 (x13_1 + 1)) a0 q0 (q3 ++ [(rd_T41 l1 x13_1).f2])) else (none)) else (if q0.length < 17592186044416 then (Qax.l0 k1 a0 y461 l1 (l1.length : Int) (wrap64 (x13_1 + 1)) a0 (q0 ++ [(rd_T41 l1 x13_1).f1]) q3) else (none))) = some (r1, r2, r3, r4, r5, r6) := by first | (rw [hy461]; with_reducible exact H) | (have H2_ := (Option.bind_some _ _).symm.trans H; rw [hy461]; with_reducible exact H2_) | (have H2_ := (Option.bind_some _ _).symm.trans H; with_reducible exact H2_) | with_reducible exact H | (rw [hy461]; exact H) | exact H
       have Ny461 := Qaa.mk hy461
       clear hy461
       by_cases c12 : a0 = 3
       ·
        rw [if_pos c12] at H
        have Qs : (a0 == 3) = true := beq_iff_eq.mpr c12
        have Qt : (a0 != 3) = false := bne_eq_false_iff_eq.mpr c12
        clear c12
        by_cases c13 : q3.length < 8796093022208
        ·
         rw [if_pos c13] at H
         have LMc13 := Qaa.mk c13
         clear c13
         obtain ⟨y464, hy464⟩ : ∃ y_ : List ByteArray, y_ = (q3 ++ [(rd_T41 l1 x13_1).f2]) := ⟨_, rfl⟩
         replace H : (Qax.l0 k1 a0 y461 l1 (l1.length : Int) (wrap64 (x13_1 + 1)) a0 q0 y464) = some (r1, r2, r3, r4, r5, r6) := by first | (rw [hy464]; with_reducible exact H) | (have H2_ := (Option.bind_some _ _).symm.trans H; rw [hy464]; with_reducible exact H2_) | (have H2_ := (Option.bind_some _ _).symm.trans H; with_reducible exact H2_) | with_reducible exact H | (rw [hy464]; exact H) | exact H
         have Ny464 := Qaa.mk hy464
         clear hy464
         have H' := Qaa.mk H
         clear H
         have p458 : 0 ≤ (x13_1 : Int) := of_decide_eq_true (by first | (with_reducible assumption) | assumption)
         have q458 : x13_1 < (l1.length : Int) := of_decide_eq_true (by first | (with_reducible assumption) | assumption)
         obtain ⟨ad458, e458, j4, j5, j6⟩ := at_T41 Qw.out x13_1 p458 q458
         cases e458
         replace j4 := (HB.out.cell (World.block_lt_of_cell? w _ j4)).trans j4
         replace j5 := (HB.out.cell (World.block_lt_of_cell? w _ j5)).trans j5
         replace j6 := (HB.out.cell (World.block_lt_of_cell? w _ j6)).trans j6
         replace p458 := eq_true p458
         replace q458 := eq_true q458
         go_wp2_with (first | ((with_reducible refine gate_dst (N := 8) rfl ?_); refine bx 8 #[.int .i64 0, .int .i64 0, .string (⟨#[]⟩ : ByteArray)] 41 ?_; intro j3 hg w14 hbox hb; have q8 := Qaa.mk (hbox); have Qu := Qaa.mk ((by rw [hg]; exact (below_size (bl HB)) : w.heap.size ≤ j3)); have Qv := Qaa.mk ((by rw [hg]; exact (below_size (bl HB)) : w.heap.size ≤ j3)); have z4 := Qaa.mk ((by rw [hg]; exact Nat.ne_of_lt (blk_lt (Ub q5)) : q6 ≠ j3)); have z5 := Qaa.mk ((by rw [hg]; exact Nat.ne_of_gt (blk_lt (Ub q5)) : j3 ≠ q6)); have z6 := Qaa.mk ((by rw [hg]; exact Nat.ne_of_lt (blk_lt (Ub q4)) : j0 ≠ j3)); have z7 := Qaa.mk ((by rw [hg]; exact Nat.ne_of_gt (blk_lt (Ub q4)) : j3 ≠ j0)); replace q7 := Rb q7 hb; replace q1 := Rb q1 hb; replace q2 := Rb q2 hb; replace q5 := Bb q5 hb; replace q4 := Bb q4 hb; replace HB := bs HB hb; clear hb hbox hg; have Xf := z5.out; have Xg := z4.out; have Xh := z7.out; have Xi := z6.out; obtain ⟨Qz, Z0, Z1, Z2, Z3, Z4⟩ := cf3 q8) | ((with_reducible refine gate_callee (f := 56) rfl ?_); refine gL (some 19) Try.func56 #[.agg #[.int .i64 ((rd_T41 l1 x13_1).f0), .int .i64 ((rd_T41 l1 x13_1).f1), .string ((rd_T41 l1 x13_1).f2)]] ?_; (with_reducible refine (Qbs.calls ((rd_T41 l1 x13_1).f0) ((rd_T41 l1 x13_1).f1) ((rd_T41 l1 x13_1).f2) z0 _ A10.out).mono ?_); rintro e w18 ⟨rfl, hb⟩; refine ⟨_, rfl, ?_⟩; replace q7 := Qaa.mk (Kd.R_below (Rf q7 q8) hb); replace q1 := Qaa.mk (Kd.R_below (Rf q1 q8) hb); replace q2 := Qaa.mk (Kd.R_below (Rf q2 q8) hb); replace q5 := Bb q5 hb; replace q4 := Bb q4 hb; replace q8 := Qaa.mk (blk_below (Uf3 q8) hb); replace HB := bs HB hb; (try clear hb)) | ((with_reducible refine gate_builtin (b := .append) (xs := #[.tmp 17, .tmp 20]) rfl ?_); at_builtin; refine Kd.R_append Kd.bool (w0 := w) w.heap.size rfl (.tmp 17) (.tmp 20) 36 4 (.bool false) 1 rfl Try.underlying36 info4 rfl (by decide) (by omega) u6 x6_1 z0 [.bool z0] (fun _ => True) (fun _ => False) rfl rfl ?aP (fun _ hk => hk.elim) ?aF ?aO ?aB ?aS ?aL ?_; (case aP => exact rfl); (case aB => exact (bl HB)); (case aF => exact (fun _ _ => trivial)); (case aO => exact (R_u q7.out)); (case aS => exact (below_size (bl HB))); (case aL => have := LMc11.out; omega); intro Qy w19 ho hb hg hat; rw [← Ny461.out] at ho; have z3 := Qaa.mk (ho); replace q1 := Qaa.mk (Kd.R_over' (R_u q1.out) (Kd.R_typed (R_u q7.out)) (by decide) hg); replace q2 := Qaa.mk (Kd.R_over' (R_u q2.out) (Kd.R_typed (R_u q7.out)) (by decide) hg); replace q5 := Qaa.mk (blk_grown (Ub q5) hg (Kd.R_ne q7.out q5.out (by decide))); replace q4 := Qaa.mk (blk_grown (Ub q4) hg (Kd.R_ne q7.out q4.out (by decide))); replace q8 := Qaa.mk (blk_grown (Ub q8) hg (Kd.R_ne q7.out q8.out (by decide))); replace HB := Qaa.mk (hb); clear q7; clear ho hb hg hat; have Xj := j9.out; have Xk := q9.out; obtain ⟨Z5, Z6, Z7, Z8, Z9, Za, Zb, Zc, Zd, Ze, Zf, Zg⟩ := cf6 q4; obtain ⟨Zh, Zi, Zj, Zk, Zl, Zm⟩ := cf3 q8) | ((with_reducible refine gate_builtin (b := .append) (xs := #[.tmp 25, .tmp 28]) rfl ?_); at_builtin; refine Kd.R_append Kd.string (w0 := w) w.heap.size rfl (.tmp 25) (.tmp 28) 37 9 (.string ⟨#[]⟩) 16 rfl Try.underlying37 info9 rfl (by decide) (by omega) j2 q3 ((rd_T41 l1 x13_1).f2) [.string ((rd_T41 l1 x13_1).f2)] (fun _ => True) (fun _ => False) rfl rfl ?aP (fun _ hk => hk.elim) ?aF ?aO ?aB ?aS ?aL ?_; (case aP => exact rfl); (case aB => exact (bl HB)); (case aF => exact (fun _ _ => trivial)); (case aO => exact (R_u q2.out)); (case aS => exact (below_size (bl HB))); (case aL => have := LMc13.out; omega); intro Xz w23 ho hb hg hat; rw [← Ny464.out] at ho; have Qa := Qaa.mk (ho); replace q1 := Qaa.mk (Kd.R_over' (R_u q1.out) (Kd.R_typed (R_u q2.out)) (by decide) hg); replace q5 := Qaa.mk (blk_grown (Ub q5) hg (Kd.R_ne q2.out q5.out (by decide))); replace q4 := Qaa.mk (blk_grown (Ub q4) hg (Kd.R_ne q2.out q4.out (by decide))); replace q8 := Qaa.mk (blk_grown (Ub q8) hg (Kd.R_ne q2.out q8.out (by decide))); replace z3 := Qaa.mk (Kd.R_over' (R_u z3.out) (Kd.R_typed (R_u q2.out)) (by decide) hg); replace HB := Qaa.mk (hb); clear q2; clear ho hb hg hat; obtain ⟨Q6, Q7, eo24⟩ := Kd.R_slice Qa.out; subst eo24; obtain ⟨Zn, Zo, Zp, Zq, Zr, Zs, Zt, Zu, Zv, Zw, Zx, Zy⟩ := cf6 q4))
         go_roundg k1
         case measure => have := HK1.out; omega
         case rel => exact ⟨(y461), (wrap64 (x13_1 + 1)), (q0), (y464), (j1), (.slice Q6 y464.length Q7), (by first | rfl | (simp; done) | (simp [*]; done)), H', ⟨by have := HK1.out; omega⟩, ⟨by apply R_u; exact Kd.R_mono (Kd.R_far (p := ⟨j0, 3, none⟩) (Kd.R_types z3.out q4.out (by decide)) (fun _ hk => hk.2) (.slice Q6 y464.length Q7)) (fun _ hk => trivial)⟩, ⟨by apply R_u; exact Kd.R_mono (Kd.R_far (p := ⟨j0, 3, none⟩) (Kd.R_types q1.out q4.out (by decide)) (fun _ hk => hk.2) (.slice Q6 y464.length Q7)) (fun _ hk => trivial)⟩, ⟨by apply R_u; exact Kd.R_mono (Kd.R_far (p := ⟨j0, 3, none⟩) (Kd.R_types Qa.out q4.out (by decide)) (fun _ hk => hk.2) (.slice Q6 y464.length Q7)) (fun _ hk => trivial)⟩, ⟨by apply blk_u; refine blk_far ?_ q9.out _; apply blk_u; exact q5.out⟩, ⟨by apply blk_u; refine blk_put (cs := #[.int .i64 a0, .slice none 0 0, j1, j2, .slice none 0 0, .slice none 0 0]) ?_ 3 _ rfl; apply blk_u; exact q4.out⟩, ⟨bl HB⟩⟩
        ·
         rw [if_neg c13] at H
         exact absurd H (by simp)
       ·
        rw [if_neg c12] at H
        have Qs : (a0 == 3) = false := beq_eq_false_iff_ne.mpr c12
        have Qt : (a0 != 3) = true := bne_iff_ne.mpr c12
        by_cases c26 : q0.length < 17592186044416
        ·
         rw [if_pos c26] at H
         have LMc26 := Qaa.mk c26
         clear c26
         obtain ⟨y467, hy467⟩ : ∃ y_ : List Int, y_ = (q0 ++ [(rd_T41 l1 x13_1).f1]) := ⟨_, rfl⟩
         replace H : (Qax.l0 k1 a0 y461 l1 (l1.length : Int) (wrap64 (x13_1 + 1)) a0 y467 q3) = some (r1, r2, r3, r4, r5, r6) := by first | (rw [hy467]; with_reducible exact H) | (have H2_ := (Option.bind_some _ _).symm.trans H; rw [hy467]; with_reducible exact H2_) | (have H2_ := (Option.bind_some _ _).symm.trans H; with_reducible exact H2_) | with_reducible exact H | (rw [hy467]; exact H) | exact H
         have Ny467 := Qaa.mk hy467
         clear hy467
         have H' := Qaa.mk H
         clear H
         have p458 : 0 ≤ (x13_1 : Int) := of_decide_eq_true (by first | (with_reducible assumption) | assumption)
         have q458 : x13_1 < (l1.length : Int) := of_decide_eq_true (by first | (with_reducible assumption) | assumption)
         obtain ⟨ad458, e458, j4, j5, j6⟩ := at_T41 Qw.out x13_1 p458 q458
         cases e458
         replace j4 := (HB.out.cell (World.block_lt_of_cell? w _ j4)).trans j4
         replace j5 := (HB.out.cell (World.block_lt_of_cell? w _ j5)).trans j5
         replace j6 := (HB.out.cell (World.block_lt_of_cell? w _ j6)).trans j6
         replace p458 := eq_true p458
         replace q458 := eq_true q458
         go_wp2_with (first | ((with_reducible refine gate_dst (N := 8) rfl ?_); refine bx 8 #[.int .i64 0, .int .i64 0, .string (⟨#[]⟩ : ByteArray)] 41 ?_; intro j3 hg w27 hbox hb; have q8 := Qaa.mk (hbox); have Qu := Qaa.mk ((by rw [hg]; exact (below_size (bl HB)) : w.heap.size ≤ j3)); have Qv := Qaa.mk ((by rw [hg]; exact (below_size (bl HB)) : w.heap.size ≤ j3)); have z4 := Qaa.mk ((by rw [hg]; exact Nat.ne_of_lt (blk_lt (Ub q5)) : q6 ≠ j3)); have z5 := Qaa.mk ((by rw [hg]; exact Nat.ne_of_gt (blk_lt (Ub q5)) : j3 ≠ q6)); have z6 := Qaa.mk ((by rw [hg]; exact Nat.ne_of_lt (blk_lt (Ub q4)) : j0 ≠ j3)); have z7 := Qaa.mk ((by rw [hg]; exact Nat.ne_of_gt (blk_lt (Ub q4)) : j3 ≠ j0)); replace q7 := Rb q7 hb; replace q1 := Rb q1 hb; replace q2 := Rb q2 hb; replace q5 := Bb q5 hb; replace q4 := Bb q4 hb; replace HB := bs HB hb; clear hb hbox hg; have Xl := z5.out; have Xm := z4.out; have Xn := z7.out; have Xo := z6.out; obtain ⟨Zz, J0, J1, J2, J3, J4⟩ := cf3 q8) | ((with_reducible refine gate_callee (f := 56) rfl ?_); refine gL (some 19) Try.func56 #[.agg #[.int .i64 ((rd_T41 l1 x13_1).f0), .int .i64 ((rd_T41 l1 x13_1).f1), .string ((rd_T41 l1 x13_1).f2)]] ?_; (with_reducible refine (Qbs.calls ((rd_T41 l1 x13_1).f0) ((rd_T41 l1 x13_1).f1) ((rd_T41 l1 x13_1).f2) z0 _ A10.out).mono ?_); rintro e w31 ⟨rfl, hb⟩; refine ⟨_, rfl, ?_⟩; replace q7 := Qaa.mk (Kd.R_below (Rf q7 q8) hb); replace q1 := Qaa.mk (Kd.R_below (Rf q1 q8) hb); replace q2 := Qaa.mk (Kd.R_below (Rf q2 q8) hb); replace q5 := Bb q5 hb; replace q4 := Bb q4 hb; replace q8 := Qaa.mk (blk_below (Uf3 q8) hb); replace HB := bs HB hb; (try clear hb)) | ((with_reducible refine gate_builtin (b := .append) (xs := #[.tmp 17, .tmp 20]) rfl ?_); at_builtin; refine Kd.R_append Kd.bool (w0 := w) w.heap.size rfl (.tmp 17) (.tmp 20) 36 4 (.bool false) 1 rfl Try.underlying36 info4 rfl (by decide) (by omega) u6 x6_1 z0 [.bool z0] (fun _ => True) (fun _ => False) rfl rfl ?aP (fun _ hk => hk.elim) ?aF ?aO ?aB ?aS ?aL ?_; (case aP => exact rfl); (case aB => exact (bl HB)); (case aF => exact (fun _ _ => trivial)); (case aO => exact (R_u q7.out)); (case aS => exact (below_size (bl HB))); (case aL => have := LMc11.out; omega); intro Qy w32 ho hb hg hat; rw [← Ny461.out] at ho; have z3 := Qaa.mk (ho); replace q1 := Qaa.mk (Kd.R_over' (R_u q1.out) (Kd.R_typed (R_u q7.out)) (by decide) hg); replace q2 := Qaa.mk (Kd.R_over' (R_u q2.out) (Kd.R_typed (R_u q7.out)) (by decide) hg); replace q5 := Qaa.mk (blk_grown (Ub q5) hg (Kd.R_ne q7.out q5.out (by decide))); replace q4 := Qaa.mk (blk_grown (Ub q4) hg (Kd.R_ne q7.out q4.out (by decide))); replace q8 := Qaa.mk (blk_grown (Ub q8) hg (Kd.R_ne q7.out q8.out (by decide))); replace HB := Qaa.mk (hb); clear q7; clear ho hb hg hat; have Xp := j9.out; have Xq := q9.out; obtain ⟨J5, J6, J7, J8, J9, Ja, Jb, Jc, Jd, Je, Jf, Jg⟩ := cf6 q4; obtain ⟨Jh, Ji, Jj, Jk, Jl, Jm⟩ := cf3 q8) | ((with_reducible refine gate_builtin (b := .append) (xs := #[.tmp 32, .tmp 35]) rfl ?_); at_builtin; refine Kd.R_append (Kd.int .i64) (w0 := w) w.heap.size rfl (.tmp 32) (.tmp 35) 24 3 (.int .i64 0) 8 rfl Try.underlying24 info3 rfl (by decide) (by omega) j1 q0 ((rd_T41 l1 x13_1).f1) [.int .i64 ((rd_T41 l1 x13_1).f1)] (fun _ => True) (fun _ => False) rfl rfl ?aP (fun _ hk => hk.elim) ?aF ?aO ?aB ?aS ?aL ?_; (case aP => exact rfl); (case aB => exact (bl HB)); (case aF => exact (fun _ _ => trivial)); (case aO => exact (R_u q1.out)); (case aS => exact (below_size (bl HB))); (case aL => have := LMc26.out; omega); intro W0 w36 ho hb hg hat; rw [← Ny467.out] at ho; have Qb := Qaa.mk (ho); replace q2 := Qaa.mk (Kd.R_over' (R_u q2.out) (Kd.R_typed (R_u q1.out)) (by decide) hg); replace q5 := Qaa.mk (blk_grown (Ub q5) hg (Kd.R_ne q1.out q5.out (by decide))); replace q4 := Qaa.mk (blk_grown (Ub q4) hg (Kd.R_ne q1.out q4.out (by decide))); replace q8 := Qaa.mk (blk_grown (Ub q8) hg (Kd.R_ne q1.out q8.out (by decide))); replace z3 := Qaa.mk (Kd.R_over' (R_u z3.out) (Kd.R_typed (R_u q1.out)) (by decide) hg); replace HB := Qaa.mk (hb); clear q1; clear ho hb hg hat; obtain ⟨Q8, Q9, eo37⟩ := Kd.R_slice Qb.out; subst eo37; obtain ⟨Jn, Jo, Jp, Jq, Jr, Js, Jt, Ju, Jv, Jw, Jx, Jy⟩ := cf6 q4))
         go_roundg k1
         case measure => have := HK1.out; omega
         case rel => exact ⟨(y461), (wrap64 (x13_1 + 1)), (y467), (q3), (.slice Q8 y467.length Q9), (j2), (by first | rfl | (simp; done) | (simp [*]; done)), H', ⟨by have := HK1.out; omega⟩, ⟨by apply R_u; exact Kd.R_mono (Kd.R_far (p := ⟨j0, 2, none⟩) (Kd.R_types z3.out q4.out (by decide)) (fun _ hk => hk.2) (.slice Q8 y467.length Q9)) (fun _ hk => trivial)⟩, ⟨by apply R_u; exact Kd.R_mono (Kd.R_far (p := ⟨j0, 2, none⟩) (Kd.R_types Qb.out q4.out (by decide)) (fun _ hk => hk.2) (.slice Q8 y467.length Q9)) (fun _ hk => trivial)⟩, ⟨by apply R_u; exact Kd.R_mono (Kd.R_far (p := ⟨j0, 2, none⟩) (Kd.R_types q2.out q4.out (by decide)) (fun _ hk => hk.2) (.slice Q8 y467.length Q9)) (fun _ hk => trivial)⟩, ⟨by apply blk_u; refine blk_far ?_ q9.out _; apply blk_u; exact q5.out⟩, ⟨by apply blk_u; refine blk_put (cs := #[.int .i64 a0, .slice none 0 0, j1, j2, .slice none 0 0, .slice none 0 0]) ?_ 2 _ rfl; apply blk_u; exact q4.out⟩, ⟨bl HB⟩⟩
        ·
         rw [if_neg c26] at H
         exact absurd H (by simp)
      ·
       rw [if_neg c11] at H
       exact absurd H (by simp)
     ·
      rw [if_neg c9] at H
      exact absurd H (by simp)
    ·
     rw [if_neg c8] at H
     exact absurd H (by simp)
   ·
    rw [if_neg c7] at H
    have Qx : decide (x13_1 < (l1.length : Int)) = false := decide_eq_false c7
    clear c7
    replace H := Option.bind_eq_some_iff.mp H
    obtain ⟨Q5, Qp, H⟩ := H
    replace H : (if Q5 = true then (some (a0, x6_1, q0, q3, ([] : List ByteArray), ([] : List Int))) else (some (a0, ([] : List Bool), q0, q3, ([] : List ByteArray), ([] : List Int)))) = some (r1, r2, r3, r4, r5, r6) := H
    have A39 := Qaa.mk Qp
    clear Qp
    by_cases c40 : Q5 = true
    ·
     subst c40
     have H1 : (some (a0, x6_1, q0, q3, ([] : List ByteArray), ([] : List Int))) = some (r1, r2, r3, r4, r5, r6) := by rw [if_pos rfl] at H; exact H
     clear H
     have H := H1
     clear H1
     simp only [Option.some.injEq, Prod.mk.injEq] at H
     obtain ⟨rfl, rfl, rfl, rfl, rfl, rfl⟩ := H
     obtain ⟨j7, j8, eo41⟩ := Kd.R_slice q7.out
     subst eo41
     go_wp2_with (first | ((with_reducible refine gate_callee (f := 57) rfl ?_); refine gL (some 40) Try.func57 #[.slice j7 x6_1.length j8, .bool true] ?_; (with_reducible refine (Qay.calls k1 _ _ x6_1 true true _ ?side1 ?side2 A39.out).mono ?_); (case side1 => exact Cu (Kd.R_reads' q7.out).2.2); (case side2 => exact (Kd.R_reads' q7.out).2.1); rintro e w' ⟨rfl, ⟨nd, rfl⟩⟩; refine ⟨_, rfl, ?_⟩; (try (rw [drewN_self wr]; generalize hq_ : World.drewN wr _ = wr; have n0_ : Qaa (Kd.R (Kd.int .i64) 3 wr w.heap.size (fun _ => True) j1 q0) := ⟨by rw [← hq_]; exact (R_u q1.out)⟩; have n1_ : Qaa (Kd.R Kd.string 9 wr w.heap.size (fun _ => True) j2 q3) := ⟨by rw [← hq_]; exact (R_u q2.out)⟩; have n2_ : Qaa (Kd.R Kd.bool 4 wr w.heap.size (fun _ => True) (.slice j7 x6_1.length j8) x6_1) := ⟨by rw [← hq_]; exact (R_u q7.out)⟩; have n3_ : Qaa (wr.heap[q6]? = some (.cells #[.int .i64 0, .slice none 0 0, .slice none 0 0, .slice none 0 0, .slice none 0 0, .slice none 0 0] 39 (0, 0))) := ⟨by rw [← hq_]; exact (blk_u q5.out)⟩; have n4_ : Qaa (wr.heap[j0]? = some (.cells #[.int .i64 a0, .slice none 0 0, j1, j2, .slice none 0 0, .slice none 0 0] 39 (0, 0))) := ⟨by rw [← hq_]; exact (blk_u q4.out)⟩; have n5_ : Qaa (Below w.heap.size w wr) := ⟨by rw [← hq_]; exact (bl HB)⟩; clear q1 q2 q7 q5 q4 HB hq_; have q1 := n0_; have q2 := n1_; have q7 := n2_; have q5 := n3_; have q4 := n4_; have HB := n5_; clear n0_ n1_ n2_ n3_ n4_ n5_)); have Xr := j9.out; have Xs := q9.out; obtain ⟨Jz, Y0, Y1, Y2, Y3, Y4, Y5, Y6, Y7, Y8, Y9, Ya⟩ := cf6 q4; obtain ⟨Yb, Yc, Yd, Ye, Yf, Yg, Yh, Yi, Yj, Yk, Yl, Ym⟩ := cf6 q5; obtain ⟨z9, y8, eo45⟩ := Kd.R_slice q1.out; subst eo45; obtain ⟨y9, Q0, eo46⟩ := Kd.R_slice q2.out; subst eo46))
     refine bodyPost_ret (results_cell_row rfl _ _ q6 39 #[.int .i64 a0, .slice j7 x6_1.length j8, .slice z9 q0.length y8, .slice y9 q3.length Q0, .slice none 0 0, .slice none 0 0] (0, 0) _ rfl (by apply blk_u; refine blk_put (cs := #[.int .i64 a0, .slice j7 x6_1.length j8, .slice z9 q0.length y8, .slice y9 q3.length Q0, .slice none 0 0, .slice none 0 0]) ?_ 5 _ rfl; apply blk_u; refine blk_put (cs := #[.int .i64 a0, .slice j7 x6_1.length j8, .slice z9 q0.length y8, .slice y9 q3.length Q0, .slice none 0 0, .slice none 0 0]) ?_ 4 _ rfl; apply blk_u; refine blk_put (cs := #[.int .i64 a0, .slice j7 x6_1.length j8, .slice z9 q0.length y8, .slice none 0 0, .slice none 0 0, .slice none 0 0]) ?_ 3 _ rfl; apply blk_u; refine blk_put (cs := #[.int .i64 a0, .slice j7 x6_1.length j8, .slice none 0 0, .slice none 0 0, .slice none 0 0, .slice none 0 0]) ?_ 2 _ rfl; apply blk_u; refine blk_put (cs := #[.int .i64 a0, .slice none 0 0, .slice none 0 0, .slice none 0 0, .slice none 0 0, .slice none 0 0]) ?_ 1 _ rfl; apply blk_u; refine blk_put (cs := #[.int .i64 0, .slice none 0 0, .slice none 0 0, .slice none 0 0, .slice none 0 0, .slice none 0 0]) ?_ 0 _ rfl; apply blk_u; refine blk_far ?_ q9.out _; apply blk_u; exact q5.out) Try.underlying39 rfl (by kernel_rfl)) rfl ?_
     exact ⟨_, _, _, _, _, by first | rfl | (simp [errW_none, errW_some] <;> rfl) | (simp [*, errW_none, errW_some] <;> rfl), by apply R_u; exact Kd.R_mono (Kd.R_far (p := ⟨q6, 5, none⟩) (Kd.R_far (p := ⟨q6, 4, none⟩) (Kd.R_far (p := ⟨q6, 3, none⟩) (Kd.R_far (p := ⟨q6, 2, none⟩) (Kd.R_far (p := ⟨q6, 1, none⟩) (Kd.R_far (p := ⟨q6, 0, none⟩) (Kd.R_far (p := ⟨j0, 1, none⟩) (Kd.R_types (Kd.R_types q7.out q4.out (by decide)) q5.out (by decide)) (fun _ hk => hk.1.2) (.slice j7 x6_1.length j8)) (fun _ hk => hk.2) (.int .i64 a0)) (fun _ hk => hk.2) (.slice j7 x6_1.length j8)) (fun _ hk => hk.2) (.slice z9 q0.length y8)) (fun _ hk => hk.2) (.slice y9 q3.length Q0)) (fun _ hk => hk.2) (.slice none 0 0)) (fun _ hk => hk.2) (.slice none 0 0)) (fun _ hk => trivial), by apply R_u; exact Kd.R_mono (Kd.R_far (p := ⟨q6, 5, none⟩) (Kd.R_far (p := ⟨q6, 4, none⟩) (Kd.R_far (p := ⟨q6, 3, none⟩) (Kd.R_far (p := ⟨q6, 2, none⟩) (Kd.R_far (p := ⟨q6, 1, none⟩) (Kd.R_far (p := ⟨q6, 0, none⟩) (Kd.R_far (p := ⟨j0, 1, none⟩) (Kd.R_types (Kd.R_types q1.out q4.out (by decide)) q5.out (by decide)) (fun _ hk => hk.1.2) (.slice j7 x6_1.length j8)) (fun _ hk => hk.2) (.int .i64 a0)) (fun _ hk => hk.2) (.slice j7 x6_1.length j8)) (fun _ hk => hk.2) (.slice z9 q0.length y8)) (fun _ hk => hk.2) (.slice y9 q3.length Q0)) (fun _ hk => hk.2) (.slice none 0 0)) (fun _ hk => hk.2) (.slice none 0 0)) (fun _ hk => (by simp [Value.ownBlock])), by apply R_u; exact Kd.R_mono (Kd.R_far (p := ⟨q6, 5, none⟩) (Kd.R_far (p := ⟨q6, 4, none⟩) (Kd.R_far (p := ⟨q6, 3, none⟩) (Kd.R_far (p := ⟨q6, 2, none⟩) (Kd.R_far (p := ⟨q6, 1, none⟩) (Kd.R_far (p := ⟨q6, 0, none⟩) (Kd.R_far (p := ⟨j0, 1, none⟩) (Kd.R_types (Kd.R_types q2.out q4.out (by decide)) q5.out (by decide)) (fun _ hk => hk.1.2) (.slice j7 x6_1.length j8)) (fun _ hk => hk.2) (.int .i64 a0)) (fun _ hk => hk.2) (.slice j7 x6_1.length j8)) (fun _ hk => hk.2) (.slice z9 q0.length y8)) (fun _ hk => hk.2) (.slice y9 q3.length Q0)) (fun _ hk => hk.2) (.slice none 0 0)) (fun _ hk => hk.2) (.slice none 0 0)) (fun _ hk => (by simp [Value.ownBlock])), by first | exact Kd.R_nil _ _ _ _ _ | exact Kd.N_nil _ _ _ _ _ | exact Kd.V_nil _ _ _ _ _ | exact Kd.Q_nil _ _ _ _ _ | exact Kd.S_nil _ _ _ _ _, by first | exact Kd.R_nil _ _ _ _ _ | exact Kd.N_nil _ _ _ _ _ | exact Kd.V_nil _ _ _ _ _ | exact Kd.Q_nil _ _ _ _ _ | exact Kd.S_nil _ _ _ _ _, bl HB⟩
    ·
     replace c40 := Bool.eq_false_iff.mpr c40
     subst c40
     have H1 : (some (a0, ([] : List Bool), q0, q3, ([] : List ByteArray), ([] : List Int))) = some (r1, r2, r3, r4, r5, r6) := by rw [if_neg (show ¬ (false = true) by decide)] at H; exact H
     clear H
     have H := H1
     clear H1
     simp only [Option.some.injEq, Prod.mk.injEq] at H
     obtain ⟨rfl, rfl, rfl, rfl, rfl, rfl⟩ := H
     obtain ⟨Qq, Qr, eo47⟩ := Kd.R_slice q7.out
     subst eo47
     go_wp2_with (first | ((with_reducible refine gate_callee (f := 57) rfl ?_); refine gL (some 40) Try.func57 #[.slice Qq x6_1.length Qr, .bool true] ?_; (with_reducible refine (Qay.calls k1 _ _ x6_1 true false _ ?side1 ?side2 A39.out).mono ?_); (case side1 => exact Cu (Kd.R_reads' q7.out).2.2); (case side2 => exact (Kd.R_reads' q7.out).2.1); rintro e w' ⟨rfl, ⟨nd, rfl⟩⟩; refine ⟨_, rfl, ?_⟩; (try (rw [drewN_self wr]; generalize hq_ : World.drewN wr _ = wr; have n0_ : Qaa (Kd.R (Kd.int .i64) 3 wr w.heap.size (fun _ => True) j1 q0) := ⟨by rw [← hq_]; exact (R_u q1.out)⟩; have n1_ : Qaa (Kd.R Kd.string 9 wr w.heap.size (fun _ => True) j2 q3) := ⟨by rw [← hq_]; exact (R_u q2.out)⟩; have n2_ : Qaa (Kd.R Kd.bool 4 wr w.heap.size (fun _ => True) (.slice Qq x6_1.length Qr) x6_1) := ⟨by rw [← hq_]; exact (R_u q7.out)⟩; have n3_ : Qaa (wr.heap[q6]? = some (.cells #[.int .i64 0, .slice none 0 0, .slice none 0 0, .slice none 0 0, .slice none 0 0, .slice none 0 0] 39 (0, 0))) := ⟨by rw [← hq_]; exact (blk_u q5.out)⟩; have n4_ : Qaa (wr.heap[j0]? = some (.cells #[.int .i64 a0, .slice none 0 0, j1, j2, .slice none 0 0, .slice none 0 0] 39 (0, 0))) := ⟨by rw [← hq_]; exact (blk_u q4.out)⟩; have n5_ : Qaa (Below w.heap.size w wr) := ⟨by rw [← hq_]; exact (bl HB)⟩; clear q1 q2 q7 q5 q4 HB hq_; have q1 := n0_; have q2 := n1_; have q7 := n2_; have q5 := n3_; have q4 := n4_; have HB := n5_; clear n0_ n1_ n2_ n3_ n4_ n5_)); have Xt := j9.out; have Xu := q9.out; obtain ⟨Yn, Yo, Yp, Yq, Yr, Ys, Yt, Yu, Yv, Yw, Yx, Yy⟩ := cf6 q4; obtain ⟨Yz, X0, X1, X2, X3, X4, X5, X6, X7, X8, X9, Xa⟩ := cf6 q5; obtain ⟨Q1, Q2, eo51⟩ := Kd.R_slice q1.out; subst eo51; obtain ⟨Q3, Q4, eo52⟩ := Kd.R_slice q2.out; subst eo52))
     refine bodyPost_ret (results_cell_row rfl _ _ q6 39 #[.int .i64 a0, .slice none 0 0, .slice Q1 q0.length Q2, .slice Q3 q3.length Q4, .slice none 0 0, .slice none 0 0] (0, 0) _ rfl (by apply blk_u; refine blk_put (cs := #[.int .i64 a0, .slice none 0 0, .slice Q1 q0.length Q2, .slice Q3 q3.length Q4, .slice none 0 0, .slice none 0 0]) ?_ 5 _ rfl; apply blk_u; refine blk_put (cs := #[.int .i64 a0, .slice none 0 0, .slice Q1 q0.length Q2, .slice Q3 q3.length Q4, .slice none 0 0, .slice none 0 0]) ?_ 4 _ rfl; apply blk_u; refine blk_put (cs := #[.int .i64 a0, .slice none 0 0, .slice Q1 q0.length Q2, .slice none 0 0, .slice none 0 0, .slice none 0 0]) ?_ 3 _ rfl; apply blk_u; refine blk_put (cs := #[.int .i64 a0, .slice none 0 0, .slice none 0 0, .slice none 0 0, .slice none 0 0, .slice none 0 0]) ?_ 2 _ rfl; apply blk_u; refine blk_put (cs := #[.int .i64 a0, .slice none 0 0, .slice none 0 0, .slice none 0 0, .slice none 0 0, .slice none 0 0]) ?_ 1 _ rfl; apply blk_u; refine blk_put (cs := #[.int .i64 0, .slice none 0 0, .slice none 0 0, .slice none 0 0, .slice none 0 0, .slice none 0 0]) ?_ 0 _ rfl; apply blk_u; exact q5.out) Try.underlying39 rfl (by kernel_rfl)) rfl ?_
     exact ⟨_, _, _, _, _, by first | rfl | (simp [errW_none, errW_some] <;> rfl) | (simp [*, errW_none, errW_some] <;> rfl), by first | exact Kd.R_nil _ _ _ _ _ | exact Kd.N_nil _ _ _ _ _ | exact Kd.V_nil _ _ _ _ _ | exact Kd.Q_nil _ _ _ _ _ | exact Kd.S_nil _ _ _ _ _, by apply R_u; exact Kd.R_mono (Kd.R_far (p := ⟨q6, 5, none⟩) (Kd.R_far (p := ⟨q6, 4, none⟩) (Kd.R_far (p := ⟨q6, 3, none⟩) (Kd.R_far (p := ⟨q6, 2, none⟩) (Kd.R_far (p := ⟨q6, 1, none⟩) (Kd.R_far (p := ⟨q6, 0, none⟩) (Kd.R_types q1.out q5.out (by decide)) (fun _ hk => hk.2) (.int .i64 a0)) (fun _ hk => hk.2) (.slice none 0 0)) (fun _ hk => hk.2) (.slice Q1 q0.length Q2)) (fun _ hk => hk.2) (.slice Q3 q3.length Q4)) (fun _ hk => hk.2) (.slice none 0 0)) (fun _ hk => hk.2) (.slice none 0 0)) (fun _ hk => (by simp [Value.ownBlock])), by apply R_u; exact Kd.R_mono (Kd.R_far (p := ⟨q6, 5, none⟩) (Kd.R_far (p := ⟨q6, 4, none⟩) (Kd.R_far (p := ⟨q6, 3, none⟩) (Kd.R_far (p := ⟨q6, 2, none⟩) (Kd.R_far (p := ⟨q6, 1, none⟩) (Kd.R_far (p := ⟨q6, 0, none⟩) (Kd.R_types q2.out q5.out (by decide)) (fun _ hk => hk.2) (.int .i64 a0)) (fun _ hk => hk.2) (.slice none 0 0)) (fun _ hk => hk.2) (.slice Q1 q0.length Q2)) (fun _ hk => hk.2) (.slice Q3 q3.length Q4)) (fun _ hk => hk.2) (.slice none 0 0)) (fun _ hk => hk.2) (.slice none 0 0)) (fun _ hk => (by simp [Value.ownBlock])), by first | exact Kd.R_nil _ _ _ _ _ | exact Kd.N_nil _ _ _ _ _ | exact Kd.V_nil _ _ _ _ _ | exact Kd.Q_nil _ _ _ _ _ | exact Kd.S_nil _ _ _ _ _, by first | exact Kd.R_nil _ _ _ _ _ | exact Kd.N_nil _ _ _ _ _ | exact Kd.V_nil _ _ _ _ _ | exact Kd.Q_nil _ _ _ _ _ | exact Kd.S_nil _ _ _ _ _, bl HB⟩
end Go.Proofs.Ytphnmaobpefoiaa.XA
end
section
namespace Go.Proofs.Ytphnmaobpefoiaa.XA
open Go.RowKit Go.Proofs.YtphnmaobpefoiaaXW Go.Proofs.YtphnmaobpefoiaaW.PrintWords Go.Proofs.YtphnmaobpefoiaaW.PrintLast Go.Proofs.YtphnmaobpefoiaaW.PrintMore
attribute [local go_sem] max2_int min2_int max_two min_two max_three min_three max_four min_four sleq
set_option linter.unusedVariables false
set_option linter.unusedSimpArgs false
def Qat.f (q9 : Int) (j2 : List Bool) (q8 : List Int) (q7 : List ByteArray) (q6 : List ByteArray) (q3 : List Int) (a1 : Int) : Option (Int × Int × ByteArray) := (Qaz.f q9 j2 q8 q7 q6 q3 a1).bind fun y9 => (if y9 = true then (some (0, 0, (⟨#[]⟩ : ByteArray))) else (if q9 = 3 then ((Qar.f q9 j2 q8 q7 q6 q3).bind fun z5 => (if z5 = true then (if 0 ≤ a1 then (if a1 < (q3.length : Int) then (if 0 ≤ (rd q3 a1) then (if (rd q3 a1) < (q6.length : Int) then ((Qbi.f (rdOf ByteArray.empty q6 (rd q3 a1))).bind fun j3 => (some (j3.1, j3.2.1, j3.2.2))) else (none)) else (none)) else (none)) else (none)) else (if 0 ≤ a1 then (if a1 < (q7.length : Int) then ((Qbi.f (rdOf ByteArray.empty q7 a1)).bind fun j4 => (some (j4.1, j4.2.1, j4.2.2))) else (none)) else (none)))) else (if 0 ≤ a1 then (if a1 < (q8.length : Int) then (some (q9, rd q8 a1, (⟨#[]⟩ : ByteArray))) else (none)) else (none))))
def Qat.T4 : Bool × List (List Nat × List Nat) := (true, [([], []), ([0], [0]), ([], []), ([2], [2]), ([], []), ([3, 4], [3, 4]), ([5], [5]), ([1, 6], [1, 6]), ([7, 0, 1, 2, 3, 4, 5, 6, 7], [7])])
def Qat.B4 : List Nat := [0, 1, 0, 4, 0, 28, 60, 127, 255]
theorem Qat.tab4 : rtab .any (opsOf Try.f26 4) = Qat.T4 := by kernel_rfl
theorem Qat.bits4 : waitsOk Qat.T4.2 Qat.B4 = true := by kernel_rfl
def Qat.T6 : Bool × List (List Nat × List Nat) := (true, [([], []), ([0], [0]), ([], []), ([2], [2]), ([], []), ([3, 4], [3, 4]), ([5], [5]), ([1, 6], [1, 6]), ([7], [7]), ([8], [8]), ([9, 9, 0, 1, 2, 3, 4, 5, 6, 7, 8, 9], [9])])
def Qat.B6 : List Nat := [0, 1, 0, 4, 0, 28, 60, 127, 255, 511, 1023]
theorem Qat.tab6 : rtab .any (opsOf Try.f26 6) = Qat.T6 := by kernel_rfl
theorem Qat.bits6 : waitsOk Qat.T6.2 Qat.B6 = true := by kernel_rfl
set_option maxHeartbeats 8000000 in
set_option maxRecDepth 100000 in
theorem Qat.calls (q9 : Int) (j5 : Option Addr) (j6 : Nat) (j2 : List Bool) (z2 : Option Addr) (j7 : Nat) (q8 : List Int) (j8 : Option Addr) (j9 : Nat) (q7 : List ByteArray) (z3 : Option Addr) (z0 : Nat) (q6 : List ByteArray) (z4 : Option Addr) (z1 : Nat) (q3 : List Int) (a1 : Int) (r1 : Int) (r2 : Int) (r3 : ByteArray) (w : World) (Qa : Kd.C Kd.bool w j5 j2.length j2) (Qb : j2.length ≤ j6) (Qc : Kd.C (Kd.int .i64) w z2 q8.length q8) (Qd : q8.length ≤ j7) (Qe : Kd.C Kd.string w j8 q7.length q7) (Qf : q7.length ≤ j9) (Qg : Kd.C Kd.string w z3 q6.length q6) (Qh : q6.length ≤ z0) (Qi : Kd.C (Kd.int .i64) w z4 q3.length q3) (Qj : q3.length ≤ z1) (h : Qat.f q9 j2 q8 q7 q6 q3 a1 = some (r1, r2, r3)) :
  Calls Try.prog 26 #[.agg #[.int .i64 q9, .slice j5 j2.length j6, .slice z2 q8.length j7, .slice j8 q7.length j9, .slice z3 q6.length z0, .slice z4 q3.length z1], .int .i64 a1] w fun e w' => e = .returned (.agg #[.int .i64 r1, .int .i64 r2, .string r3]) ∧ Below w.heap.size w w' := by
 have hu39 := Try.underlying39
 have hu41 := Try.underlying41
 have y3 := Qaa.mk Qa
 have y4 := Qaa.mk Qb
 clear Qa Qb
 have z9 := Qaa.mk Qc
 have y5 := Qaa.mk Qd
 clear Qc Qd
 have y0 := Qaa.mk Qe
 have y6 := Qaa.mk Qf
 clear Qe Qf
 have y1 := Qaa.mk Qg
 have y7 := Qaa.mk Qh
 clear Qg Qh
 have y2 := Qaa.mk Qi
 have y8 := Qaa.mk Qj
 clear Qi Qj
 have HB := Qaa.mk (Below.refl w.heap.size w)
 have H : ((Qaz.f q9 j2 q8 q7 q6 q3 a1).bind fun y9 => (if y9 = true then (some (0, 0, (⟨#[]⟩ : ByteArray))) else (if q9 = 3 then ((Qar.f q9 j2 q8 q7 q6 q3).bind fun z5 => (if z5 = true then (if 0 ≤ a1 then (if a1 < (q3.length : Int) then (if 0 ≤ (rd q3 a1) then (if (rd q3 a1) < (q6.length : Int) then ((Qbi.f (rdOf ByteArray.empty q6 (rd q3 a1))).bind fun j3 => (some (j3.1, j3.2.1, j3.2.2))) else (none)) else (none)) else (none)) else (none)) else (if 0 ≤ a1 then (if a1 < (q7.length : Int) then ((Qbi.f (rdOf ByteArray.empty q7 a1)).bind fun j4 => (some (j4.1, j4.2.1, j4.2.2))) else (none)) else (none)))) else (if 0 ≤ a1 then (if a1 < (q8.length : Int) then (some (q9, rd q8 a1, (⟨#[]⟩ : ByteArray))) else (none)) else (none))))) = some (r1, r2, r3) := h
 clear h
 replace H := Option.bind_eq_some_iff.mp H
 obtain ⟨y9, A30, H⟩ := H
 replace H : (if y9 = true then (some (0, 0, (⟨#[]⟩ : ByteArray))) else (if q9 = 3 then ((Qar.f q9 j2 q8 q7 q6 q3).bind fun z5 => (if z5 = true then (if 0 ≤ a1 then (if a1 < (q3.length : Int) then (if 0 ≤ (rd q3 a1) then (if (rd q3 a1) < (q6.length : Int) then ((Qbi.f (rdOf ByteArray.empty q6 (rd q3 a1))).bind fun j3 => (some (j3.1, j3.2.1, j3.2.2))) else (none)) else (none)) else (none)) else (none)) else (if 0 ≤ a1 then (if a1 < (q7.length : Int) then ((Qbi.f (rdOf ByteArray.empty q7 a1)).bind fun j4 => (some (j4.1, j4.2.1, j4.2.2))) else (none)) else (none)))) else (if 0 ≤ a1 then (if a1 < (q8.length : Int) then (some (q9, rd q8 a1, (⟨#[]⟩ : ByteArray))) else (none)) else (none)))) = some (r1, r2, r3) := H
 have A3 := Qaa.mk A30
 clear A30
 by_cases c4 : y9 = true
 ·
  subst c4
  have H1 : (some (0, 0, (⟨#[]⟩ : ByteArray))) = some (r1, r2, r3) := by rw [if_pos rfl] at H; exact H
  clear H
  have H := H1
  clear H1
  simp only [Option.some.injEq, Prod.mk.injEq] at H
  obtain ⟨rfl, rfl, rfl⟩ := H
  go_enter Try.func26, Try.ntmps26
  go_wp2_with (first | ((with_reducible refine gate_dst (N := 2) rfl ?_); refine bx 2 #[.int .i64 q9, .slice j5 j2.length j6, .slice z2 q8.length j7, .slice j8 q7.length j9, .slice z3 q6.length z0, .slice z4 q3.length z1] 39 ?_; intro j0 hg w5 hbox hb; have q2 := Qaa.mk (hbox); have Q3 := Qaa.mk ((by rw [hg]; exact (below_size (bl HB)) : w.heap.size ≤ j0)); have Q4 := Qaa.mk ((by rw [hg]; exact (below_size (bl HB)) : w.heap.size ≤ j0)); replace HB := bs HB hb; clear hb hbox hg) | ((with_reducible refine gate_dst (N := 4) rfl ?_); refine bx 4 #[.int .i64 0, .int .i64 0, .string (⟨#[]⟩ : ByteArray)] 41 ?_; intro q1 hg w6 hbox hb; have q4 := Qaa.mk (hbox); have q5 := Qaa.mk ((by rw [hg]; exact (below_size (bl HB)) : w.heap.size ≤ q1)); have Q5 := Qaa.mk ((by rw [hg]; exact (below_size (bl HB)) : w.heap.size ≤ q1)); have q0 := Qaa.mk ((by rw [hg]; exact Nat.ne_of_lt (blk_lt (Ub q2)) : j0 ≠ q1)); have j1 := Qaa.mk ((by rw [hg]; exact Nat.ne_of_gt (blk_lt (Ub q2)) : q1 ≠ j0)); replace q2 := Bb q2 hb; replace HB := bs HB hb; clear hb hbox hg; have X3 := q0.out; have X4 := j1.out; obtain ⟨Yd, Ye, Yf, Yg, Yh, Yi, Yj, Yk, Yl, Ym, Yn, Yo⟩ := cf6 q2) | ((with_reducible refine gate_callee (f := 48) rfl ?_); refine gL (some 8) Try.func48 #[.agg #[.int .i64 q9, .slice j5 j2.length j6, .slice z2 q8.length j7, .slice j8 q7.length j9, .slice z3 q6.length z0, .slice z4 q3.length z1], .int .i64 a1] ?_; (with_reducible refine (Qaz.calls q9 _ _ j2 _ _ q8 _ _ q7 _ _ q6 _ _ q3 a1 true _ ?side1 ?side2 ?side3 ?side4 ?side5 ?side6 ?side7 ?side8 ?side9 ?side10 A3.out).mono ?_); (case side1 => exact Cb y3 HB); (case side2 => exact y4.out); (case side3 => exact Cb z9 HB); (case side4 => exact y5.out); (case side5 => exact Cb y0 HB); (case side6 => exact y6.out); (case side7 => exact Cb y1 HB); (case side8 => exact y7.out); (case side9 => exact Cb y2 HB); (case side10 => exact y8.out); rintro e w9 ⟨rfl, hb⟩; refine ⟨_, rfl, ?_⟩; replace q2 := Bb q2 hb; replace q4 := Bb q4 hb; replace HB := bs HB hb; (try clear hb); obtain ⟨Qp, Qq, Qr, Qs, Qt, Qu⟩ := cf3 q4))
  refine bodyPost_ret (results_cell_row rfl _ _ q1 41 #[.int .i64 0, .int .i64 0, .string (⟨#[]⟩ : ByteArray)] (0, 0) _ rfl (by apply blk_u; refine blk_put (cs := #[.int .i64 0, .int .i64 0, .string (⟨#[]⟩ : ByteArray)]) ?_ 2 _ rfl; apply blk_u; refine blk_put (cs := #[.int .i64 0, .int .i64 0, .string (⟨#[]⟩ : ByteArray)]) ?_ 1 _ rfl; apply blk_u; refine blk_put (cs := #[.int .i64 0, .int .i64 0, .string (⟨#[]⟩ : ByteArray)]) ?_ 0 _ rfl; apply blk_u; exact q4.out) Try.underlying41 rfl (by kernel_rfl)) rfl ?_
  exact ⟨by first | rfl | (simp [errW_none, errW_some] <;> rfl) | (simp [*, errW_none, errW_some] <;> rfl), bl HB⟩
 ·
  replace c4 := Bool.eq_false_iff.mpr c4
  subst c4
  have H1 : (if q9 = 3 then ((Qar.f q9 j2 q8 q7 q6 q3).bind fun z5 => (if z5 = true then (if 0 ≤ a1 then (if a1 < (q3.length : Int) then (if 0 ≤ (rd q3 a1) then (if (rd q3 a1) < (q6.length : Int) then ((Qbi.f (rdOf ByteArray.empty q6 (rd q3 a1))).bind fun j3 => (some (j3.1, j3.2.1, j3.2.2))) else (none)) else (none)) else (none)) else (none)) else (if 0 ≤ a1 then (if a1 < (q7.length : Int) then ((Qbi.f (rdOf ByteArray.empty q7 a1)).bind fun j4 => (some (j4.1, j4.2.1, j4.2.2))) else (none)) else (none)))) else (if 0 ≤ a1 then (if a1 < (q8.length : Int) then (some (q9, rd q8 a1, (⟨#[]⟩ : ByteArray))) else (none)) else (none))) = some (r1, r2, r3) := by rw [if_neg (show ¬ (false = true) by decide)] at H; exact H
  clear H
  have H := H1
  clear H1
  by_cases c11 : q9 = 3
  ·
   rw [if_pos c11] at H
   have Qn : (q9 == 3) = true := beq_iff_eq.mpr c11
   have Qo : (q9 != 3) = false := bne_eq_false_iff_eq.mpr c11
   clear c11
   replace H := Option.bind_eq_some_iff.mp H
   obtain ⟨z5, Qk, H⟩ := H
   replace H : (if z5 = true then (if 0 ≤ a1 then (if a1 < (q3.length : Int) then (if 0 ≤ (rd q3 a1) then (if (rd q3 a1) < (q6.length : Int) then ((Qbi.f (rdOf ByteArray.empty q6 (rd q3 a1))).bind fun j3 => (some (j3.1, j3.2.1, j3.2.2))) else (none)) else (none)) else (none)) else (none)) else (if 0 ≤ a1 then (if a1 < (q7.length : Int) then ((Qbi.f (rdOf ByteArray.empty q7 a1)).bind fun j4 => (some (j4.1, j4.2.1, j4.2.2))) else (none)) else (none))) = some (r1, r2, r3) := H
   have A12 := Qaa.mk Qk
   clear Qk
   by_cases c13 : z5 = true
   ·
    subst c13
    have H1 : (if 0 ≤ a1 then (if a1 < (q3.length : Int) then (if 0 ≤ (rd q3 a1) then (if (rd q3 a1) < (q6.length : Int) then ((Qbi.f (rdOf ByteArray.empty q6 (rd q3 a1))).bind fun j3 => (some (j3.1, j3.2.1, j3.2.2))) else (none)) else (none)) else (none)) else (none)) = some (r1, r2, r3) := by rw [if_pos rfl] at H; exact H
    clear H
    have H := H1
    clear H1
    by_cases c14 : 0 ≤ a1
    ·
     rw [if_pos c14] at H
     have Yp : decide (0 ≤ a1) = true := decide_eq_true c14
     clear c14
     by_cases c15 : a1 < (q3.length : Int)
     ·
      rw [if_pos c15] at H
      have Yq : decide (a1 < (q3.length : Int)) = true := decide_eq_true c15
      clear c15
      by_cases c16 : 0 ≤ (rd q3 a1)
      ·
       rw [if_pos c16] at H
       have Yr : decide (0 ≤ (rd q3 a1)) = true := decide_eq_true c16
       clear c16
       by_cases c17 : (rd q3 a1) < (q6.length : Int)
       ·
        rw [if_pos c17] at H
        have Ys : decide ((rd q3 a1) < (q6.length : Int)) = true := decide_eq_true c17
        clear c17
        replace H := Option.bind_eq_some_iff.mp H
        obtain ⟨⟨Q1, Q6, Q8⟩, Ql, H⟩ := H
        replace H : (some (Q1, Q6, Q8)) = some (r1, r2, r3) := H
        have A18 := Qaa.mk Ql
        clear Ql
        simp only [Option.some.injEq, Prod.mk.injEq] at H
        obtain ⟨rfl, rfl, rfl⟩ := H
        go_enter Try.func26, Try.ntmps26
        try go_wp2_with (first | ((with_reducible refine gate_dst (N := 2) rfl ?_); refine bx 2 #[.int .i64 q9, .slice j5 j2.length j6, .slice z2 q8.length j7, .slice j8 q7.length j9, .slice z3 q6.length z0, .slice z4 q3.length z1] 39 ?_; intro j0 hg w19 hbox hb; have q2 := Qaa.mk (hbox); have Q3 := Qaa.mk ((by rw [hg]; exact (below_size (bl HB)) : w.heap.size ≤ j0)); have Q4 := Qaa.mk ((by rw [hg]; exact (below_size (bl HB)) : w.heap.size ≤ j0)); replace HB := bs HB hb; clear hb hbox hg) | ((with_reducible refine gate_dst (N := 4) rfl ?_); refine bx 4 #[.int .i64 0, .int .i64 0, .string (⟨#[]⟩ : ByteArray)] 41 ?_; intro q1 hg w20 hbox hb; have q4 := Qaa.mk (hbox); have q5 := Qaa.mk ((by rw [hg]; exact (below_size (bl HB)) : w.heap.size ≤ q1)); have Q5 := Qaa.mk ((by rw [hg]; exact (below_size (bl HB)) : w.heap.size ≤ q1)); have q0 := Qaa.mk ((by rw [hg]; exact Nat.ne_of_lt (blk_lt (Ub q2)) : j0 ≠ q1)); have j1 := Qaa.mk ((by rw [hg]; exact Nat.ne_of_gt (blk_lt (Ub q2)) : q1 ≠ j0)); replace q2 := Bb q2 hb; replace HB := bs HB hb; clear hb hbox hg; have Yt := q0.out; have Yu := j1.out; obtain ⟨Qv, Qw, Qx, Qy, Qz, Z0, Z1, Z2, Z3, Z4, Z5, Z6⟩ := cf6 q2) | ((with_reducible refine gate_callee (f := 48) rfl ?_); refine gL (some 8) Try.func48 #[.agg #[.int .i64 q9, .slice j5 j2.length j6, .slice z2 q8.length j7, .slice j8 q7.length j9, .slice z3 q6.length z0, .slice z4 q3.length z1], .int .i64 a1] ?_; (with_reducible refine (Qaz.calls q9 _ _ j2 _ _ q8 _ _ q7 _ _ q6 _ _ q3 a1 false _ ?side1 ?side2 ?side3 ?side4 ?side5 ?side6 ?side7 ?side8 ?side9 ?side10 A3.out).mono ?_); (case side1 => exact Cb y3 HB); (case side2 => exact y4.out); (case side3 => exact Cb z9 HB); (case side4 => exact y5.out); (case side5 => exact Cb y0 HB); (case side6 => exact y6.out); (case side7 => exact Cb y1 HB); (case side8 => exact y7.out); (case side9 => exact Cb y2 HB); (case side10 => exact y8.out); rintro e w23 ⟨rfl, hb⟩; refine ⟨_, rfl, ?_⟩; replace q2 := Bb q2 hb; replace q4 := Bb q4 hb; replace HB := bs HB hb; (try clear hb); obtain ⟨Z7, Z8, Z9, Za, Zb, Zc, Zd, Ze, Zf, Zg, Zh, Zi⟩ := cf6 q2) | ((with_reducible refine gate_callee (f := 36) rfl ?_); refine gL (some 24) Try.func36 #[.agg #[.int .i64 q9, .slice j5 j2.length j6, .slice z2 q8.length j7, .slice j8 q7.length j9, .slice z3 q6.length z0, .slice z4 q3.length z1]] ?_; (with_reducible refine (Qar.calls q9 _ _ j2 _ _ q8 _ _ q7 _ _ q6 _ _ q3 true _ ?side1 ?side2 ?side3 ?side4 ?side5 ?side6 ?side7 ?side8 ?side9 ?side10 A12.out).mono ?_); (case side1 => exact Cb y3 HB); (case side2 => exact y4.out); (case side3 => exact Cb z9 HB); (case side4 => exact y5.out); (case side5 => exact Cb y0 HB); (case side6 => exact y6.out); (case side7 => exact Cb y1 HB); (case side8 => exact y7.out); (case side9 => exact Cb y2 HB); (case side10 => exact y8.out); rintro e w25 ⟨rfl, hb⟩; refine ⟨_, rfl, ?_⟩; replace q2 := Bb q2 hb; replace q4 := Bb q4 hb; replace HB := bs HB hb; (try clear hb)))
        replace q2 := Qaa.mk (blk_drew q2.out)
        replace q4 := Qaa.mk (blk_drew q4.out)
        replace HB := Qaa.mk (below_drew1 HB.out)
        have p264 : 0 ≤ (a1 : Int) := of_decide_eq_true (by first | (with_reducible assumption) | assumption)
        have q264 : a1 < (q3.length : Int) := of_decide_eq_true (by first | (with_reducible assumption) | assumption)
        obtain ⟨ad264, e264, z6⟩ := Kd.at_int y2.out a1 p264 q264
        have hw264_0 := z6
        cases e264
        replace z6 := (HB.out.cell (World.block_lt_of_cell? w _ z6)).trans z6
        replace p264 := eq_true p264
        replace q264 := eq_true q264
        have p265 : 0 ≤ ((rd q3 a1) : Int) := of_decide_eq_true (by first | (with_reducible assumption) | assumption)
        have q265 : (rd q3 a1) < (q6.length : Int) := of_decide_eq_true (by first | (with_reducible assumption) | assumption)
        obtain ⟨ad265, e265, z7⟩ := Kd.at_string y1.out (rd q3 a1) p265 q265
        have hw265_0 := z7
        cases e265
        replace z7 := (HB.out.cell (World.block_lt_of_cell? w _ z7)).trans z7
        replace p265 := eq_true p265
        replace q265 := eq_true q265
        refine start_ (n := 11) (S := fun w' => w'.cell? ⟨j0, 0, none⟩ = some (.int .i64 q9) ∧ w'.cell? ⟨j0, 1, none⟩ = some (.slice j5 j2.length j6) ∧ w'.cell? ⟨j0, 2, none⟩ = some (.slice z2 q8.length j7) ∧ w'.cell? ⟨j0, 3, none⟩ = some (.slice j8 q7.length j9) ∧ w'.cell? ⟨j0, 4, none⟩ = some (.slice (some ad265) q6.length z0) ∧ w'.cell? ⟨j0, 5, none⟩ = some (.slice (some ad264) q3.length z1) ∧ w'.cell? (ad264.add (a1).toNat) = some (.int .i64 (rd q3 a1)) ∧ w'.cell? (ad265.add ((rd q3 a1)).toNat) = some (.string (rdOf ByteArray.empty q6 (rd q3 a1)))) (ds := []) #[false, false, false, false, false, false, false, false, false, false, false] (by kernel_rfl) rfl rfl ⟨(blk_cell q2.out 0).trans rfl, (blk_cell q2.out 1).trans rfl, (blk_cell q2.out 2).trans rfl, (blk_cell q2.out 3).trans rfl, (blk_cell q2.out 4).trans rfl, (blk_cell q2.out 5).trans rfl, ((HB.out.cell (World.block_lt_of_cell? w _ hw264_0)).trans hw264_0), ((HB.out.cell (World.block_lt_of_cell? w _ hw265_0)).trans hw265_0)⟩ (fun hHeld => ?_); refine with_tabW Qat.tab6 Qat.bits6 (fun HT_ HW_ => ?_)
        generalize w25.drew = w26 at q2 q4 HB z6 z7 hHeld ⊢
        refine pure_ (i := 0) (N := some 25) (v := ?_) (a' := ?_) #[true, false, false, false, false, false, false, false, false, false, false] rfl rfl (any_of HT_.out (by kernel_rfl)) (fun _ _ _ h => h) (Or.inl ⟨by rfl, ?_⟩) ?_ ?_
        rotate_left
        ·
         intro w'
         go_simp
         with_reducible rfl
        rotate_left
        ·
         simp only [Act.put, List.setIfInBounds_toArray, List.set_cons_zero, List.set_cons_succ, i64_w, i32_w]
         rfl
        refine pure_ (i := 2) (N := some 27) (v := ?_) (a' := ?_) #[true, false, true, false, false, false, false, false, false, false, false] rfl rfl (any_of HT_.out (by kernel_rfl)) (fun _ _ _ h => h) (Or.inl ⟨by rfl, ?_⟩) ?_ ?_
        rotate_left
        ·
         intro w'
         go_simp
         with_reducible rfl
        rotate_left
        ·
         simp only [Act.put, List.setIfInBounds_toArray, List.set_cons_zero, List.set_cons_succ, i64_w, i32_w]
         rfl
        refine pure_ (i := 4) (N := some 29) (v := ?_) (a' := ?_) #[true, false, true, false, true, false, false, false, false, false, false] rfl rfl (any_of HT_.out (by kernel_rfl)) (fun _ _ _ h => h) (Or.inl ⟨by rfl, ?_⟩) ?_ ?_
        rotate_left
        ·
         intro w'
         go_simp
         with_reducible rfl
        rotate_left
        ·
         simp only [Act.put, List.setIfInBounds_toArray, List.set_cons_zero, List.set_cons_succ, i64_w, i32_w]
         rfl
        refine take_ (i := 1) (N := some 26) (v := ?_) (a' := ?_) #[true, true, true, false, true, false, false, false, false, false, false] rfl rfl (take_ofW HT_.out HW_.out (by kernel_rfl)) (fun _ _ _ h => h) (Or.inl ⟨by rfl, ?_⟩) hHeld ?_ ?_
        rotate_left
        ·
         rintro w' ⟨s0, s1, s2, s3, s4, s5, s6, s7⟩
         go_simp
         with_reducible rfl
        rotate_left
        ·
         simp only [Act.put, List.setIfInBounds_toArray, List.set_cons_zero, List.set_cons_succ, i64_w, i32_w]
         rfl
        refine take_ (i := 3) (N := some 28) (v := ?_) (a' := ?_) #[true, true, true, true, true, false, false, false, false, false, false] rfl rfl (take_ofW HT_.out HW_.out (by kernel_rfl)) (fun _ _ _ h => h) (Or.inl ⟨by rfl, ?_⟩) hHeld ?_ ?_
        rotate_left
        ·
         rintro w' ⟨s0, s1, s2, s3, s4, s5, s6, s7⟩
         go_simp
         with_reducible rfl
        rotate_left
        ·
         simp only [Act.put, List.setIfInBounds_toArray, List.set_cons_zero, List.set_cons_succ, i64_w, i32_w]
         rfl
        refine pure_ (i := 5) (N := some 30) (v := ?_) (a' := ?_) #[true, true, true, true, true, true, false, false, false, false, false] rfl rfl (any_of HT_.out (by kernel_rfl)) (fun _ _ _ h => h) (Or.inl ⟨by rfl, ?_⟩) ?_ ?_
        rotate_left
        ·
         intro w'
         go_simp
         with_reducible rfl
        rotate_left
        ·
         simp only [Act.put, List.setIfInBounds_toArray, List.set_cons_zero, List.set_cons_succ, i64_w, i32_w]
         rfl
        refine take_ (i := 6) (N := some 31) (v := ?_) (a' := ?_) #[true, true, true, true, true, true, true, false, false, false, false] rfl rfl (take_ofW HT_.out HW_.out (by kernel_rfl)) (fun _ _ _ h => h) (Or.inl ⟨by rfl, ?_⟩) hHeld ?_ ?_
        rotate_left
        ·
         rintro w' ⟨s0, s1, s2, s3, s4, s5, s6, s7⟩
         go_simp
         with_reducible rfl
        rotate_left
        ·
         simp only [Act.put, List.setIfInBounds_toArray, List.set_cons_zero, List.set_cons_succ, i64_w, i32_w]
         rfl
        refine pure_ (i := 7) (N := some 32) (v := ?_) (a' := ?_) #[true, true, true, true, true, true, true, true, false, false, false] rfl rfl (any_of HT_.out (by kernel_rfl)) (fun _ _ _ h => h) (Or.inl ⟨by rfl, ?_⟩) ?_ ?_
        rotate_left
        ·
         intro w'
         go_simp
         with_reducible rfl
        rotate_left
        ·
         simp only [Act.put, List.setIfInBounds_toArray, List.set_cons_zero, List.set_cons_succ, i64_w, i32_w]
         rfl
        refine take_ (i := 8) (N := some 33) (v := ?_) (a' := ?_) #[true, true, true, true, true, true, true, true, true, false, false] rfl rfl (take_ofW HT_.out HW_.out (by kernel_rfl)) (fun _ _ _ h => h) (Or.inl ⟨by rfl, ?_⟩) hHeld ?_ ?_
        rotate_left
        ·
         rintro w' ⟨s0, s1, s2, s3, s4, s5, s6, s7⟩
         go_simp
         with_reducible rfl
        rotate_left
        ·
         simp only [Act.put, List.setIfInBounds_toArray, List.set_cons_zero, List.set_cons_succ, i64_w, i32_w]
         rfl
        refine one_ (i := 9) (N := some 34) #[true, true, true, true, true, true, true, true, true, true, false] rfl rfl (one_of HT_.out (by kernel_rfl)) (by decide) (fun K hK => ?_)
        refine goes_ Try.func49 (by kernel_rfl) rfl #[.string (rdOf ByteArray.empty q6 (rd q3 a1))] (by rfl) rfl rfl (by (try simp only [List.map_toArray, List.map_cons, List.map_nil]); first | done | rfl | (simp only [List.length_drop, List.length_take]; rfl)) ?_
        with_reducible refine (Qbi.calls (rdOf ByteArray.empty q6 (rd q3 a1)) Q1 Q6 Q8 _ A18.out).mono ?_
        rintro e w27 ⟨rfl, hb⟩
        refine ⟨_, rfl, ?_⟩
        replace q2 := Bb q2 hb
        replace q4 := Bb q4 hb
        replace HB := bs HB hb
        (try clear hb)
        (try clear hb2)
        (try clear hk)
        (try clear hi)
        refine hK.out _ _ ⟨(blk_cell q2.out 0).trans rfl, (blk_cell q2.out 1).trans rfl, (blk_cell q2.out 2).trans rfl, (blk_cell q2.out 3).trans rfl, (blk_cell q2.out 4).trans rfl, (blk_cell q2.out 5).trans rfl, ((HB.out.cell (World.block_lt_of_cell? w _ hw264_0)).trans hw264_0), ((HB.out.cell (World.block_lt_of_cell? w _ hw265_0)).trans hw265_0)⟩ (fun hHeld => ?_)
        clear hK K
        refine norm_ (a' := ?_) ?_ ?_
        rotate_left
        ·
         show Act.put _ (some 34) _ = _
         simp only [Act.put, List.setIfInBounds_toArray, List.set_cons_zero, List.set_cons_succ, i64_w, i32_w]
         rfl
        refine one_ (i := 10) (N := none) #[true, true, true, true, true, true, true, true, true, true, true] rfl rfl (one_of HT_.out (by kernel_rfl)) (by decide) (fun K hK => ?_)
        have hs28 : w27.cell? ⟨q1, 0, none⟩ = some (.int .i64 0) := (blk_cell q4.out 0).trans rfl
        have hfs28 := blk_frozen q4.out 0
        have hns28_0 := q0.out
        have hms28_0 := j1.out
        have hs29 : w27.cell? ⟨q1, 1, none⟩ = some (.int .i64 0) := (blk_cell q4.out 1).trans rfl
        have hfs29 := blk_frozen q4.out 1
        have hns29_0 := q0.out
        have hms29_0 := j1.out
        have hs30 : w27.cell? ⟨q1, 2, none⟩ = some (.string (⟨#[]⟩ : ByteArray)) := (blk_cell q4.out 2).trans rfl
        have hfs30 := blk_frozen q4.out 2
        have hns30_0 := q0.out
        have hms30_0 := j1.out
        refine skip_ (w1 := ?_) (by rfl) rfl ?_ ?_
        rotate_left
        ·
         go_simp
         rfl
        refine hK.out _ _ ⟨((cell_far (p := ⟨q1, _, none⟩) q0.out _).trans (((cell_far (p := ⟨q1, _, none⟩) q0.out _).trans (((cell_far (p := ⟨q1, _, none⟩) q0.out _).trans (hHeld.1)))))), ((cell_far (p := ⟨q1, _, none⟩) q0.out _).trans (((cell_far (p := ⟨q1, _, none⟩) q0.out _).trans (((cell_far (p := ⟨q1, _, none⟩) q0.out _).trans (hHeld.2.1)))))), ((cell_far (p := ⟨q1, _, none⟩) q0.out _).trans (((cell_far (p := ⟨q1, _, none⟩) q0.out _).trans (((cell_far (p := ⟨q1, _, none⟩) q0.out _).trans (hHeld.2.2.1)))))), ((cell_far (p := ⟨q1, _, none⟩) q0.out _).trans (((cell_far (p := ⟨q1, _, none⟩) q0.out _).trans (((cell_far (p := ⟨q1, _, none⟩) q0.out _).trans (hHeld.2.2.2.1)))))), ((cell_far (p := ⟨q1, _, none⟩) q0.out _).trans (((cell_far (p := ⟨q1, _, none⟩) q0.out _).trans (((cell_far (p := ⟨q1, _, none⟩) q0.out _).trans (hHeld.2.2.2.2.1)))))), ((cell_far (p := ⟨q1, _, none⟩) q0.out _).trans (((cell_far (p := ⟨q1, _, none⟩) q0.out _).trans (((cell_far (p := ⟨q1, _, none⟩) q0.out _).trans (hHeld.2.2.2.2.2.1)))))), ((cell_far (p := ⟨q1, _, none⟩) (by first | exact Nat.ne_of_lt (Nat.lt_of_lt_of_le (by have := World.block_lt_of_cell? _ _ hw264_0; first | rwa [add_block] at this | exact this) q5.out) | (rw [add_block]; exact Nat.ne_of_lt (Nat.lt_of_lt_of_le (by have := World.block_lt_of_cell? _ _ hw264_0; first | rwa [add_block] at this | exact this) q5.out)) | (show (Addr.add _ _).block ≠ _; rw [add_block]; exact Nat.ne_of_lt (Nat.lt_of_lt_of_le (by have := World.block_lt_of_cell? _ _ hw264_0; first | rwa [add_block] at this | exact this) q5.out)) | (dsimp only; exact Nat.ne_of_lt (Nat.lt_of_lt_of_le (by have := World.block_lt_of_cell? _ _ hw264_0; first | rwa [add_block] at this | exact this) q5.out))) _).trans (((cell_far (p := ⟨q1, _, none⟩) (by first | exact Nat.ne_of_lt (Nat.lt_of_lt_of_le (by have := World.block_lt_of_cell? _ _ hw264_0; first | rwa [add_block] at this | exact this) q5.out) | (rw [add_block]; exact Nat.ne_of_lt (Nat.lt_of_lt_of_le (by have := World.block_lt_of_cell? _ _ hw264_0; first | rwa [add_block] at this | exact this) q5.out)) | (show (Addr.add _ _).block ≠ _; rw [add_block]; exact Nat.ne_of_lt (Nat.lt_of_lt_of_le (by have := World.block_lt_of_cell? _ _ hw264_0; first | rwa [add_block] at this | exact this) q5.out)) | (dsimp only; exact Nat.ne_of_lt (Nat.lt_of_lt_of_le (by have := World.block_lt_of_cell? _ _ hw264_0; first | rwa [add_block] at this | exact this) q5.out))) _).trans (((cell_far (p := ⟨q1, _, none⟩) (by first | exact Nat.ne_of_lt (Nat.lt_of_lt_of_le (by have := World.block_lt_of_cell? _ _ hw264_0; first | rwa [add_block] at this | exact this) q5.out) | (rw [add_block]; exact Nat.ne_of_lt (Nat.lt_of_lt_of_le (by have := World.block_lt_of_cell? _ _ hw264_0; first | rwa [add_block] at this | exact this) q5.out)) | (show (Addr.add _ _).block ≠ _; rw [add_block]; exact Nat.ne_of_lt (Nat.lt_of_lt_of_le (by have := World.block_lt_of_cell? _ _ hw264_0; first | rwa [add_block] at this | exact this) q5.out)) | (dsimp only; exact Nat.ne_of_lt (Nat.lt_of_lt_of_le (by have := World.block_lt_of_cell? _ _ hw264_0; first | rwa [add_block] at this | exact this) q5.out))) _).trans (hHeld.2.2.2.2.2.2.1)))))), ((cell_far (p := ⟨q1, _, none⟩) (by first | exact Nat.ne_of_lt (Nat.lt_of_lt_of_le (by have := World.block_lt_of_cell? _ _ hw265_0; first | rwa [add_block] at this | exact this) q5.out) | (rw [add_block]; exact Nat.ne_of_lt (Nat.lt_of_lt_of_le (by have := World.block_lt_of_cell? _ _ hw265_0; first | rwa [add_block] at this | exact this) q5.out)) | (show (Addr.add _ _).block ≠ _; rw [add_block]; exact Nat.ne_of_lt (Nat.lt_of_lt_of_le (by have := World.block_lt_of_cell? _ _ hw265_0; first | rwa [add_block] at this | exact this) q5.out)) | (dsimp only; exact Nat.ne_of_lt (Nat.lt_of_lt_of_le (by have := World.block_lt_of_cell? _ _ hw265_0; first | rwa [add_block] at this | exact this) q5.out))) _).trans (((cell_far (p := ⟨q1, _, none⟩) (by first | exact Nat.ne_of_lt (Nat.lt_of_lt_of_le (by have := World.block_lt_of_cell? _ _ hw265_0; first | rwa [add_block] at this | exact this) q5.out) | (rw [add_block]; exact Nat.ne_of_lt (Nat.lt_of_lt_of_le (by have := World.block_lt_of_cell? _ _ hw265_0; first | rwa [add_block] at this | exact this) q5.out)) | (show (Addr.add _ _).block ≠ _; rw [add_block]; exact Nat.ne_of_lt (Nat.lt_of_lt_of_le (by have := World.block_lt_of_cell? _ _ hw265_0; first | rwa [add_block] at this | exact this) q5.out)) | (dsimp only; exact Nat.ne_of_lt (Nat.lt_of_lt_of_le (by have := World.block_lt_of_cell? _ _ hw265_0; first | rwa [add_block] at this | exact this) q5.out))) _).trans (((cell_far (p := ⟨q1, _, none⟩) (by first | exact Nat.ne_of_lt (Nat.lt_of_lt_of_le (by have := World.block_lt_of_cell? _ _ hw265_0; first | rwa [add_block] at this | exact this) q5.out) | (rw [add_block]; exact Nat.ne_of_lt (Nat.lt_of_lt_of_le (by have := World.block_lt_of_cell? _ _ hw265_0; first | rwa [add_block] at this | exact this) q5.out)) | (show (Addr.add _ _).block ≠ _; rw [add_block]; exact Nat.ne_of_lt (Nat.lt_of_lt_of_le (by have := World.block_lt_of_cell? _ _ hw265_0; first | rwa [add_block] at this | exact this) q5.out)) | (dsimp only; exact Nat.ne_of_lt (Nat.lt_of_lt_of_le (by have := World.block_lt_of_cell? _ _ hw265_0; first | rwa [add_block] at this | exact this) q5.out))) _).trans (hHeld.2.2.2.2.2.2.2))))))⟩ (fun hHeld => ?_)
        clear hK K
        refine done_ (done_of HT_.out (by kernel_rfl)) ?_
        try go_wp2
        refine bodyPost_ret (results_cell_row rfl _ _ q1 41 #[.int .i64 Q1, .int .i64 Q6, .string Q8] (0, 0) _ rfl (by apply blk_u; refine blk_put (cs := #[.int .i64 Q1, .int .i64 Q6, .string (⟨#[]⟩ : ByteArray)]) ?_ 2 _ rfl; apply blk_u; refine blk_put (cs := #[.int .i64 Q1, .int .i64 0, .string (⟨#[]⟩ : ByteArray)]) ?_ 1 _ rfl; apply blk_u; refine blk_put (cs := #[.int .i64 0, .int .i64 0, .string (⟨#[]⟩ : ByteArray)]) ?_ 0 _ rfl; apply blk_u; exact q4.out) Try.underlying41 rfl (by kernel_rfl)) rfl ?_
        exact ⟨by first | rfl | (simp [errW_none, errW_some] <;> rfl) | (simp [*, errW_none, errW_some] <;> rfl), bl HB⟩
       ·
        rw [if_neg c17] at H
        exact absurd H (by simp)
      ·
       rw [if_neg c16] at H
       exact absurd H (by simp)
     ·
      rw [if_neg c15] at H
      exact absurd H (by simp)
    ·
     rw [if_neg c14] at H
     exact absurd H (by simp)
   ·
    replace c13 := Bool.eq_false_iff.mpr c13
    subst c13
    have H1 : (if 0 ≤ a1 then (if a1 < (q7.length : Int) then ((Qbi.f (rdOf ByteArray.empty q7 a1)).bind fun j4 => (some (j4.1, j4.2.1, j4.2.2))) else (none)) else (none)) = some (r1, r2, r3) := by rw [if_neg (show ¬ (false = true) by decide)] at H; exact H
    clear H
    have H := H1
    clear H1
    by_cases c31 : 0 ≤ a1
    ·
     rw [if_pos c31] at H
     have Yv : decide (0 ≤ a1) = true := decide_eq_true c31
     clear c31
     by_cases c32 : a1 < (q7.length : Int)
     ·
      rw [if_pos c32] at H
      have Yw : decide (a1 < (q7.length : Int)) = true := decide_eq_true c32
      clear c32
      replace H := Option.bind_eq_some_iff.mp H
      obtain ⟨⟨Q2, Q7, Q9⟩, Qm, H⟩ := H
      replace H : (some (Q2, Q7, Q9)) = some (r1, r2, r3) := H
      have A33 := Qaa.mk Qm
      clear Qm
      simp only [Option.some.injEq, Prod.mk.injEq] at H
      obtain ⟨rfl, rfl, rfl⟩ := H
      go_enter Try.func26, Try.ntmps26
      go_wp2_with (first | ((with_reducible refine gate_dst (N := 2) rfl ?_); refine bx 2 #[.int .i64 q9, .slice j5 j2.length j6, .slice z2 q8.length j7, .slice j8 q7.length j9, .slice z3 q6.length z0, .slice z4 q3.length z1] 39 ?_; intro j0 hg w34 hbox hb; have q2 := Qaa.mk (hbox); have Q3 := Qaa.mk ((by rw [hg]; exact (below_size (bl HB)) : w.heap.size ≤ j0)); have Q4 := Qaa.mk ((by rw [hg]; exact (below_size (bl HB)) : w.heap.size ≤ j0)); replace HB := bs HB hb; clear hb hbox hg) | ((with_reducible refine gate_dst (N := 4) rfl ?_); refine bx 4 #[.int .i64 0, .int .i64 0, .string (⟨#[]⟩ : ByteArray)] 41 ?_; intro q1 hg w35 hbox hb; have q4 := Qaa.mk (hbox); have q5 := Qaa.mk ((by rw [hg]; exact (below_size (bl HB)) : w.heap.size ≤ q1)); have Q5 := Qaa.mk ((by rw [hg]; exact (below_size (bl HB)) : w.heap.size ≤ q1)); have q0 := Qaa.mk ((by rw [hg]; exact Nat.ne_of_lt (blk_lt (Ub q2)) : j0 ≠ q1)); have j1 := Qaa.mk ((by rw [hg]; exact Nat.ne_of_gt (blk_lt (Ub q2)) : q1 ≠ j0)); replace q2 := Bb q2 hb; replace HB := bs HB hb; clear hb hbox hg; have Yx := q0.out; have Yy := j1.out; obtain ⟨Zj, Zk, Zl, Zm, Zn, Zo, Zp, Zq, Zr, Zs, Zt, Zu⟩ := cf6 q2) | ((with_reducible refine gate_callee (f := 48) rfl ?_); refine gL (some 8) Try.func48 #[.agg #[.int .i64 q9, .slice j5 j2.length j6, .slice z2 q8.length j7, .slice j8 q7.length j9, .slice z3 q6.length z0, .slice z4 q3.length z1], .int .i64 a1] ?_; (with_reducible refine (Qaz.calls q9 _ _ j2 _ _ q8 _ _ q7 _ _ q6 _ _ q3 a1 false _ ?side1 ?side2 ?side3 ?side4 ?side5 ?side6 ?side7 ?side8 ?side9 ?side10 A3.out).mono ?_); (case side1 => exact Cb y3 HB); (case side2 => exact y4.out); (case side3 => exact Cb z9 HB); (case side4 => exact y5.out); (case side5 => exact Cb y0 HB); (case side6 => exact y6.out); (case side7 => exact Cb y1 HB); (case side8 => exact y7.out); (case side9 => exact Cb y2 HB); (case side10 => exact y8.out); rintro e w38 ⟨rfl, hb⟩; refine ⟨_, rfl, ?_⟩; replace q2 := Bb q2 hb; replace q4 := Bb q4 hb; replace HB := bs HB hb; (try clear hb); obtain ⟨Zv, Zw, Zx, Zy, Zz, J0, J1, J2, J3, J4, J5, J6⟩ := cf6 q2) | ((with_reducible refine gate_callee (f := 36) rfl ?_); refine gL (some 24) Try.func36 #[.agg #[.int .i64 q9, .slice j5 j2.length j6, .slice z2 q8.length j7, .slice j8 q7.length j9, .slice z3 q6.length z0, .slice z4 q3.length z1]] ?_; (with_reducible refine (Qar.calls q9 _ _ j2 _ _ q8 _ _ q7 _ _ q6 _ _ q3 false _ ?side1 ?side2 ?side3 ?side4 ?side5 ?side6 ?side7 ?side8 ?side9 ?side10 A12.out).mono ?_); (case side1 => exact Cb y3 HB); (case side2 => exact y4.out); (case side3 => exact Cb z9 HB); (case side4 => exact y5.out); (case side5 => exact Cb y0 HB); (case side6 => exact y6.out); (case side7 => exact Cb y1 HB); (case side8 => exact y7.out); (case side9 => exact Cb y2 HB); (case side10 => exact y8.out); rintro e w40 ⟨rfl, hb⟩; refine ⟨_, rfl, ?_⟩; replace q2 := Bb q2 hb; replace q4 := Bb q4 hb; replace HB := bs HB hb; (try clear hb); obtain ⟨J7, J8, J9, Ja, Jb, Jc, Jd, Je, Jf, Jg, Jh, Ji⟩ := cf6 q2; have p269 : 0 ≤ (a1 : Int) := of_decide_eq_true (by first | (with_reducible assumption) | assumption); have q269 : a1 < (q7.length : Int) := of_decide_eq_true (by first | (with_reducible assumption) | assumption); obtain ⟨ad269, e269, Q0⟩ := Kd.at_string y0.out a1 p269 q269; cases e269; replace Q0 := (HB.out.cell (World.block_lt_of_cell? w _ Q0)).trans Q0; replace p269 := eq_true p269; replace q269 := eq_true q269) | ((with_reducible refine gate_callee (f := 49) rfl ?_); refine gL (some 40) Try.func49 #[.string (rdOf ByteArray.empty q7 a1)] ?_; (with_reducible refine (Qbi.calls (rdOf ByteArray.empty q7 a1) Q2 Q7 Q9 _ A33.out).mono ?_); rintro e w42 ⟨rfl, hb⟩; refine ⟨_, rfl, ?_⟩; replace q2 := Bb q2 hb; replace q4 := Bb q4 hb; replace HB := bs HB hb; (try clear hb); obtain ⟨Jj, Jk, Jl, Jm, Jn, Jo⟩ := cf3 q4))
      refine bodyPost_ret (results_cell_row rfl _ _ q1 41 #[.int .i64 Q2, .int .i64 Q7, .string Q9] (0, 0) _ rfl (by apply blk_u; refine blk_put (cs := #[.int .i64 Q2, .int .i64 Q7, .string (⟨#[]⟩ : ByteArray)]) ?_ 2 _ rfl; apply blk_u; refine blk_put (cs := #[.int .i64 Q2, .int .i64 0, .string (⟨#[]⟩ : ByteArray)]) ?_ 1 _ rfl; apply blk_u; refine blk_put (cs := #[.int .i64 0, .int .i64 0, .string (⟨#[]⟩ : ByteArray)]) ?_ 0 _ rfl; apply blk_u; exact q4.out) Try.underlying41 rfl (by kernel_rfl)) rfl ?_
      exact ⟨by first | rfl | (simp [errW_none, errW_some] <;> rfl) | (simp [*, errW_none, errW_some] <;> rfl), bl HB⟩
     ·
      rw [if_neg c32] at H
      exact absurd H (by simp)
    ·
     rw [if_neg c31] at H
     exact absurd H (by simp)
  ·
   rw [if_neg c11] at H
   have Qn : (q9 == 3) = false := beq_eq_false_iff_ne.mpr c11
   have Qo : (q9 != 3) = true := bne_iff_ne.mpr c11
   by_cases c44 : 0 ≤ a1
   ·
    rw [if_pos c44] at H
    have Yz : decide (0 ≤ a1) = true := decide_eq_true c44
    clear c44
    by_cases c45 : a1 < (q8.length : Int)
    ·
     rw [if_pos c45] at H
     have X0 : decide (a1 < (q8.length : Int)) = true := decide_eq_true c45
     clear c45
     simp only [Option.some.injEq, Prod.mk.injEq] at H
     obtain ⟨rfl, rfl, rfl⟩ := H
     go_enter Try.func26, Try.ntmps26
     try go_wp2_with (first | ((with_reducible refine gate_dst (N := 2) rfl ?_); refine bx 2 #[.int .i64 q9, .slice j5 j2.length j6, .slice z2 q8.length j7, .slice j8 q7.length j9, .slice z3 q6.length z0, .slice z4 q3.length z1] 39 ?_; intro j0 hg w46 hbox hb; have q2 := Qaa.mk (hbox); have Q3 := Qaa.mk ((by rw [hg]; exact (below_size (bl HB)) : w.heap.size ≤ j0)); have Q4 := Qaa.mk ((by rw [hg]; exact (below_size (bl HB)) : w.heap.size ≤ j0)); replace HB := bs HB hb; clear hb hbox hg) | ((with_reducible refine gate_dst (N := 4) rfl ?_); refine bx 4 #[.int .i64 0, .int .i64 0, .string (⟨#[]⟩ : ByteArray)] 41 ?_; intro q1 hg w47 hbox hb; have q4 := Qaa.mk (hbox); have q5 := Qaa.mk ((by rw [hg]; exact (below_size (bl HB)) : w.heap.size ≤ q1)); have Q5 := Qaa.mk ((by rw [hg]; exact (below_size (bl HB)) : w.heap.size ≤ q1)); have q0 := Qaa.mk ((by rw [hg]; exact Nat.ne_of_lt (blk_lt (Ub q2)) : j0 ≠ q1)); have j1 := Qaa.mk ((by rw [hg]; exact Nat.ne_of_gt (blk_lt (Ub q2)) : q1 ≠ j0)); replace q2 := Bb q2 hb; replace HB := bs HB hb; clear hb hbox hg; have X1 := q0.out; have X2 := j1.out; obtain ⟨Jp, Jq, Jr, Js, Jt, Ju, Jv, Jw, Jx, Jy, Jz, Y0⟩ := cf6 q2) | ((with_reducible refine gate_callee (f := 48) rfl ?_); refine gL (some 8) Try.func48 #[.agg #[.int .i64 q9, .slice j5 j2.length j6, .slice z2 q8.length j7, .slice j8 q7.length j9, .slice z3 q6.length z0, .slice z4 q3.length z1], .int .i64 a1] ?_; (with_reducible refine (Qaz.calls q9 _ _ j2 _ _ q8 _ _ q7 _ _ q6 _ _ q3 a1 false _ ?side1 ?side2 ?side3 ?side4 ?side5 ?side6 ?side7 ?side8 ?side9 ?side10 A3.out).mono ?_); (case side1 => exact Cb y3 HB); (case side2 => exact y4.out); (case side3 => exact Cb z9 HB); (case side4 => exact y5.out); (case side5 => exact Cb y0 HB); (case side6 => exact y6.out); (case side7 => exact Cb y1 HB); (case side8 => exact y7.out); (case side9 => exact Cb y2 HB); (case side10 => exact y8.out); rintro e w50 ⟨rfl, hb⟩; refine ⟨_, rfl, ?_⟩; replace q2 := Bb q2 hb; replace q4 := Bb q4 hb; replace HB := bs HB hb; (try clear hb); obtain ⟨Y1, Y2, Y3, Y4, Y5, Y6, Y7, Y8, Y9, Ya, Yb, Yc⟩ := cf6 q2))
     replace q2 := Qaa.mk (blk_drew q2.out)
     replace q4 := Qaa.mk (blk_drew q4.out)
     replace HB := Qaa.mk (below_drew1 HB.out)
     have p273 : 0 ≤ (a1 : Int) := of_decide_eq_true (by first | (with_reducible assumption) | assumption)
     have q273 : a1 < (q8.length : Int) := of_decide_eq_true (by first | (with_reducible assumption) | assumption)
     obtain ⟨ad273, e273, z8⟩ := Kd.at_int z9.out a1 p273 q273
     have hw273_0 := z8
     cases e273
     replace z8 := (HB.out.cell (World.block_lt_of_cell? w _ z8)).trans z8
     replace p273 := eq_true p273
     replace q273 := eq_true q273
     refine start_ (n := 9) (S := fun w' => w'.cell? ⟨j0, 0, none⟩ = some (.int .i64 q9) ∧ w'.cell? ⟨j0, 1, none⟩ = some (.slice j5 j2.length j6) ∧ w'.cell? ⟨j0, 2, none⟩ = some (.slice (some ad273) q8.length j7) ∧ w'.cell? ⟨j0, 3, none⟩ = some (.slice j8 q7.length j9) ∧ w'.cell? ⟨j0, 4, none⟩ = some (.slice z3 q6.length z0) ∧ w'.cell? ⟨j0, 5, none⟩ = some (.slice z4 q3.length z1) ∧ w'.cell? (ad273.add (a1).toNat) = some (.int .i64 (rd q8 a1))) (ds := []) #[false, false, false, false, false, false, false, false, false] (by kernel_rfl) rfl rfl ⟨(blk_cell q2.out 0).trans rfl, (blk_cell q2.out 1).trans rfl, (blk_cell q2.out 2).trans rfl, (blk_cell q2.out 3).trans rfl, (blk_cell q2.out 4).trans rfl, (blk_cell q2.out 5).trans rfl, ((HB.out.cell (World.block_lt_of_cell? w _ hw273_0)).trans hw273_0)⟩ (fun hHeld => ?_); refine with_tabW Qat.tab4 Qat.bits4 (fun HT_ HW_ => ?_)
     generalize w50.drew = w52 at q2 q4 HB z8 hHeld ⊢
     refine pure_ (i := 0) (N := some 14) (v := ?_) (a' := ?_) #[true, false, false, false, false, false, false, false, false] rfl rfl (any_of HT_.out (by kernel_rfl)) (fun _ _ _ h => h) (Or.inl ⟨by rfl, ?_⟩) ?_ ?_
     rotate_left
     ·
      intro w'
      go_simp
      with_reducible rfl
     rotate_left
     ·
      simp only [Act.put, List.setIfInBounds_toArray, List.set_cons_zero, List.set_cons_succ, i64_w, i32_w]
      rfl
     refine pure_ (i := 2) (N := some 16) (v := ?_) (a' := ?_) #[true, false, true, false, false, false, false, false, false] rfl rfl (any_of HT_.out (by kernel_rfl)) (fun _ _ _ h => h) (Or.inl ⟨by rfl, ?_⟩) ?_ ?_
     rotate_left
     ·
      intro w'
      go_simp
      with_reducible rfl
     rotate_left
     ·
      simp only [Act.put, List.setIfInBounds_toArray, List.set_cons_zero, List.set_cons_succ, i64_w, i32_w]
      rfl
     refine pure_ (i := 4) (N := some 18) (v := ?_) (a' := ?_) #[true, false, true, false, true, false, false, false, false] rfl rfl (any_of HT_.out (by kernel_rfl)) (fun _ _ _ h => h) (Or.inl ⟨by rfl, ?_⟩) ?_ ?_
     rotate_left
     ·
      intro w'
      go_simp
      with_reducible rfl
     rotate_left
     ·
      simp only [Act.put, List.setIfInBounds_toArray, List.set_cons_zero, List.set_cons_succ, i64_w, i32_w]
      rfl
     refine take_ (i := 1) (N := some 15) (v := ?_) (a' := ?_) #[true, true, true, false, true, false, false, false, false] rfl rfl (take_ofW HT_.out HW_.out (by kernel_rfl)) (fun _ _ _ h => h) (Or.inl ⟨by rfl, ?_⟩) hHeld ?_ ?_
     rotate_left
     ·
      rintro w' ⟨s0, s1, s2, s3, s4, s5, s6⟩
      go_simp
      with_reducible rfl
     rotate_left
     ·
      simp only [Act.put, List.setIfInBounds_toArray, List.set_cons_zero, List.set_cons_succ, i64_w, i32_w]
      rfl
     refine take_ (i := 3) (N := some 17) (v := ?_) (a' := ?_) #[true, true, true, true, true, false, false, false, false] rfl rfl (take_ofW HT_.out HW_.out (by kernel_rfl)) (fun _ _ _ h => h) (Or.inl ⟨by rfl, ?_⟩) hHeld ?_ ?_
     rotate_left
     ·
      rintro w' ⟨s0, s1, s2, s3, s4, s5, s6⟩
      go_simp
      with_reducible rfl
     rotate_left
     ·
      simp only [Act.put, List.setIfInBounds_toArray, List.set_cons_zero, List.set_cons_succ, i64_w, i32_w]
      rfl
     refine pure_ (i := 5) (N := some 19) (v := ?_) (a' := ?_) #[true, true, true, true, true, true, false, false, false] rfl rfl (any_of HT_.out (by kernel_rfl)) (fun _ _ _ h => h) (Or.inl ⟨by rfl, ?_⟩) ?_ ?_
     rotate_left
     ·
      intro w'
      go_simp
      with_reducible rfl
     rotate_left
     ·
      simp only [Act.put, List.setIfInBounds_toArray, List.set_cons_zero, List.set_cons_succ, i64_w, i32_w]
      rfl
     refine take_ (i := 6) (N := some 20) (v := ?_) (a' := ?_) #[true, true, true, true, true, true, true, false, false] rfl rfl (take_ofW HT_.out HW_.out (by kernel_rfl)) (fun _ _ _ h => h) (Or.inl ⟨by rfl, ?_⟩) hHeld ?_ ?_
     rotate_left
     ·
      rintro w' ⟨s0, s1, s2, s3, s4, s5, s6⟩
      go_simp
      with_reducible rfl
     rotate_left
     ·
      simp only [Act.put, List.setIfInBounds_toArray, List.set_cons_zero, List.set_cons_succ, i64_w, i32_w]
      rfl
     refine pure_ (i := 7) (N := some 21) (v := ?_) (a' := ?_) #[true, true, true, true, true, true, true, true, false] rfl rfl (any_of HT_.out (by kernel_rfl)) (fun _ _ _ h => h) (Or.inl ⟨by rfl, ?_⟩) ?_ ?_
     rotate_left
     ·
      intro w'
      go_simp
      with_reducible rfl
     rotate_left
     ·
      simp only [Act.put, List.setIfInBounds_toArray, List.set_cons_zero, List.set_cons_succ, i64_w, i32_w]
      rfl
     refine one_ (i := 8) (N := none) #[true, true, true, true, true, true, true, true, true] rfl rfl (one_of HT_.out (by kernel_rfl)) (by decide) (fun K hK => ?_)
     have hs53 : w52.cell? ⟨q1, 0, none⟩ = some (.int .i64 0) := (blk_cell q4.out 0).trans rfl
     have hfs53 := blk_frozen q4.out 0
     have hns53_0 := q0.out
     have hms53_0 := j1.out
     have hs54 : w52.cell? ⟨q1, 1, none⟩ = some (.int .i64 0) := (blk_cell q4.out 1).trans rfl
     have hfs54 := blk_frozen q4.out 1
     have hns54_0 := q0.out
     have hms54_0 := j1.out
     have hs55 : w52.cell? ⟨q1, 2, none⟩ = some (.string (⟨#[]⟩ : ByteArray)) := (blk_cell q4.out 2).trans rfl
     have hfs55 := blk_frozen q4.out 2
     have hns55_0 := q0.out
     have hms55_0 := j1.out
     refine skip_ (w1 := ?_) (by rfl) rfl ?_ ?_
     rotate_left
     ·
      go_simp
      rfl
     refine hK.out _ _ ⟨((cell_far (p := ⟨q1, _, none⟩) q0.out _).trans (((cell_far (p := ⟨q1, _, none⟩) q0.out _).trans (((cell_far (p := ⟨q1, _, none⟩) q0.out _).trans (hHeld.1)))))), ((cell_far (p := ⟨q1, _, none⟩) q0.out _).trans (((cell_far (p := ⟨q1, _, none⟩) q0.out _).trans (((cell_far (p := ⟨q1, _, none⟩) q0.out _).trans (hHeld.2.1)))))), ((cell_far (p := ⟨q1, _, none⟩) q0.out _).trans (((cell_far (p := ⟨q1, _, none⟩) q0.out _).trans (((cell_far (p := ⟨q1, _, none⟩) q0.out _).trans (hHeld.2.2.1)))))), ((cell_far (p := ⟨q1, _, none⟩) q0.out _).trans (((cell_far (p := ⟨q1, _, none⟩) q0.out _).trans (((cell_far (p := ⟨q1, _, none⟩) q0.out _).trans (hHeld.2.2.2.1)))))), ((cell_far (p := ⟨q1, _, none⟩) q0.out _).trans (((cell_far (p := ⟨q1, _, none⟩) q0.out _).trans (((cell_far (p := ⟨q1, _, none⟩) q0.out _).trans (hHeld.2.2.2.2.1)))))), ((cell_far (p := ⟨q1, _, none⟩) q0.out _).trans (((cell_far (p := ⟨q1, _, none⟩) q0.out _).trans (((cell_far (p := ⟨q1, _, none⟩) q0.out _).trans (hHeld.2.2.2.2.2.1)))))), ((cell_far (p := ⟨q1, _, none⟩) (by first | exact Nat.ne_of_lt (Nat.lt_of_lt_of_le (by have := World.block_lt_of_cell? _ _ hw273_0; first | rwa [add_block] at this | exact this) q5.out) | (rw [add_block]; exact Nat.ne_of_lt (Nat.lt_of_lt_of_le (by have := World.block_lt_of_cell? _ _ hw273_0; first | rwa [add_block] at this | exact this) q5.out)) | (show (Addr.add _ _).block ≠ _; rw [add_block]; exact Nat.ne_of_lt (Nat.lt_of_lt_of_le (by have := World.block_lt_of_cell? _ _ hw273_0; first | rwa [add_block] at this | exact this) q5.out)) | (dsimp only; exact Nat.ne_of_lt (Nat.lt_of_lt_of_le (by have := World.block_lt_of_cell? _ _ hw273_0; first | rwa [add_block] at this | exact this) q5.out))) _).trans (((cell_far (p := ⟨q1, _, none⟩) (by first | exact Nat.ne_of_lt (Nat.lt_of_lt_of_le (by have := World.block_lt_of_cell? _ _ hw273_0; first | rwa [add_block] at this | exact this) q5.out) | (rw [add_block]; exact Nat.ne_of_lt (Nat.lt_of_lt_of_le (by have := World.block_lt_of_cell? _ _ hw273_0; first | rwa [add_block] at this | exact this) q5.out)) | (show (Addr.add _ _).block ≠ _; rw [add_block]; exact Nat.ne_of_lt (Nat.lt_of_lt_of_le (by have := World.block_lt_of_cell? _ _ hw273_0; first | rwa [add_block] at this | exact this) q5.out)) | (dsimp only; exact Nat.ne_of_lt (Nat.lt_of_lt_of_le (by have := World.block_lt_of_cell? _ _ hw273_0; first | rwa [add_block] at this | exact this) q5.out))) _).trans (((cell_far (p := ⟨q1, _, none⟩) (by first | exact Nat.ne_of_lt (Nat.lt_of_lt_of_le (by have := World.block_lt_of_cell? _ _ hw273_0; first | rwa [add_block] at this | exact this) q5.out) | (rw [add_block]; exact Nat.ne_of_lt (Nat.lt_of_lt_of_le (by have := World.block_lt_of_cell? _ _ hw273_0; first | rwa [add_block] at this | exact this) q5.out)) | (show (Addr.add _ _).block ≠ _; rw [add_block]; exact Nat.ne_of_lt (Nat.lt_of_lt_of_le (by have := World.block_lt_of_cell? _ _ hw273_0; first | rwa [add_block] at this | exact this) q5.out)) | (dsimp only; exact Nat.ne_of_lt (Nat.lt_of_lt_of_le (by have := World.block_lt_of_cell? _ _ hw273_0; first | rwa [add_block] at this | exact this) q5.out))) _).trans (hHeld.2.2.2.2.2.2))))))⟩ (fun hHeld => ?_)
     clear hK K
     refine done_ (done_of HT_.out (by kernel_rfl)) ?_
     try go_wp2
     refine bodyPost_ret (results_cell_row rfl _ _ q1 41 #[.int .i64 q9, .int .i64 (rd q8 a1), .string (⟨#[]⟩ : ByteArray)] (0, 0) _ rfl (by apply blk_u; refine blk_put (cs := #[.int .i64 q9, .int .i64 (rd q8 a1), .string (⟨#[]⟩ : ByteArray)]) ?_ 2 _ rfl; apply blk_u; refine blk_put (cs := #[.int .i64 q9, .int .i64 0, .string (⟨#[]⟩ : ByteArray)]) ?_ 1 _ rfl; apply blk_u; refine blk_put (cs := #[.int .i64 0, .int .i64 0, .string (⟨#[]⟩ : ByteArray)]) ?_ 0 _ rfl; apply blk_u; exact q4.out) Try.underlying41 rfl (by kernel_rfl)) rfl ?_
     exact ⟨by first | rfl | (simp [errW_none, errW_some] <;> rfl) | (simp [*, errW_none, errW_some] <;> rfl), bl HB⟩
    ·
     rw [if_neg c45] at H
     exact absurd H (by simp)
   ·
    rw [if_neg c44] at H
    exact absurd H (by simp)
end Go.Proofs.Ytphnmaobpefoiaa.XA
end
section
namespace Go.Proofs.Ytphnmaobpefoiaa.XA
open Go.RowKit Go.Proofs.YtphnmaobpefoiaaXW Go.Proofs.YtphnmaobpefoiaaW.PrintWords Go.Proofs.YtphnmaobpefoiaaW.PrintLast Go.Proofs.YtphnmaobpefoiaaW.PrintMore
attribute [local go_sem] max2_int min2_int max_two min_two max_three min_three max_four min_four sleq
set_option linter.unusedVariables false
set_option linter.unusedSimpArgs false
def Qbu.l0 : Nat → List (S41) → Int → Int → Int → List Bool → List Int → List ByteArray → List ByteArray → List Int → Option ((List (S41)))
 | 0, _, _, _, _, _, _, _, _, _ => none
 | k + 1, x3, x6, x7, z2, z3, z4, z5, z6, z7 => if x7 < x6 then ((Qat.f z2 z3 z4 z5 z6 z7 x7).bind fun z8 => (if x3.length < 4398046511104 then (Qbu.l0 k (x3 ++ [(⟨z8.1, z8.2.1, z8.2.2⟩ : S41)]) x6 (wrap64 (x7 + 1)) z2 z3 z4 z5 z6 z7) else (none))) else (some x3)
def Qbu.f (k : Nat) (q5 : Int) (q0 : List Bool) (q1 : List Int) (q2 : List ByteArray) (q3 : List ByteArray) (q4 : List Int) : Option ((List (S41))) := (Qbc.f q5 q0 q1 q2 q3 q4).bind fun q7 => (Qbu.l0 k ([] : List (S41)) q7 0 q5 q0 q1 q2 q3 q4)
end Go.Proofs.Ytphnmaobpefoiaa.XA
end
section
namespace Go.Proofs.Ytphnmaobpefoiaa.XA
open Go.RowKit Go.Proofs.YtphnmaobpefoiaaXW Go.Proofs.YtphnmaobpefoiaaW.PrintWords Go.Proofs.YtphnmaobpefoiaaW.PrintLast Go.Proofs.YtphnmaobpefoiaaW.PrintMore
attribute [local go_sem] max2_int min2_int max_two min_two max_three min_three max_four min_four sleq
set_option linter.unusedVariables false
set_option linter.unusedSimpArgs false
def Qby.f (k : Nat) (q4 : Int) (q8 : List Bool) (q9 : List Int) (j0 : List ByteArray) (j1 : List ByteArray) (j2 : List Int) : Option (Int × List Bool × List Int × List ByteArray × List ByteArray × List Int × Int) := (Qbc.f q4 q8 q9 j0 j1 j2).bind fun y2 => ((Qah.f k q4 q8 q9 j0 j1 j2 y2).bind fun z0 => (if z0 = 0 then (if q4 = 3 then ((Qbu.f k q4 q8 q9 j0 j1 j2).bind fun y3 => ((Qax.f k q4 y3).bind fun q7 => ((Qai.f k q7.1 q7.2.1 q7.2.2.1 q7.2.2.2.1 q7.2.2.2.2.1 q7.2.2.2.2.2).bind fun q5 => (some (q5.1, q5.2.1, q5.2.2.1, q5.2.2.2.1, q5.2.2.2.2.1, q5.2.2.2.2.2, 0))))) else ((Qbw.f q4 q8 q9 j0 j1 j2).bind fun j3 => (some (j3.1, j3.2.1, j3.2.2.1, j3.2.2.2.1, j3.2.2.2.2.1, j3.2.2.2.2.2, 0)))) else (some (0, ([] : List Bool), ([] : List Int), ([] : List ByteArray), ([] : List ByteArray), ([] : List Int), z0))))
end Go.Proofs.Ytphnmaobpefoiaa.XA
end
section
namespace Go.Proofs.Ytphnmaobpefoiaa.XA
open Go.RowKit Go.Proofs.YtphnmaobpefoiaaXW Go.Proofs.YtphnmaobpefoiaaW.PrintWords Go.Proofs.YtphnmaobpefoiaaW.PrintLast Go.Proofs.YtphnmaobpefoiaaW.PrintMore
attribute [local go_sem] max2_int min2_int max_two min_two max_three min_three max_four min_four sleq
set_option linter.unusedVariables false
set_option linter.unusedSimpArgs false
def Qbz.f (k : Nat) (q5 : Int) (q7 : List Bool) (q8 : List Int) (q9 : List ByteArray) (j0 : List ByteArray) (j1 : List Int) : Option (Int × List Bool × List Int × List ByteArray × List ByteArray × List Int × Int) := (Qbc.f q5 q7 q8 q9 j0 j1).bind fun z7 => ((Qah.f k q5 q7 q8 q9 j0 j1 z7).bind fun j3 => (if j3 = 0 then ((Qbu.f k q5 q7 q8 q9 j0 j1).bind fun j5 => ((Qax.f k q5 j5).bind fun q4 => (some (q4.1, q4.2.1, q4.2.2.1, q4.2.2.2.1, q4.2.2.2.2.1, q4.2.2.2.2.2, 0)))) else (some (0, ([] : List Bool), ([] : List Int), ([] : List ByteArray), ([] : List ByteArray), ([] : List Int), j3))))
end Go.Proofs.Ytphnmaobpefoiaa.XA
end
section
namespace Go.Proofs.Ytphnmaobpefoiaa.XA
open Go.RowKit Go.Proofs.YtphnmaobpefoiaaXW Go.Proofs.YtphnmaobpefoiaaW.PrintWords Go.Proofs.YtphnmaobpefoiaaW.PrintLast Go.Proofs.YtphnmaobpefoiaaW.PrintMore
attribute [local go_sem] max2_int min2_int max_two min_two max_three min_three max_four min_four sleq
set_option linter.unusedVariables false
set_option linter.unusedSimpArgs false
def Qbp.f (k : Nat) (q7 : Int) (q2 : List Bool) (q3 : List Int) (q4 : List ByteArray) (q5 : List ByteArray) (q6 : List Int) (a1 : Int) : Option (Int × Int × ByteArray × Int) := (Qbc.f q7 q2 q3 q4 q5 q6).bind fun z3 => ((Qah.f k q7 q2 q3 q4 q5 q6 z3).bind fun j1 => (if j1 = 0 then ((Qbc.f q7 q2 q3 q4 q5 q6).bind fun z2 => ((Qaq.f a1 0 (wrap64 (z2 - 1))).bind fun z6 => (if z6 = true then ((Qat.f q7 q2 q3 q4 q5 q6 a1).bind fun q9 => (some (q9.1, q9.2.1, q9.2.2, 0))) else (some (0, 0, (⟨#[]⟩ : ByteArray), 1))))) else (some (0, 0, (⟨#[]⟩ : ByteArray), j1))))
set_option maxHeartbeats 8000000 in
set_option maxRecDepth 100000 in
theorem Qbp.calls (k : Nat) (q7 : Int) (j2 : Option Addr) (j3 : Nat) (q2 : List Bool) (j4 : Option Addr) (j5 : Nat) (q3 : List Int) (j6 : Option Addr) (j7 : Nat) (q4 : List ByteArray) (j8 : Option Addr) (j9 : Nat) (q5 : List ByteArray) (z0 : Option Addr) (z1 : Nat) (q6 : List Int) (a1 : Int) (r1 : Int) (r2 : Int) (r3 : ByteArray) (r4 : Int) (w : World) (Q0 : Kd.C Kd.bool w j2 q2.length q2) (Q1 : q2.length ≤ j3) (Q2 : Kd.C (Kd.int .i64) w j4 q3.length q3) (Q3 : q3.length ≤ j5) (Q4 : Kd.C Kd.string w j6 q4.length q4) (Q5 : q4.length ≤ j7) (Q6 : Kd.C Kd.string w j8 q5.length q5) (Q7 : q5.length ≤ j9) (Q8 : Kd.C (Kd.int .i64) w z0 q6.length q6) (Q9 : q6.length ≤ z1) (h : Qbp.f k q7 q2 q3 q4 q5 q6 a1 = some (r1, r2, r3, r4)) :
  Calls Try.prog 8 #[.agg #[.int .i64 q7, .slice j2 q2.length j3, .slice j4 q3.length j5, .slice j6 q4.length j7, .slice j8 q5.length j9, .slice z0 q6.length z1], .int .i64 a1] w fun e w' => e = .returned (.tuple #[.agg #[.int .i64 r1, .int .i64 r2, .string r3], .int .i64 r4]) ∧ Below w.heap.size w w' := by
 have hu39 := Try.underlying39
 have hu41 := Try.underlying41
 have z7 := Qaa.mk Q0
 have z8 := Qaa.mk Q1
 clear Q0 Q1
 have z9 := Qaa.mk Q2
 have y0 := Qaa.mk Q3
 clear Q2 Q3
 have y1 := Qaa.mk Q4
 have y2 := Qaa.mk Q5
 clear Q4 Q5
 have y3 := Qaa.mk Q6
 have y4 := Qaa.mk Q7
 clear Q6 Q7
 have y5 := Qaa.mk Q8
 have y6 := Qaa.mk Q9
 clear Q8 Q9
 have HB := Qaa.mk (Below.refl w.heap.size w)
 have H : ((Qbc.f q7 q2 q3 q4 q5 q6).bind fun z3 => ((Qah.f k q7 q2 q3 q4 q5 q6 z3).bind fun j1 => (if j1 = 0 then ((Qbc.f q7 q2 q3 q4 q5 q6).bind fun z2 => ((Qaq.f a1 0 (wrap64 (z2 - 1))).bind fun z6 => (if z6 = true then ((Qat.f q7 q2 q3 q4 q5 q6 a1).bind fun q9 => (some (q9.1, q9.2.1, q9.2.2, 0))) else (some (0, 0, (⟨#[]⟩ : ByteArray), 1))))) else (some (0, 0, (⟨#[]⟩ : ByteArray), j1))))) = some (r1, r2, r3, r4) := h
 clear h
 replace H := Option.bind_eq_some_iff.mp H
 obtain ⟨z3, A30, H⟩ := H
 replace H : ((Qah.f k q7 q2 q3 q4 q5 q6 z3).bind fun j1 => (if j1 = 0 then ((Qbc.f q7 q2 q3 q4 q5 q6).bind fun z2 => ((Qaq.f a1 0 (wrap64 (z2 - 1))).bind fun z6 => (if z6 = true then ((Qat.f q7 q2 q3 q4 q5 q6 a1).bind fun q9 => (some (q9.1, q9.2.1, q9.2.2, 0))) else (some (0, 0, (⟨#[]⟩ : ByteArray), 1))))) else (some (0, 0, (⟨#[]⟩ : ByteArray), j1)))) = some (r1, r2, r3, r4) := H
 have A3 := Qaa.mk A30
 clear A30
 replace H := Option.bind_eq_some_iff.mp H
 obtain ⟨j1, A40, H⟩ := H
 replace H : (if j1 = 0 then ((Qbc.f q7 q2 q3 q4 q5 q6).bind fun z2 => ((Qaq.f a1 0 (wrap64 (z2 - 1))).bind fun z6 => (if z6 = true then ((Qat.f q7 q2 q3 q4 q5 q6 a1).bind fun q9 => (some (q9.1, q9.2.1, q9.2.2, 0))) else (some (0, 0, (⟨#[]⟩ : ByteArray), 1))))) else (some (0, 0, (⟨#[]⟩ : ByteArray), j1))) = some (r1, r2, r3, r4) := H
 have A4 := Qaa.mk A40
 clear A40
 by_cases c5 : j1 = 0
 ·
  rw [if_pos c5] at H
  have Qe : (j1 == 0) = true := beq_iff_eq.mpr c5
  have Qf : (j1 != 0) = false := bne_eq_false_iff_eq.mpr c5
  clear c5
  replace H := Option.bind_eq_some_iff.mp H
  obtain ⟨z2, A60, H⟩ := H
  replace H : ((Qaq.f a1 0 (wrap64 (z2 - 1))).bind fun z6 => (if z6 = true then ((Qat.f q7 q2 q3 q4 q5 q6 a1).bind fun q9 => (some (q9.1, q9.2.1, q9.2.2, 0))) else (some (0, 0, (⟨#[]⟩ : ByteArray), 1)))) = some (r1, r2, r3, r4) := H
  have A6 := Qaa.mk A60
  clear A60
  replace H := Option.bind_eq_some_iff.mp H
  obtain ⟨z6, A70, H⟩ := H
  replace H : (if z6 = true then ((Qat.f q7 q2 q3 q4 q5 q6 a1).bind fun q9 => (some (q9.1, q9.2.1, q9.2.2, 0))) else (some (0, 0, (⟨#[]⟩ : ByteArray), 1))) = some (r1, r2, r3, r4) := H
  have A7 := Qaa.mk A70
  clear A70
  by_cases c8 : z6 = true
  ·
   subst c8
   have H1 : ((Qat.f q7 q2 q3 q4 q5 q6 a1).bind fun q9 => (some (q9.1, q9.2.1, q9.2.2, 0))) = some (r1, r2, r3, r4) := by rw [if_pos rfl] at H; exact H
   clear H
   have H := H1
   clear H1
   replace H := Option.bind_eq_some_iff.mp H
   obtain ⟨⟨y7, y8, y9⟩, A90, H⟩ := H
   replace H : (some (y7, y8, y9, 0)) = some (r1, r2, r3, r4) := H
   have A9 := Qaa.mk A90
   clear A90
   simp only [Option.some.injEq, Prod.mk.injEq] at H
   obtain ⟨rfl, rfl, rfl, rfl⟩ := H
   go_enter Try.func8, Try.ntmps8
   try go_wp2_with (first | ((with_reducible refine gate_dst (N := 2) rfl ?_); refine bx 2 #[.int .i64 q7, .slice j2 q2.length j3, .slice j4 q3.length j5, .slice j6 q4.length j7, .slice j8 q5.length j9, .slice z0 q6.length z1] 39 ?_; intro q8 hg w10 hbox hb; have q0 := Qaa.mk (hbox); have Qa := Qaa.mk ((by rw [hg]; exact (below_size (bl HB)) : w.heap.size ≤ q8)); have Qb := Qaa.mk ((by rw [hg]; exact (below_size (bl HB)) : w.heap.size ≤ q8)); replace HB := bs HB hb; clear hb hbox hg) | ((with_reducible refine gate_dst (N := 4) rfl ?_); refine bx 4 #[.int .i64 0, .int .i64 0, .string (⟨#[]⟩ : ByteArray)] 41 ?_; intro j0 hg w11 hbox hb; have q1 := Qaa.mk (hbox); have Qc := Qaa.mk ((by rw [hg]; exact (below_size (bl HB)) : w.heap.size ≤ j0)); have Qd := Qaa.mk ((by rw [hg]; exact (below_size (bl HB)) : w.heap.size ≤ j0)); have z4 := Qaa.mk ((by rw [hg]; exact Nat.ne_of_lt (blk_lt (Ub q0)) : q8 ≠ j0)); have z5 := Qaa.mk ((by rw [hg]; exact Nat.ne_of_gt (blk_lt (Ub q0)) : j0 ≠ q8)); replace q0 := Bb q0 hb; replace HB := bs HB hb; clear hb hbox hg))
   replace q0 := Qaa.mk (blk_drew q0.out)
   replace q1 := Qaa.mk (blk_drew q1.out)
   replace HB := Qaa.mk (below_drew1 HB.out)
   refine start_ (n := 5) (S := fun w' => w'.cell? ⟨q8, 0, none⟩ = some (.int .i64 q7) ∧ w'.cell? ⟨q8, 1, none⟩ = some (.slice j2 q2.length j3) ∧ w'.cell? ⟨q8, 2, none⟩ = some (.slice j4 q3.length j5) ∧ w'.cell? ⟨q8, 3, none⟩ = some (.slice j6 q4.length j7) ∧ w'.cell? ⟨q8, 4, none⟩ = some (.slice j8 q5.length j9) ∧ w'.cell? ⟨q8, 5, none⟩ = some (.slice z0 q6.length z1)) (ds := []) #[false, false, false, false, false] (by kernel_rfl) rfl rfl ⟨(blk_cell q0.out 0).trans rfl, (blk_cell q0.out 1).trans rfl, (blk_cell q0.out 2).trans rfl, (blk_cell q0.out 3).trans rfl, (blk_cell q0.out 4).trans rfl, (blk_cell q0.out 5).trans rfl⟩ (fun hHeld => ?_)
   generalize w11.drew = w12 at q0 q1 HB hHeld ⊢
   refine take_ (i := 0) (N := some 7) (v := ?_) (a' := ?_) #[true, false, false, false, false] rfl rfl (by kernel_rfl) (fun _ _ _ h => h) (Or.inl ⟨by rfl, ?_⟩) hHeld ?_ ?_
   rotate_left
   ·
    rintro w' ⟨s0, s1, s2, s3, s4, s5⟩
    go_simp
    with_reducible rfl
   rotate_left
   ·
    simp only [Act.put, List.setIfInBounds_toArray, List.set_cons_zero, List.set_cons_succ, i64_w, i32_w]
    rfl
   refine take_ (i := 1) (N := some 8) (v := ?_) (a' := ?_) #[true, true, false, false, false] rfl rfl (by kernel_rfl) (fun _ _ _ h => h) (Or.inl ⟨by rfl, ?_⟩) hHeld ?_ ?_
   rotate_left
   ·
    rintro w' ⟨s0, s1, s2, s3, s4, s5⟩
    go_simp
    with_reducible rfl
   rotate_left
   ·
    simp only [Act.put, List.setIfInBounds_toArray, List.set_cons_zero, List.set_cons_succ, i64_w, i32_w]
    rfl
   refine one_ (i := 2) (N := some 9) #[true, true, true, false, false] rfl rfl (by kernel_rfl) (by decide) (fun K hK => ?_)
   refine goes_ Try.func24 (by kernel_rfl) rfl #[.agg #[.int .i64 q7, .slice j2 q2.length j3, .slice j4 q3.length j5, .slice j6 q4.length j7, .slice j8 q5.length j9, .slice z0 q6.length z1]] (by rfl) rfl rfl (by (try simp only [List.map_toArray, List.map_cons, List.map_nil]); first | done | rfl | (simp only [List.length_drop, List.length_take]; rfl)) ?_
   with_reducible refine (Qbc.calls q7 _ _ q2 _ _ q3 _ _ q4 _ _ q5 _ _ q6 z3 _ ?side1 ?side2 ?side3 ?side4 ?side5 ?side6 ?side7 ?side8 ?side9 ?side10 A3.out).mono ?_
   (case side1 => exact Cb z7 HB)
   (case side2 => exact z8.out)
   (case side3 => exact Cb z9 HB)
   (case side4 => exact y0.out)
   (case side5 => exact Cb y1 HB)
   (case side6 => exact y2.out)
   (case side7 => exact Cb y3 HB)
   (case side8 => exact y4.out)
   (case side9 => exact Cb y5 HB)
   (case side10 => exact y6.out)
   rintro e w13 ⟨rfl, hb⟩
   refine ⟨_, rfl, ?_⟩
   replace q0 := Bb q0 hb
   replace q1 := Bb q1 hb
   replace HB := bs HB hb
   (try clear hb)
   (try clear hb2)
   (try clear hk)
   (try clear hi)
   refine hK.out _ _ ⟨(blk_cell q0.out 0).trans rfl, (blk_cell q0.out 1).trans rfl, (blk_cell q0.out 2).trans rfl, (blk_cell q0.out 3).trans rfl, (blk_cell q0.out 4).trans rfl, (blk_cell q0.out 5).trans rfl⟩ (fun hHeld => ?_)
   clear hK K
   refine norm_ (a' := ?_) ?_ ?_
   rotate_left
   ·
    show Act.put _ (some 9) _ = _
    simp only [Act.put, List.setIfInBounds_toArray, List.set_cons_zero, List.set_cons_succ, i64_w, i32_w]
    rfl
   refine one_ (i := 3) (N := some 10) #[true, true, true, true, false] rfl rfl (by kernel_rfl) (by decide) (fun K hK => ?_)
   refine goes_ Try.func23 (by kernel_rfl) rfl #[.agg #[.int .i64 q7, .slice j2 q2.length j3, .slice j4 q3.length j5, .slice j6 q4.length j7, .slice j8 q5.length j9, .slice z0 q6.length z1], .int .i64 z3] (by rfl) rfl rfl (by (try simp only [List.map_toArray, List.map_cons, List.map_nil]); first | done | rfl | (simp only [List.length_drop, List.length_take]; rfl)) ?_
   with_reducible refine (Qah.calls k q7 _ _ q2 _ _ q3 _ _ q4 _ _ q5 _ _ q6 z3 j1 _ ?side1 ?side2 ?side3 ?side4 ?side5 ?side6 ?side7 ?side8 ?side9 ?side10 A4.out).mono ?_
   (case side1 => exact Cb z7 HB)
   (case side2 => exact z8.out)
   (case side3 => exact Cb z9 HB)
   (case side4 => exact y0.out)
   (case side5 => exact Cb y1 HB)
   (case side6 => exact y2.out)
   (case side7 => exact Cb y3 HB)
   (case side8 => exact y4.out)
   (case side9 => exact Cb y5 HB)
   (case side10 => exact y6.out)
   rintro e w14 ⟨rfl, hb⟩
   refine ⟨_, rfl, ?_⟩
   replace q0 := Bb q0 hb
   replace q1 := Bb q1 hb
   replace HB := bs HB hb
   (try clear hb)
   (try clear hb2)
   (try clear hk)
   (try clear hi)
   refine hK.out _ _ ⟨(blk_cell q0.out 0).trans rfl, (blk_cell q0.out 1).trans rfl, (blk_cell q0.out 2).trans rfl, (blk_cell q0.out 3).trans rfl, (blk_cell q0.out 4).trans rfl, (blk_cell q0.out 5).trans rfl⟩ (fun hHeld => ?_)
   clear hK K
   refine norm_ (a' := ?_) ?_ ?_
   rotate_left
   ·
    show Act.put _ (some 10) _ = _
    simp only [Act.put, List.setIfInBounds_toArray, List.set_cons_zero, List.set_cons_succ, i64_w, i32_w]
    rfl
   refine pure_ (i := 4) (N := some 6) (v := ?_) (a' := ?_) #[true, true, true, true, true] rfl rfl (by kernel_rfl) (fun _ _ _ h => h) (Or.inl ⟨by rfl, ?_⟩) ?_ ?_
   rotate_left
   ·
    intro w'
    go_simp
    with_reducible rfl
   rotate_left
   ·
    simp only [Act.put, List.setIfInBounds_toArray, List.set_cons_zero, List.set_cons_succ, i64_w, i32_w]
    rfl
   refine done_ (by kernel_rfl) ?_
   have Zy := z4.out
   have Zz := z5.out
   obtain ⟨Qg, Qh, Qi, Qj, Qk, Ql, Qm, Qn, Qo, Qp, Qq, Qr⟩ := cf6 q0
   try go_wp2_with (first | ((with_reducible refine gate_callee (f := 24) rfl ?_); refine gL (some 17) Try.func24 #[.agg #[.int .i64 q7, .slice j2 q2.length j3, .slice j4 q3.length j5, .slice j6 q4.length j7, .slice j8 q5.length j9, .slice z0 q6.length z1]] ?_; (with_reducible refine (Qbc.calls q7 _ _ q2 _ _ q3 _ _ q4 _ _ q5 _ _ q6 z2 _ ?side1 ?side2 ?side3 ?side4 ?side5 ?side6 ?side7 ?side8 ?side9 ?side10 A6.out).mono ?_); (case side1 => exact Cb z7 HB); (case side2 => exact z8.out); (case side3 => exact Cb z9 HB); (case side4 => exact y0.out); (case side5 => exact Cb y1 HB); (case side6 => exact y2.out); (case side7 => exact Cb y3 HB); (case side8 => exact y4.out); (case side9 => exact Cb y5 HB); (case side10 => exact y6.out); rintro e w17 ⟨rfl, hb⟩; refine ⟨_, rfl, ?_⟩; replace q0 := Bb q0 hb; replace q1 := Bb q1 hb; replace HB := bs HB hb; (try clear hb)) | ((with_reducible refine gate_callee (f := 25) rfl ?_); refine gL (some 19) Try.func25 #[.int .i64 a1, .int .i64 0, .int .i64 (wrap64 (z2 - 1))] ?_; (with_reducible refine (Qaq.calls a1 0 (wrap64 (z2 - 1)) true _ A7.out).mono ?_); rintro e w' ⟨rfl, ⟨nd, rfl⟩⟩; refine ⟨_, rfl, ?_⟩; (try (rw [drewN_self w17]; generalize hq_ : World.drewN w17 _ = w17; have n0_ : Qaa (w17.heap[q8]? = some (.cells #[.int .i64 q7, .slice j2 q2.length j3, .slice j4 q3.length j5, .slice j6 q4.length j7, .slice j8 q5.length j9, .slice z0 q6.length z1] 39 (0, 0))) := ⟨by rw [← hq_]; exact (blk_u q0.out)⟩; have n1_ : Qaa (w17.heap[j0]? = some (.cells #[.int .i64 0, .int .i64 0, .string (⟨#[]⟩ : ByteArray)] 41 (0, 0))) := ⟨by rw [← hq_]; exact (blk_u q1.out)⟩; have n2_ : Qaa (Below w.heap.size w w17) := ⟨by rw [← hq_]; exact (bl HB)⟩; clear q0 q1 HB hq_; have q0 := n0_; have q1 := n1_; have HB := n2_; clear n0_ n1_ n2_)); obtain ⟨Qs, Qt, Qu, Qv, Qw, Qx, Qy, Qz, Z0, Z1, Z2, Z3⟩ := cf6 q0) | ((with_reducible refine gate_callee (f := 26) rfl ?_); refine gL (some 24) Try.func26 #[.agg #[.int .i64 q7, .slice j2 q2.length j3, .slice j4 q3.length j5, .slice j6 q4.length j7, .slice j8 q5.length j9, .slice z0 q6.length z1], .int .i64 a1] ?_; (with_reducible refine (Qat.calls q7 _ _ q2 _ _ q3 _ _ q4 _ _ q5 _ _ q6 a1 y7 y8 y9 _ ?side1 ?side2 ?side3 ?side4 ?side5 ?side6 ?side7 ?side8 ?side9 ?side10 A9.out).mono ?_); (case side1 => exact Cb z7 HB); (case side2 => exact z8.out); (case side3 => exact Cb z9 HB); (case side4 => exact y0.out); (case side5 => exact Cb y1 HB); (case side6 => exact y2.out); (case side7 => exact Cb y3 HB); (case side8 => exact y4.out); (case side9 => exact Cb y5 HB); (case side10 => exact y6.out); rintro e w19 ⟨rfl, hb⟩; refine ⟨_, rfl, ?_⟩; replace q0 := Bb q0 hb; replace q1 := Bb q1 hb; replace HB := bs HB hb; (try clear hb); obtain ⟨Z4, Z5, Z6, Z7, Z8, Z9⟩ := cf3 q1))
   refine bodyPost_ret (results_ct rfl _ _ j0 41 #[.int .i64 y7, .int .i64 y8, .string y9] (0, 0) _ rfl (by apply blk_u; refine blk_put (cs := #[.int .i64 y7, .int .i64 y8, .string (⟨#[]⟩ : ByteArray)]) ?_ 2 _ rfl; apply blk_u; refine blk_put (cs := #[.int .i64 y7, .int .i64 0, .string (⟨#[]⟩ : ByteArray)]) ?_ 1 _ rfl; apply blk_u; refine blk_put (cs := #[.int .i64 0, .int .i64 0, .string (⟨#[]⟩ : ByteArray)]) ?_ 0 _ rfl; apply blk_u; exact q1.out) Try.underlying41 rfl (by kernel_rfl)) rfl ?_
   exact ⟨by first | rfl | (simp [errW_none, errW_some] <;> rfl) | (simp [*, errW_none, errW_some] <;> rfl), bl HB⟩
  ·
   replace c8 := Bool.eq_false_iff.mpr c8
   subst c8
   have H1 : (some (0, 0, (⟨#[]⟩ : ByteArray), 1)) = some (r1, r2, r3, r4) := by rw [if_neg (show ¬ (false = true) by decide)] at H; exact H
   clear H
   have H := H1
   clear H1
   simp only [Option.some.injEq, Prod.mk.injEq] at H
   obtain ⟨rfl, rfl, rfl, rfl⟩ := H
   go_enter Try.func8, Try.ntmps8
   try go_wp2_with (first | ((with_reducible refine gate_dst (N := 2) rfl ?_); refine bx 2 #[.int .i64 q7, .slice j2 q2.length j3, .slice j4 q3.length j5, .slice j6 q4.length j7, .slice j8 q5.length j9, .slice z0 q6.length z1] 39 ?_; intro q8 hg w21 hbox hb; have q0 := Qaa.mk (hbox); have Qa := Qaa.mk ((by rw [hg]; exact (below_size (bl HB)) : w.heap.size ≤ q8)); have Qb := Qaa.mk ((by rw [hg]; exact (below_size (bl HB)) : w.heap.size ≤ q8)); replace HB := bs HB hb; clear hb hbox hg) | ((with_reducible refine gate_dst (N := 4) rfl ?_); refine bx 4 #[.int .i64 0, .int .i64 0, .string (⟨#[]⟩ : ByteArray)] 41 ?_; intro j0 hg w22 hbox hb; have q1 := Qaa.mk (hbox); have Qc := Qaa.mk ((by rw [hg]; exact (below_size (bl HB)) : w.heap.size ≤ j0)); have Qd := Qaa.mk ((by rw [hg]; exact (below_size (bl HB)) : w.heap.size ≤ j0)); have z4 := Qaa.mk ((by rw [hg]; exact Nat.ne_of_lt (blk_lt (Ub q0)) : q8 ≠ j0)); have z5 := Qaa.mk ((by rw [hg]; exact Nat.ne_of_gt (blk_lt (Ub q0)) : j0 ≠ q8)); replace q0 := Bb q0 hb; replace HB := bs HB hb; clear hb hbox hg))
   replace q0 := Qaa.mk (blk_drew q0.out)
   replace q1 := Qaa.mk (blk_drew q1.out)
   replace HB := Qaa.mk (below_drew1 HB.out)
   refine start_ (n := 5) (S := fun w' => w'.cell? ⟨q8, 0, none⟩ = some (.int .i64 q7) ∧ w'.cell? ⟨q8, 1, none⟩ = some (.slice j2 q2.length j3) ∧ w'.cell? ⟨q8, 2, none⟩ = some (.slice j4 q3.length j5) ∧ w'.cell? ⟨q8, 3, none⟩ = some (.slice j6 q4.length j7) ∧ w'.cell? ⟨q8, 4, none⟩ = some (.slice j8 q5.length j9) ∧ w'.cell? ⟨q8, 5, none⟩ = some (.slice z0 q6.length z1)) (ds := []) #[false, false, false, false, false] (by kernel_rfl) rfl rfl ⟨(blk_cell q0.out 0).trans rfl, (blk_cell q0.out 1).trans rfl, (blk_cell q0.out 2).trans rfl, (blk_cell q0.out 3).trans rfl, (blk_cell q0.out 4).trans rfl, (blk_cell q0.out 5).trans rfl⟩ (fun hHeld => ?_)
   generalize w22.drew = w23 at q0 q1 HB hHeld ⊢
   refine take_ (i := 0) (N := some 7) (v := ?_) (a' := ?_) #[true, false, false, false, false] rfl rfl (by kernel_rfl) (fun _ _ _ h => h) (Or.inl ⟨by rfl, ?_⟩) hHeld ?_ ?_
   rotate_left
   ·
    rintro w' ⟨s0, s1, s2, s3, s4, s5⟩
    go_simp
    with_reducible rfl
   rotate_left
   ·
    simp only [Act.put, List.setIfInBounds_toArray, List.set_cons_zero, List.set_cons_succ, i64_w, i32_w]
    rfl
   refine take_ (i := 1) (N := some 8) (v := ?_) (a' := ?_) #[true, true, false, false, false] rfl rfl (by kernel_rfl) (fun _ _ _ h => h) (Or.inl ⟨by rfl, ?_⟩) hHeld ?_ ?_
   rotate_left
   ·
    rintro w' ⟨s0, s1, s2, s3, s4, s5⟩
    go_simp
    with_reducible rfl
   rotate_left
   ·
    simp only [Act.put, List.setIfInBounds_toArray, List.set_cons_zero, List.set_cons_succ, i64_w, i32_w]
    rfl
   refine one_ (i := 2) (N := some 9) #[true, true, true, false, false] rfl rfl (by kernel_rfl) (by decide) (fun K hK => ?_)
   refine goes_ Try.func24 (by kernel_rfl) rfl #[.agg #[.int .i64 q7, .slice j2 q2.length j3, .slice j4 q3.length j5, .slice j6 q4.length j7, .slice j8 q5.length j9, .slice z0 q6.length z1]] (by rfl) rfl rfl (by (try simp only [List.map_toArray, List.map_cons, List.map_nil]); first | done | rfl | (simp only [List.length_drop, List.length_take]; rfl)) ?_
   with_reducible refine (Qbc.calls q7 _ _ q2 _ _ q3 _ _ q4 _ _ q5 _ _ q6 z3 _ ?side1 ?side2 ?side3 ?side4 ?side5 ?side6 ?side7 ?side8 ?side9 ?side10 A3.out).mono ?_
   (case side1 => exact Cb z7 HB)
   (case side2 => exact z8.out)
   (case side3 => exact Cb z9 HB)
   (case side4 => exact y0.out)
   (case side5 => exact Cb y1 HB)
   (case side6 => exact y2.out)
   (case side7 => exact Cb y3 HB)
   (case side8 => exact y4.out)
   (case side9 => exact Cb y5 HB)
   (case side10 => exact y6.out)
   rintro e w24 ⟨rfl, hb⟩
   refine ⟨_, rfl, ?_⟩
   replace q0 := Bb q0 hb
   replace q1 := Bb q1 hb
   replace HB := bs HB hb
   (try clear hb)
   (try clear hb2)
   (try clear hk)
   (try clear hi)
   refine hK.out _ _ ⟨(blk_cell q0.out 0).trans rfl, (blk_cell q0.out 1).trans rfl, (blk_cell q0.out 2).trans rfl, (blk_cell q0.out 3).trans rfl, (blk_cell q0.out 4).trans rfl, (blk_cell q0.out 5).trans rfl⟩ (fun hHeld => ?_)
   clear hK K
   refine norm_ (a' := ?_) ?_ ?_
   rotate_left
   ·
    show Act.put _ (some 9) _ = _
    simp only [Act.put, List.setIfInBounds_toArray, List.set_cons_zero, List.set_cons_succ, i64_w, i32_w]
    rfl
   refine one_ (i := 3) (N := some 10) #[true, true, true, true, false] rfl rfl (by kernel_rfl) (by decide) (fun K hK => ?_)
   refine goes_ Try.func23 (by kernel_rfl) rfl #[.agg #[.int .i64 q7, .slice j2 q2.length j3, .slice j4 q3.length j5, .slice j6 q4.length j7, .slice j8 q5.length j9, .slice z0 q6.length z1], .int .i64 z3] (by rfl) rfl rfl (by (try simp only [List.map_toArray, List.map_cons, List.map_nil]); first | done | rfl | (simp only [List.length_drop, List.length_take]; rfl)) ?_
   with_reducible refine (Qah.calls k q7 _ _ q2 _ _ q3 _ _ q4 _ _ q5 _ _ q6 z3 j1 _ ?side1 ?side2 ?side3 ?side4 ?side5 ?side6 ?side7 ?side8 ?side9 ?side10 A4.out).mono ?_
   (case side1 => exact Cb z7 HB)
   (case side2 => exact z8.out)
   (case side3 => exact Cb z9 HB)
   (case side4 => exact y0.out)
   (case side5 => exact Cb y1 HB)
   (case side6 => exact y2.out)
   (case side7 => exact Cb y3 HB)
   (case side8 => exact y4.out)
   (case side9 => exact Cb y5 HB)
   (case side10 => exact y6.out)
   rintro e w25 ⟨rfl, hb⟩
   refine ⟨_, rfl, ?_⟩
   replace q0 := Bb q0 hb
   replace q1 := Bb q1 hb
   replace HB := bs HB hb
   (try clear hb)
   (try clear hb2)
   (try clear hk)
   (try clear hi)
   refine hK.out _ _ ⟨(blk_cell q0.out 0).trans rfl, (blk_cell q0.out 1).trans rfl, (blk_cell q0.out 2).trans rfl, (blk_cell q0.out 3).trans rfl, (blk_cell q0.out 4).trans rfl, (blk_cell q0.out 5).trans rfl⟩ (fun hHeld => ?_)
   clear hK K
   refine norm_ (a' := ?_) ?_ ?_
   rotate_left
   ·
    show Act.put _ (some 10) _ = _
    simp only [Act.put, List.setIfInBounds_toArray, List.set_cons_zero, List.set_cons_succ, i64_w, i32_w]
    rfl
   refine pure_ (i := 4) (N := some 6) (v := ?_) (a' := ?_) #[true, true, true, true, true] rfl rfl (by kernel_rfl) (fun _ _ _ h => h) (Or.inl ⟨by rfl, ?_⟩) ?_ ?_
   rotate_left
   ·
    intro w'
    go_simp
    with_reducible rfl
   rotate_left
   ·
    simp only [Act.put, List.setIfInBounds_toArray, List.set_cons_zero, List.set_cons_succ, i64_w, i32_w]
    rfl
   refine done_ (by kernel_rfl) ?_
   have J0 := z4.out
   have J1 := z5.out
   obtain ⟨Za, Zb, Zc, Zd, Ze, Zf, Zg, Zh, Zi, Zj, Zk, Zl⟩ := cf6 q0
   try go_wp2_with (first | ((with_reducible refine gate_callee (f := 24) rfl ?_); refine gL (some 17) Try.func24 #[.agg #[.int .i64 q7, .slice j2 q2.length j3, .slice j4 q3.length j5, .slice j6 q4.length j7, .slice j8 q5.length j9, .slice z0 q6.length z1]] ?_; (with_reducible refine (Qbc.calls q7 _ _ q2 _ _ q3 _ _ q4 _ _ q5 _ _ q6 z2 _ ?side1 ?side2 ?side3 ?side4 ?side5 ?side6 ?side7 ?side8 ?side9 ?side10 A6.out).mono ?_); (case side1 => exact Cb z7 HB); (case side2 => exact z8.out); (case side3 => exact Cb z9 HB); (case side4 => exact y0.out); (case side5 => exact Cb y1 HB); (case side6 => exact y2.out); (case side7 => exact Cb y3 HB); (case side8 => exact y4.out); (case side9 => exact Cb y5 HB); (case side10 => exact y6.out); rintro e w28 ⟨rfl, hb⟩; refine ⟨_, rfl, ?_⟩; replace q0 := Bb q0 hb; replace q1 := Bb q1 hb; replace HB := bs HB hb; (try clear hb)) | ((with_reducible refine gate_callee (f := 25) rfl ?_); refine gL (some 19) Try.func25 #[.int .i64 a1, .int .i64 0, .int .i64 (wrap64 (z2 - 1))] ?_; (with_reducible refine (Qaq.calls a1 0 (wrap64 (z2 - 1)) false _ A7.out).mono ?_); rintro e w' ⟨rfl, ⟨nd, rfl⟩⟩; refine ⟨_, rfl, ?_⟩; (try (rw [drewN_self w28]; generalize hq_ : World.drewN w28 _ = w28; have n0_ : Qaa (w28.heap[q8]? = some (.cells #[.int .i64 q7, .slice j2 q2.length j3, .slice j4 q3.length j5, .slice j6 q4.length j7, .slice j8 q5.length j9, .slice z0 q6.length z1] 39 (0, 0))) := ⟨by rw [← hq_]; exact (blk_u q0.out)⟩; have n1_ : Qaa (w28.heap[j0]? = some (.cells #[.int .i64 0, .int .i64 0, .string (⟨#[]⟩ : ByteArray)] 41 (0, 0))) := ⟨by rw [← hq_]; exact (blk_u q1.out)⟩; have n2_ : Qaa (Below w.heap.size w w28) := ⟨by rw [← hq_]; exact (bl HB)⟩; clear q0 q1 HB hq_; have q0 := n0_; have q1 := n1_; have HB := n2_; clear n0_ n1_ n2_)); obtain ⟨Zm, Zn, Zo, Zp, Zq, Zr⟩ := cf3 q1))
   refine bodyPost_ret (results_ct rfl _ _ j0 41 #[.int .i64 0, .int .i64 0, .string (⟨#[]⟩ : ByteArray)] (0, 0) _ rfl (by apply blk_u; refine blk_put (cs := #[.int .i64 0, .int .i64 0, .string (⟨#[]⟩ : ByteArray)]) ?_ 2 _ rfl; apply blk_u; refine blk_put (cs := #[.int .i64 0, .int .i64 0, .string (⟨#[]⟩ : ByteArray)]) ?_ 1 _ rfl; apply blk_u; refine blk_put (cs := #[.int .i64 0, .int .i64 0, .string (⟨#[]⟩ : ByteArray)]) ?_ 0 _ rfl; apply blk_u; exact q1.out) Try.underlying41 rfl (by kernel_rfl)) rfl ?_
   exact ⟨by first | rfl | (simp [errW_none, errW_some] <;> rfl) | (simp [*, errW_none, errW_some] <;> rfl), bl HB⟩
 ·
  rw [if_neg c5] at H
  have Qe : (j1 == 0) = false := beq_eq_false_iff_ne.mpr c5
  have Qf : (j1 != 0) = true := bne_iff_ne.mpr c5
  simp only [Option.some.injEq, Prod.mk.injEq] at H
  obtain ⟨rfl, rfl, rfl, rfl⟩ := H
  go_enter Try.func8, Try.ntmps8
  try go_wp2_with (first | ((with_reducible refine gate_dst (N := 2) rfl ?_); refine bx 2 #[.int .i64 q7, .slice j2 q2.length j3, .slice j4 q3.length j5, .slice j6 q4.length j7, .slice j8 q5.length j9, .slice z0 q6.length z1] 39 ?_; intro q8 hg w30 hbox hb; have q0 := Qaa.mk (hbox); have Qa := Qaa.mk ((by rw [hg]; exact (below_size (bl HB)) : w.heap.size ≤ q8)); have Qb := Qaa.mk ((by rw [hg]; exact (below_size (bl HB)) : w.heap.size ≤ q8)); replace HB := bs HB hb; clear hb hbox hg) | ((with_reducible refine gate_dst (N := 4) rfl ?_); refine bx 4 #[.int .i64 0, .int .i64 0, .string (⟨#[]⟩ : ByteArray)] 41 ?_; intro j0 hg w31 hbox hb; have q1 := Qaa.mk (hbox); have Qc := Qaa.mk ((by rw [hg]; exact (below_size (bl HB)) : w.heap.size ≤ j0)); have Qd := Qaa.mk ((by rw [hg]; exact (below_size (bl HB)) : w.heap.size ≤ j0)); have z4 := Qaa.mk ((by rw [hg]; exact Nat.ne_of_lt (blk_lt (Ub q0)) : q8 ≠ j0)); have z5 := Qaa.mk ((by rw [hg]; exact Nat.ne_of_gt (blk_lt (Ub q0)) : j0 ≠ q8)); replace q0 := Bb q0 hb; replace HB := bs HB hb; clear hb hbox hg))
  replace q0 := Qaa.mk (blk_drew q0.out)
  replace q1 := Qaa.mk (blk_drew q1.out)
  replace HB := Qaa.mk (below_drew1 HB.out)
  refine start_ (n := 5) (S := fun w' => w'.cell? ⟨q8, 0, none⟩ = some (.int .i64 q7) ∧ w'.cell? ⟨q8, 1, none⟩ = some (.slice j2 q2.length j3) ∧ w'.cell? ⟨q8, 2, none⟩ = some (.slice j4 q3.length j5) ∧ w'.cell? ⟨q8, 3, none⟩ = some (.slice j6 q4.length j7) ∧ w'.cell? ⟨q8, 4, none⟩ = some (.slice j8 q5.length j9) ∧ w'.cell? ⟨q8, 5, none⟩ = some (.slice z0 q6.length z1)) (ds := []) #[false, false, false, false, false] (by kernel_rfl) rfl rfl ⟨(blk_cell q0.out 0).trans rfl, (blk_cell q0.out 1).trans rfl, (blk_cell q0.out 2).trans rfl, (blk_cell q0.out 3).trans rfl, (blk_cell q0.out 4).trans rfl, (blk_cell q0.out 5).trans rfl⟩ (fun hHeld => ?_)
  generalize w31.drew = w32 at q0 q1 HB hHeld ⊢
  refine take_ (i := 0) (N := some 7) (v := ?_) (a' := ?_) #[true, false, false, false, false] rfl rfl (by kernel_rfl) (fun _ _ _ h => h) (Or.inl ⟨by rfl, ?_⟩) hHeld ?_ ?_
  rotate_left
  ·
   rintro w' ⟨s0, s1, s2, s3, s4, s5⟩
   go_simp
   with_reducible rfl
  rotate_left
  ·
   simp only [Act.put, List.setIfInBounds_toArray, List.set_cons_zero, List.set_cons_succ, i64_w, i32_w]
   rfl
  refine take_ (i := 1) (N := some 8) (v := ?_) (a' := ?_) #[true, true, false, false, false] rfl rfl (by kernel_rfl) (fun _ _ _ h => h) (Or.inl ⟨by rfl, ?_⟩) hHeld ?_ ?_
  rotate_left
  ·
   rintro w' ⟨s0, s1, s2, s3, s4, s5⟩
   go_simp
   with_reducible rfl
  rotate_left
  ·
   simp only [Act.put, List.setIfInBounds_toArray, List.set_cons_zero, List.set_cons_succ, i64_w, i32_w]
   rfl
  refine one_ (i := 2) (N := some 9) #[true, true, true, false, false] rfl rfl (by kernel_rfl) (by decide) (fun K hK => ?_)
  refine goes_ Try.func24 (by kernel_rfl) rfl #[.agg #[.int .i64 q7, .slice j2 q2.length j3, .slice j4 q3.length j5, .slice j6 q4.length j7, .slice j8 q5.length j9, .slice z0 q6.length z1]] (by rfl) rfl rfl (by (try simp only [List.map_toArray, List.map_cons, List.map_nil]); first | done | rfl | (simp only [List.length_drop, List.length_take]; rfl)) ?_
  with_reducible refine (Qbc.calls q7 _ _ q2 _ _ q3 _ _ q4 _ _ q5 _ _ q6 z3 _ ?side1 ?side2 ?side3 ?side4 ?side5 ?side6 ?side7 ?side8 ?side9 ?side10 A3.out).mono ?_
  (case side1 => exact Cb z7 HB)
  (case side2 => exact z8.out)
  (case side3 => exact Cb z9 HB)
  (case side4 => exact y0.out)
  (case side5 => exact Cb y1 HB)
  (case side6 => exact y2.out)
  (case side7 => exact Cb y3 HB)
  (case side8 => exact y4.out)
  (case side9 => exact Cb y5 HB)
  (case side10 => exact y6.out)
  rintro e w33 ⟨rfl, hb⟩
  refine ⟨_, rfl, ?_⟩
  replace q0 := Bb q0 hb
  replace q1 := Bb q1 hb
  replace HB := bs HB hb
  (try clear hb)
  (try clear hb2)
  (try clear hk)
  (try clear hi)
  refine hK.out _ _ ⟨(blk_cell q0.out 0).trans rfl, (blk_cell q0.out 1).trans rfl, (blk_cell q0.out 2).trans rfl, (blk_cell q0.out 3).trans rfl, (blk_cell q0.out 4).trans rfl, (blk_cell q0.out 5).trans rfl⟩ (fun hHeld => ?_)
  clear hK K
  refine norm_ (a' := ?_) ?_ ?_
  rotate_left
  ·
   show Act.put _ (some 9) _ = _
   simp only [Act.put, List.setIfInBounds_toArray, List.set_cons_zero, List.set_cons_succ, i64_w, i32_w]
   rfl
  refine one_ (i := 3) (N := some 10) #[true, true, true, true, false] rfl rfl (by kernel_rfl) (by decide) (fun K hK => ?_)
  refine goes_ Try.func23 (by kernel_rfl) rfl #[.agg #[.int .i64 q7, .slice j2 q2.length j3, .slice j4 q3.length j5, .slice j6 q4.length j7, .slice j8 q5.length j9, .slice z0 q6.length z1], .int .i64 z3] (by rfl) rfl rfl (by (try simp only [List.map_toArray, List.map_cons, List.map_nil]); first | done | rfl | (simp only [List.length_drop, List.length_take]; rfl)) ?_
  with_reducible refine (Qah.calls k q7 _ _ q2 _ _ q3 _ _ q4 _ _ q5 _ _ q6 z3 j1 _ ?side1 ?side2 ?side3 ?side4 ?side5 ?side6 ?side7 ?side8 ?side9 ?side10 A4.out).mono ?_
  (case side1 => exact Cb z7 HB)
  (case side2 => exact z8.out)
  (case side3 => exact Cb z9 HB)
  (case side4 => exact y0.out)
  (case side5 => exact Cb y1 HB)
  (case side6 => exact y2.out)
  (case side7 => exact Cb y3 HB)
  (case side8 => exact y4.out)
  (case side9 => exact Cb y5 HB)
  (case side10 => exact y6.out)
  rintro e w34 ⟨rfl, hb⟩
  refine ⟨_, rfl, ?_⟩
  replace q0 := Bb q0 hb
  replace q1 := Bb q1 hb
  replace HB := bs HB hb
  (try clear hb)
  (try clear hb2)
  (try clear hk)
  (try clear hi)
  refine hK.out _ _ ⟨(blk_cell q0.out 0).trans rfl, (blk_cell q0.out 1).trans rfl, (blk_cell q0.out 2).trans rfl, (blk_cell q0.out 3).trans rfl, (blk_cell q0.out 4).trans rfl, (blk_cell q0.out 5).trans rfl⟩ (fun hHeld => ?_)
  clear hK K
  refine norm_ (a' := ?_) ?_ ?_
  rotate_left
  ·
   show Act.put _ (some 10) _ = _
   simp only [Act.put, List.setIfInBounds_toArray, List.set_cons_zero, List.set_cons_succ, i64_w, i32_w]
   rfl
  refine pure_ (i := 4) (N := some 6) (v := ?_) (a' := ?_) #[true, true, true, true, true] rfl rfl (by kernel_rfl) (fun _ _ _ h => h) (Or.inl ⟨by rfl, ?_⟩) ?_ ?_
  rotate_left
  ·
   intro w'
   go_simp
   with_reducible rfl
  rotate_left
  ·
   simp only [Act.put, List.setIfInBounds_toArray, List.set_cons_zero, List.set_cons_succ, i64_w, i32_w]
   rfl
  refine done_ (by kernel_rfl) ?_
  have J2 := z5.out
  have J3 := z4.out
  obtain ⟨Zs, Zt, Zu, Zv, Zw, Zx⟩ := cf3 q1
  try go_wp2
  refine bodyPost_ret (results_ct rfl _ _ j0 41 #[.int .i64 0, .int .i64 0, .string (⟨#[]⟩ : ByteArray)] (0, 0) _ rfl (by apply blk_u; refine blk_put (cs := #[.int .i64 0, .int .i64 0, .string (⟨#[]⟩ : ByteArray)]) ?_ 2 _ rfl; apply blk_u; refine blk_put (cs := #[.int .i64 0, .int .i64 0, .string (⟨#[]⟩ : ByteArray)]) ?_ 1 _ rfl; apply blk_u; refine blk_put (cs := #[.int .i64 0, .int .i64 0, .string (⟨#[]⟩ : ByteArray)]) ?_ 0 _ rfl; apply blk_u; exact q1.out) Try.underlying41 rfl (by kernel_rfl)) rfl ?_
  exact ⟨by first | rfl | (simp [errW_none, errW_some] <;> rfl) | (simp [*, errW_none, errW_some] <;> rfl), bl HB⟩
end Go.Proofs.Ytphnmaobpefoiaa.XA
end
section
namespace Go.Proofs.Ytphnmaobpefoiaa.XA
open Go.RowKit Go.Proofs.YtphnmaobpefoiaaXW Go.Proofs.YtphnmaobpefoiaaW.PrintWords Go.Proofs.YtphnmaobpefoiaaW.PrintLast Go.Proofs.YtphnmaobpefoiaaW.PrintMore
attribute [local go_sem] max2_int min2_int max_two min_two max_three min_three max_four min_four sleq
set_option linter.unusedVariables false
set_option linter.unusedSimpArgs false
theorem eqA41 (d : Nat) (w : World) (x0 y0 : Int) (x1 y1 : Int) (x2 y2 : ByteArray) :
  (Op.equalIn (d + 2) 41 (.agg #[.int .i64 x0, .int .i64 x1, .string x2]) (.agg #[.int .i64 y0, .int .i64 y1, .string y2])).run Try.prog w = .ok (x0 == y0 && (x1 == y1 && (x2.toList == y2.toList))) w := by
 refine eqA_of Try.underlying41 (by kernel_rfl) ?_
 refine eqf_cons (by rfl) (by go_simp; rfl) (by go_simp; rfl) (by go_simp) ?_
 refine eqf_cons (by rfl) (by go_simp; rfl) (by go_simp; rfl) (by go_simp) ?_
 exact eqf_last (by rfl) (by go_simp; rfl) (by go_simp; rfl) (by go_simp)
end Go.Proofs.Ytphnmaobpefoiaa.XA
end
section
namespace Go.Proofs.Ytphnmaobpefoiaa.XA
open Go.RowKit Go.Proofs.YtphnmaobpefoiaaXW Go.Proofs.YtphnmaobpefoiaaW.PrintWords Go.Proofs.YtphnmaobpefoiaaW.PrintLast Go.Proofs.YtphnmaobpefoiaaW.PrintMore
attribute [local go_sem] max2_int min2_int max_two min_two max_three min_three max_four min_four sleq
set_option linter.unusedVariables false
set_option linter.unusedSimpArgs false
attribute [local go_sem high] eqA41
def Qbh.f (k : Nat)  : Option (Bool) := (Qbp.f k 2 ([] : List Bool) (([3, 4] : List Int)) ([] : List ByteArray) ([] : List ByteArray) ([] : List Int) 1).bind fun q1 => (if q1.2.2.2 = 0 then (some (q1.1 == 2 && (q1.2.1 == 4 && (q1.2.2.1.toList == ([] : List UInt8))))) else (some false))
set_option maxHeartbeats 8000000 in
set_option maxRecDepth 100000 in
theorem Qbh.calls (k : Nat)  (r : Bool) (w : World) (h : Qbh.f k  = some r) :
  Calls Try.prog 7 #[] w fun e w' => e = .returned (.bool r) ∧ Below w.heap.size w w' := by
 have hu39 := Try.underlying39
 have hu41 := Try.underlying41
 have HB := Qaa.mk (Below.refl w.heap.size w)
 have H : ((Qbp.f k 2 ([] : List Bool) (([3, 4] : List Int)) ([] : List ByteArray) ([] : List ByteArray) ([] : List Int) 1).bind fun q1 => (if q1.2.2.2 = 0 then (some (q1.1 == 2 && (q1.2.1 == 4 && (q1.2.2.1.toList == ([] : List UInt8))))) else (some false))) = some r := h
 clear h
 obtain ⟨y283, hy283⟩ : ∃ y_ : List Int, y_ = (([3, 4] : List Int)) := ⟨_, rfl⟩
 replace H : ((Qbp.f k 2 ([] : List Bool) y283 ([] : List ByteArray) ([] : List ByteArray) ([] : List Int) 1).bind fun q1 => (if q1.2.2.2 = 0 then (some (q1.1 == 2 && (q1.2.1 == 4 && (q1.2.2.1.toList == ([] : List UInt8))))) else (some false))) = some r := by first | (rw [hy283]; with_reducible exact H) | (have H2_ := (Option.bind_some _ _).symm.trans H; rw [hy283]; with_reducible exact H2_) | (have H2_ := (Option.bind_some _ _).symm.trans H; with_reducible exact H2_) | with_reducible exact H | (rw [hy283]; exact H) | exact H
 have Ny283 := Qaa.mk hy283
 clear hy283
 replace H := Option.bind_eq_some_iff.mp H
 obtain ⟨⟨q5, q6, q7, q2⟩, A10, H⟩ := H
 replace H : (if q2 = 0 then (some (q5 == 2 && (q6 == 4 && (q7.toList == ([] : List UInt8))))) else (some false)) = some r := H
 have A1 := Qaa.mk A10
 clear A10
 by_cases c2 : q2 = 0
 ·
  rw [if_pos c2] at H
  have j0 : (q2 == 0) = true := beq_iff_eq.mpr c2
  have j1 : (q2 != 0) = false := bne_eq_false_iff_eq.mpr c2
  clear c2
  obtain rfl := Option.some.inj H
  go_enter Try.func7, Try.ntmps7
  go_wp2_with (first | ((with_reducible refine gate_dst (N := 4) rfl ?_); refine Kd.R_lit (Kd.int .i64) _ 3 ?hg (N := 4) ?hd (xs := ([3, 4] : List Int)) (inner := [.int .i64 3, .int .i64 4]) (ok := fun _ => True) (okp := fun _ => True) ?hr ?hp (fun _ hk => hk) trivial (Below.refl _ _) (Nat.le_refl _) (by simp) ?_; (case hd => rfl); (case hg => rfl); (case hr => first | (go_simp; done) | (go_simp; rfl)); (case hp => exact (Reps.one (show Kd.M (Kd.int .i64) _ _ _ 3 [.int .i64 3] from rfl) (Reps.one (show Kd.M (Kd.int .i64) _ _ _ 4 [.int .i64 4] from rfl) (Reps.none _ _)))); intro j2 w3 ho4 hb hg_ hnew_; clear hg_ hnew_; (first | rw [← Ny283.out] at ho4 | (simp only [Int.reduceToNat] at ho4; rw [← Ny283.out] at ho4)); have q0 := Qaa.mk (Kd.R_lower ho4 (below_size (bl HB))); replace HB := bs HB hb; clear hb ho4; obtain ⟨z1, z2, eo5⟩ := Kd.R_slice q0.out; subst eo5) | ((with_reducible refine gate_callee (f := 8) rfl ?_); refine gL (some 6) Try.func8 #[.agg #[.int .i64 2, .slice none 0 0, .slice z1 y283.length z2, .slice none 0 0, .slice none 0 0, .slice none 0 0], .int .i64 1] ?_; (refine (Qbp.calls k 2 _ _ ([] : List Bool) _ _ y283 _ _ ([] : List ByteArray) _ _ ([] : List ByteArray) _ _ ([] : List Int) 1 q5 q6 q7 q2 _ ?side1 ?side2 ?side3 ?side4 ?side5 ?side6 ?side7 ?side8 ?side9 ?side10 A1.out).mono ?_); (case side1 => exact Kd.C_nil _ _); (case side2 => exact Nat.le_refl _); (case side3 => exact Cu (Kd.R_reads' q0.out).2.2); (case side4 => exact (Kd.R_reads' q0.out).2.1); (case side5 => exact Kd.C_nil _ _); (case side6 => exact Nat.le_refl _); (case side7 => exact Kd.C_nil _ _); (case side8 => exact Nat.le_refl _); (case side9 => exact Kd.C_nil _ _); (case side10 => exact Nat.le_refl _); rintro e w6 ⟨rfl, hb⟩; refine ⟨_, rfl, ?_⟩; replace q0 := Rb q0 hb; replace HB := bs HB hb; (try clear hb)) | ((with_reducible refine gate_dst (N := 1) rfl ?_); refine bx 1 #[.int .i64 0, .int .i64 0, .string (⟨#[]⟩ : ByteArray)] 41 ?_; intro q3 hg w7 hbox hb; have q4 := Qaa.mk (hbox); have q8 := Qaa.mk ((by rw [hg]; exact (below_size (bl HB)) : w.heap.size ≤ q3)); have q9 := Qaa.mk ((by rw [hg]; exact (below_size (bl HB)) : w.heap.size ≤ q3)); replace q0 := Rb q0 hb; replace HB := bs HB hb; clear hb hbox hg; obtain ⟨z3, z4, z5, z6, z7, z8⟩ := cf3 q4))
  go_ret
  exact ⟨by first | rfl | (simp [errW_none, errW_some] <;> rfl) | (simp [*, errW_none, errW_some] <;> rfl), bl HB⟩
 ·
  rw [if_neg c2] at H
  have j0 : (q2 == 0) = false := beq_eq_false_iff_ne.mpr c2
  have j1 : (q2 != 0) = true := bne_iff_ne.mpr c2
  obtain rfl := Option.some.inj H
  go_enter Try.func7, Try.ntmps7
  go_wp2_with (first | ((with_reducible refine gate_dst (N := 4) rfl ?_); refine Kd.R_lit (Kd.int .i64) _ 3 ?hg (N := 4) ?hd (xs := ([3, 4] : List Int)) (inner := [.int .i64 3, .int .i64 4]) (ok := fun _ => True) (okp := fun _ => True) ?hr ?hp (fun _ hk => hk) trivial (Below.refl _ _) (Nat.le_refl _) (by simp) ?_; (case hd => rfl); (case hg => rfl); (case hr => first | (go_simp; done) | (go_simp; rfl)); (case hp => exact (Reps.one (show Kd.M (Kd.int .i64) _ _ _ 3 [.int .i64 3] from rfl) (Reps.one (show Kd.M (Kd.int .i64) _ _ _ 4 [.int .i64 4] from rfl) (Reps.none _ _)))); intro j2 w9 ho10 hb hg_ hnew_; clear hg_ hnew_; (first | rw [← Ny283.out] at ho10 | (simp only [Int.reduceToNat] at ho10; rw [← Ny283.out] at ho10)); have q0 := Qaa.mk (Kd.R_lower ho10 (below_size (bl HB))); replace HB := bs HB hb; clear hb ho10; obtain ⟨j3, j4, eo11⟩ := Kd.R_slice q0.out; subst eo11) | ((with_reducible refine gate_callee (f := 8) rfl ?_); refine gL (some 6) Try.func8 #[.agg #[.int .i64 2, .slice none 0 0, .slice j3 y283.length j4, .slice none 0 0, .slice none 0 0, .slice none 0 0], .int .i64 1] ?_; (refine (Qbp.calls k 2 _ _ ([] : List Bool) _ _ y283 _ _ ([] : List ByteArray) _ _ ([] : List ByteArray) _ _ ([] : List Int) 1 q5 q6 q7 q2 _ ?side1 ?side2 ?side3 ?side4 ?side5 ?side6 ?side7 ?side8 ?side9 ?side10 A1.out).mono ?_); (case side1 => exact Kd.C_nil _ _); (case side2 => exact Nat.le_refl _); (case side3 => exact Cu (Kd.R_reads' q0.out).2.2); (case side4 => exact (Kd.R_reads' q0.out).2.1); (case side5 => exact Kd.C_nil _ _); (case side6 => exact Nat.le_refl _); (case side7 => exact Kd.C_nil _ _); (case side8 => exact Nat.le_refl _); (case side9 => exact Kd.C_nil _ _); (case side10 => exact Nat.le_refl _); rintro e w12 ⟨rfl, hb⟩; refine ⟨_, rfl, ?_⟩; replace q0 := Rb q0 hb; replace HB := bs HB hb; (try clear hb)) | ((with_reducible refine gate_dst (N := 1) rfl ?_); refine bx 1 #[.int .i64 0, .int .i64 0, .string (⟨#[]⟩ : ByteArray)] 41 ?_; intro q3 hg w13 hbox hb; have q4 := Qaa.mk (hbox); have q8 := Qaa.mk ((by rw [hg]; exact (below_size (bl HB)) : w.heap.size ≤ q3)); have q9 := Qaa.mk ((by rw [hg]; exact (below_size (bl HB)) : w.heap.size ≤ q3)); replace q0 := Rb q0 hb; replace HB := bs HB hb; clear hb hbox hg; obtain ⟨j5, j6, j7, j8, j9, z0⟩ := cf3 q4))
  go_ret
  exact ⟨by first | rfl | (simp [errW_none, errW_some] <;> rfl) | (simp [*, errW_none, errW_some] <;> rfl), bl HB⟩
end Go.Proofs.Ytphnmaobpefoiaa.XA
end
section
namespace Go.Proofs.Ytphnmaobpefoiaa.XA
open Go.RowKit Go.Proofs.YtphnmaobpefoiaaXW Go.Proofs.YtphnmaobpefoiaaW.PrintWords Go.Proofs.YtphnmaobpefoiaaW.PrintLast Go.Proofs.YtphnmaobpefoiaaW.PrintMore
attribute [local go_sem] max2_int min2_int max_two min_two max_three min_three max_four min_four sleq
set_option linter.unusedVariables false
set_option linter.unusedSimpArgs false
def Qbn.l0 : Nat → List Bool → List Bool → Int → Int → Option (Bool)
 | 0, _, _, _, _ => none
 | k + 1, x0, x1, x12, x13 => if x13 < x12 then (if 0 ≤ x13 then (if x13 < (x0.length : Int) then (if x13 < (x1.length : Int) then (if ((rdOf false x0 x13) != (rdOf false x1 x13)) = true then (some false) else (Qbn.l0 k x0 x1 x12 (wrap64 (x13 + 1)))) else (none)) else (none)) else (none)) else (some true)
def Qbn.f (k : Nat) (l0 : List Bool) (l1 : List Bool) : Option (Bool) := if (l0.length : Int) = (l1.length : Int) then (Qbn.l0 k l0 l1 (l0.length : Int) 0) else (some false)
end Go.Proofs.Ytphnmaobpefoiaa.XA
end
section
namespace Go.Proofs.Ytphnmaobpefoiaa.XA
open Go.RowKit Go.Proofs.YtphnmaobpefoiaaXW Go.Proofs.YtphnmaobpefoiaaW.PrintWords Go.Proofs.YtphnmaobpefoiaaW.PrintLast Go.Proofs.YtphnmaobpefoiaaW.PrintMore
attribute [local go_sem] max2_int min2_int max_two min_two max_three min_three max_four min_four sleq
set_option linter.unusedVariables false
set_option linter.unusedSimpArgs false
def Qbm.l0 : Nat → List Int → List Int → Int → Int → Option (Bool)
 | 0, _, _, _, _ => none
 | k + 1, x0, x1, x12, x13 => if x13 < x12 then (if 0 ≤ x13 then (if x13 < (x0.length : Int) then (if x13 < (x1.length : Int) then (if (rd x0 x13) = (rd x1 x13) then (Qbm.l0 k x0 x1 x12 (wrap64 (x13 + 1))) else (some false)) else (none)) else (none)) else (none)) else (some true)
def Qbm.f (k : Nat) (l0 : List Int) (l1 : List Int) : Option (Bool) := if (l0.length : Int) = (l1.length : Int) then (Qbm.l0 k l0 l1 (l0.length : Int) 0) else (some false)
end Go.Proofs.Ytphnmaobpefoiaa.XA
end
section
namespace Go.Proofs.Ytphnmaobpefoiaa.XA
open Go.RowKit Go.Proofs.YtphnmaobpefoiaaXW Go.Proofs.YtphnmaobpefoiaaW.PrintWords Go.Proofs.YtphnmaobpefoiaaW.PrintLast Go.Proofs.YtphnmaobpefoiaaW.PrintMore
attribute [local go_sem] max2_int min2_int max_two min_two max_three min_three max_four min_four sleq
set_option linter.unusedVariables false
set_option linter.unusedSimpArgs false
def Qbj.l0 : Nat → List ByteArray → List ByteArray → Int → Int → Option (Bool)
 | 0, _, _, _, _ => none
 | k + 1, x0, x1, x12, x13 => if x13 < x12 then (if 0 ≤ x13 then (if x13 < (x0.length : Int) then (if x13 < (x1.length : Int) then (if (rdOf ByteArray.empty x0 x13).toList = (rdOf ByteArray.empty x1 x13).toList then (Qbj.l0 k x0 x1 x12 (wrap64 (x13 + 1))) else (some false)) else (none)) else (none)) else (none)) else (some true)
def Qbj.f (k : Nat) (l0 : List ByteArray) (l1 : List ByteArray) : Option (Bool) := if (l0.length : Int) = (l1.length : Int) then (Qbj.l0 k l0 l1 (l0.length : Int) 0) else (some false)
end Go.Proofs.Ytphnmaobpefoiaa.XA
end
section
namespace Go.Proofs.Ytphnmaobpefoiaa.XA
open Go.RowKit Go.Proofs.YtphnmaobpefoiaaXW Go.Proofs.YtphnmaobpefoiaaW.PrintWords Go.Proofs.YtphnmaobpefoiaaW.PrintLast Go.Proofs.YtphnmaobpefoiaaW.PrintMore
attribute [local go_sem] max2_int min2_int max_two min_two max_three min_three max_four min_four sleq
set_option linter.unusedVariables false
set_option linter.unusedSimpArgs false
def Qbx.f (k : Nat) (j7 : Int) (j4 : List Bool) (j2 : List Int) (j0 : List ByteArray) (q7 : List ByteArray) (q5 : List Int) (j8 : Int) (j5 : List Bool) (j3 : List Int) (j1 : List ByteArray) (q8 : List ByteArray) (q6 : List Int) : Option (Bool) := if j7 = j8 then ((Qbn.f k j4 j5).bind fun Qa => (if Qa = true then ((Qbm.f k j2 j3).bind fun z1 => (if z1 = true then ((Qbj.f k j0 j1).bind fun j9 => (if j9 = true then ((Qbj.f k q7 q8).bind fun j6 => (if j6 = true then ((Qbm.f k q5 q6).bind fun q9 => (some q9)) else (some false))) else (some false))) else (some false))) else (some false))) else (some false)
end Go.Proofs.Ytphnmaobpefoiaa.XA
end
section
namespace Go.Proofs.Ytphnmaobpefoiaa.XA
open Go.RowKit Go.Proofs.YtphnmaobpefoiaaXW Go.Proofs.YtphnmaobpefoiaaW.PrintWords Go.Proofs.YtphnmaobpefoiaaW.PrintLast Go.Proofs.YtphnmaobpefoiaaW.PrintMore
theorem w_in (x : Int) (h0 : -4611686018427387904 ≤ x) (h1 : x ≤ 4611686018427387904) : wrap64 x = x := by unfold wrap64; omega
theorem rdOf_nat {α : Type} (d : α) (l : List α) (i : Nat) (h : i < l.length) : rdOf d l (i : Int) = l[i] := by
  simp [rdOf, List.getD_eq_getElem?_getD, h]
theorem rd_nat (l : List Int) (i : Nat) (h : i < l.length) : rd l (i : Int) = l[i] := by
  simp [rd, List.getD_eq_getElem?_getD, h]
theorem toList_ba (s : ByteArray) : s.toList = s.data.toList := Lib.toList_data s
theorem str_eq (s t : ByteArray) : s.toList = t.toList ↔ s = t := by
  rw [toList_ba, toList_ba]
  constructor
  · intro h
    cases s; cases t
    simp at h
    simp [h]
  · intro h; rw [h]
theorem str_nil (s : ByteArray) : s.toList = ([] : List UInt8) ↔ s = ⟨#[]⟩ := by
  have h := str_eq s ⟨#[]⟩
  rw [← h, toList_ba ⟨#[]⟩]
def okText (s : ByteArray) : Prop := s.size ≤ 200 ∧ ∀ i : Nat, i < s.size → 32 ≤ bt s i ∧ bt s i ≤ 126
def okNum (a n : Int) : Prop := (a = 1 → 0 ≤ n ∧ n ≤ 1) ∧ (a = 2 → -1000000000000000 ≤ n ∧ n ≤ 1000000000000000)
theorem textLoop (s : ByteArray) (hs : s.size ≤ 200) (x y : Int) (z : ByteArray) (d : Nat) : ∀ (k : Nat) (i : Nat), i + d = s.size → d < k →
    ∃ r, Qal.l0 k (s.size : Int) (i : Int) x y s = some r ∧ (r = 0 ↔ ∀ j : Nat, i ≤ j → j < s.size → 32 ≤ bt s j ∧ bt s j ≤ 126) := by
  induction d with
  | zero =>
    intro k i hi hk
    obtain ⟨k, rfl⟩ : ∃ m, k = m + 1 := ⟨k - 1, by omega⟩
    refine ⟨0, by simp only [Qal.l0]; rw [if_neg (by omega)], by simp; intro j h1 h2; omega⟩
  | succ d ih =>
    intro k i hi hk
    obtain ⟨k, rfl⟩ : ∃ m, k = m + 1 := ⟨k - 1, by omega⟩
    have hb := bt_range s i
    have hw : wrap64 (bt s (i : Int)) = bt s i := w_in _ (by omega) (by omega)
    have hw1 : wrap64 ((i : Int) + 1) = ((i + 1 : Nat) : Int) := by rw [w_in _ (by omega) (by omega)]; simp
    simp only [Qal.l0]
    rw [if_pos (by omega), if_pos (by omega), if_pos (by omega), hw]
    simp only [Qaq.f]
    by_cases h1 : (32 : Int) ≤ bt s i
    · rw [if_pos h1]
      simp only [Option.bind_some]
      by_cases h2 : bt s i ≤ 126
      · rw [if_pos (by simpa using h2), hw1]
        obtain ⟨r, hr, he⟩ := ih k (i + 1) (by omega) (by omega)
        refine ⟨r, hr, he.trans ⟨fun h j h3 h4 => ?_, fun h j h3 h4 => h j (by omega) h4⟩⟩
        rcases Nat.lt_or_ge i j with h5 | h5
        · exact h j h5 h4
        · have : j = i := by omega
          subst this; exact ⟨h1, h2⟩
      · rw [if_neg (by simpa using h2)]
        refine ⟨3, rfl, by simp, fun h => ?_⟩
        exact absurd (h i (Nat.le_refl _) (by omega)).2 h2
    · rw [if_neg h1]
      simp only [Option.bind_some]
      rw [if_neg (by simp)]
      refine ⟨3, rfl, by simp, fun h => ?_⟩
      exact absurd (h i (Nat.le_refl _) (by omega)).1 h1
theorem checkText_ev (s : ByteArray) (k : Nat) (hk : 300 ≤ k) : ∃ r, Qal.f k 3 0 s = some r ∧ (r = 0 ↔ okText s) := by
  obtain ⟨k, rfl⟩ : ∃ m, k = m + 1 := ⟨k - 1, by omega⟩
  unfold Qal.f
  rw [if_neg (by decide), if_neg (by decide)]
  simp only [Qal.j0]
  rw [if_neg (by decide)]
  simp only [if_true]
  by_cases h : (s.size : Int) > 200
  · rw [if_pos h]
    exact ⟨2, rfl, by simp, fun h2 => by have := h2.1; omega⟩
  · rw [if_neg h]
    obtain ⟨r, hr, he⟩ := textLoop s (by omega) 3 0 s s.size k 0 (by omega) (by omega)
    exact ⟨r, hr, he.trans ⟨fun h1 => ⟨by omega, fun i hi => h1 i (Nat.zero_le _) hi⟩, fun h1 j _ h2 => h1.2 j h2⟩⟩
theorem in_f (a b c : Int) : Qaq.f a b c = some (decide (b ≤ a ∧ a ≤ c)) := by
  unfold Qaq.f
  split
  · rename_i h; simp [h]
  · rename_i h; simp [h]
theorem range_f (a b c : Int) : Qbk.f a b c = some (if b ≤ a ∧ a ≤ c then 0 else 1) := by
  unfold Qbk.f
  rw [in_f]
  simp only [Option.bind_some]
  by_cases h : b ≤ a ∧ a ≤ c
  · rw [if_pos (by simpa using h), if_pos h]
  · rw [if_neg (by simpa using h), if_neg h]
theorem checkNum_ev (a n : Int) (ha : a = 1 ∨ a = 2) (k : Nat) (hk : 2 ≤ k) : ∃ r, Qal.f k a n ⟨#[]⟩ = some r ∧ (r = 0 ↔ okNum a n) := by
  obtain ⟨k, rfl⟩ : ∃ m, k = m + 1 := ⟨k - 1, by omega⟩
  have he : (⟨#[]⟩ : ByteArray).toList = ([] : List UInt8) := (str_nil _).2 rfl
  unfold Qal.f okNum
  rcases ha with rfl | rfl
  · rw [if_neg (by decide), if_pos rfl]
    simp only [Qal.j0]
    rw [if_pos (by decide), if_pos he]
    simp only [if_true, range_f, Option.bind_some]
    refine ⟨_, rfl, ?_⟩
    split <;> simp_all
  · rw [if_neg (by decide), if_neg (by decide)]
    simp only [Qal.j0]
    rw [if_pos (by decide), if_pos he, if_neg (by decide), range_f]
    simp only [Option.bind_some]
    refine ⟨_, rfl, ?_⟩
    split <;> simp_all
theorem textsLoop (l : List ByteArray) (hl : l.length < 4611686018427387904) (d : Nat) : ∀ (k : Nat) (i : Nat), i + d = l.length → d + 300 < k →
    ∃ r, Qak.l0 k l (l.length : Int) (i : Int) = some r ∧ (r = 0 ↔ ∀ (j : Nat) (h : j < l.length), i ≤ j → okText l[j]) := by
  induction d with
  | zero =>
    intro k i hi hk
    obtain ⟨k, rfl⟩ : ∃ m, k = m + 1 := ⟨k - 1, by omega⟩
    refine ⟨0, by simp only [Qak.l0]; rw [if_neg (by omega)], by simp; intro j h1 h2; omega⟩
  | succ d ih =>
    intro k i hi hk
    obtain ⟨k, rfl⟩ : ∃ m, k = m + 1 := ⟨k - 1, by omega⟩
    have hw1 : wrap64 ((i : Int) + 1) = ((i + 1 : Nat) : Int) := by rw [w_in _ (by omega) (by omega)]; simp
    simp only [Qak.l0]
    rw [if_pos (by omega), if_pos (by omega), if_pos (by omega), rdOf_nat _ _ _ (by omega)]
    simp only [Qbi.f, Option.bind_some]
    obtain ⟨r, hr, he⟩ := checkText_ev l[i] k (by omega)
    rw [hr]
    simp only [Option.bind_some]
    by_cases h0 : r = 0
    · rw [if_pos h0, hw1]
      obtain ⟨q, hq, hqe⟩ := ih k (i + 1) (by omega) (by omega)
      refine ⟨q, hq, hqe.trans ⟨fun h j h3 h4 => ?_, fun h j h3 h4 => h j h3 (by omega)⟩⟩
      rcases Nat.lt_or_ge i j with h5 | h5
      · exact h j h3 h5
      · have : j = i := by omega
        subst this; exact he.1 h0
    · rw [if_neg h0]
      refine ⟨r, rfl, fun h => absurd h h0, fun h => ?_⟩
      exact absurd (he.2 (h i (by omega) (Nat.le_refl _))) h0
theorem checkTexts_ev (l : List ByteArray) (hl : l.length < 4611686018427387904) (k : Nat) (hk : l.length + 300 < k) : ∃ r, Qak.f k l = some r ∧ (r = 0 ↔ ∀ s ∈ l, okText s) := by
  obtain ⟨r, hr, he⟩ := textsLoop l hl l.length k 0 (by omega) (by omega)
  refine ⟨r, hr, he.trans ⟨fun h s hs => ?_, fun h j hj _ => h _ (List.getElem_mem hj)⟩⟩
  obtain ⟨j, hj, rfl⟩ := List.getElem_of_mem hs
  exact h j hj (Nat.zero_le _)
theorem indexLoop (l : List Bool) (b : Bool) (hl : l.length < 4611686018427387904) (d : Nat) : ∀ (k : Nat) (i : Nat), i + d = l.length → d < k →
    ∃ r, Qas.l0 k l b (l.length : Int) (i : Int) = some r ∧ (0 ≤ r ↔ ∃ (j : Nat) (h : j < l.length), i ≤ j ∧ l[j] = b) := by
  induction d with
  | zero =>
    intro k i hi hk
    obtain ⟨k, rfl⟩ : ∃ m, k = m + 1 := ⟨k - 1, by omega⟩
    refine ⟨-1, by simp only [Qas.l0]; rw [if_neg (by omega)], ?_⟩
    constructor
    · intro h; omega
    · rintro ⟨j, h1, h2, _⟩; omega
  | succ d ih =>
    intro k i hi hk
    obtain ⟨k, rfl⟩ : ∃ m, k = m + 1 := ⟨k - 1, by omega⟩
    have hw1 : wrap64 ((i : Int) + 1) = ((i + 1 : Nat) : Int) := by rw [w_in _ (by omega) (by omega)]; simp
    simp only [Qas.l0]
    rw [if_pos (by omega), if_pos (by omega), if_pos (by omega), rdOf_nat _ _ _ (by omega)]
    by_cases h0 : b = l[i]
    · rw [if_pos (by simp [← h0])]
      refine ⟨i, rfl, fun _ => ⟨i, by omega, Nat.le_refl _, h0.symm⟩, fun _ => by omega⟩
    · rw [if_neg (by simpa using h0), hw1]
      obtain ⟨q, hq, hqe⟩ := ih k (i + 1) (by omega) (by omega)
      refine ⟨q, hq, hqe.trans ⟨fun ⟨j, h1, h2, h3⟩ => ⟨j, h1, by omega, h3⟩, fun ⟨j, h1, h2, h3⟩ => ?_⟩⟩
      rcases Nat.lt_or_ge i j with h5 | h5
      · exact ⟨j, h1, h5, h3⟩
      · have : j = i := by omega
        subst this; exact absurd h3.symm h0
theorem contains_ev (l : List Bool) (b : Bool) (hl : l.length < 4611686018427387904) (k : Nat) (hk : l.length < k) : Qay.f k l b = some (decide (b ∈ l)) := by
  obtain ⟨r, hr, he⟩ := indexLoop l b hl l.length k 0 (by omega) hk
  unfold Qay.f Qas.f
  rw [show ((0 : Int)) = ((0 : Nat) : Int) from rfl, hr]
  simp only [Option.bind_some]
  congr 1
  rw [decide_eq_decide]
  have h2 : (0 ≤ r) ↔ b ∈ l := he.trans ⟨fun ⟨j, h1, _, h3⟩ => h3 ▸ List.getElem_mem h1, fun h => by
    obtain ⟨j, h1, h3⟩ := List.getElem_of_mem h
    exact ⟨j, h1, Nat.zero_le _, h3⟩⟩
  exact h2
end Go.Proofs.Ytphnmaobpefoiaa.XA
end
section
namespace Go.Proofs.Ytphnmaobpefoiaa.XA
open Go.RowKit Go.Proofs.YtphnmaobpefoiaaXW Go.Proofs.YtphnmaobpefoiaaW.PrintWords Go.Proofs.YtphnmaobpefoiaaW.PrintLast Go.Proofs.YtphnmaobpefoiaaW.PrintMore
def hasD (dc : List ByteArray) (cd : List Int) : Bool := !(dc.isEmpty && cd.isEmpty)
theorem hasD_f {a : Int} {nl : List Bool} {nm : List Int} {tx dc : List ByteArray} {cd : List Int} : Qar.f a nl nm tx dc cd = some (hasD dc cd) := by
  unfold Qar.f hasD
  cases dc with
  | cons x l => simp
  | nil =>
    cases cd with
    | nil => simp
    | cons x l => simp
theorem hasD_false {dc : List ByteArray} {cd : List Int} : hasD dc cd = false ↔ dc = [] ∧ cd = [] := by
  cases dc <;> cases cd <;> simp [hasD]
def FormOk (a : Int) (nl : List Bool) (nm : List Int) (tx dc : List ByteArray) (cd : List Int) (n : Int) : Prop :=
  (nl = [] ∨ ((nl.length : Int) = n ∧ true ∈ nl)) ∧ (a ≠ 3 → tx = [] ∧ dc = [] ∧ cd = [] ∧ (nm.length : Int) = n) ∧
  (a = 3 → nm = [] ∧ dc.length ≤ 1000 ∧ (hasD dc cd = true → tx = [] ∧ (cd.length : Int) = n) ∧ (hasD dc cd = false → (tx.length : Int) = n))
theorem len_pos {α : Type} (l : List α) : ((l.length : Int) > 0) ↔ l ≠ [] := by
  cases l <;> simp
theorem form_j0 (a : Int) (nl : List Bool) (nm : List Int) (tx dc : List ByteArray) (cd : List Int) (n : Int) (x : Bool) (k : Nat) (hk : 10 ≤ k) :
    ∃ r, Qab.j0 k n x a nl nm tx dc cd = some r ∧ (r = 0 ↔ x = false ∧ (a ≠ 3 → tx = [] ∧ dc = [] ∧ cd = [] ∧ (nm.length : Int) = n) ∧
  (a = 3 → nm = [] ∧ dc.length ≤ 1000 ∧ (hasD dc cd = true → tx = [] ∧ (cd.length : Int) = n) ∧ (hasD dc cd = false → (tx.length : Int) = n))) := by
  obtain ⟨k, rfl⟩ : ∃ m, k = m + 4 := ⟨k - 4, by omega⟩
  simp only [Qab.j0]
  by_cases hx : x = true
  · rw [if_pos hx]
    exact ⟨3, rfl, by simp [hx]⟩
  rw [if_neg hx]
  have hx' : x = false := by simpa using hx
  by_cases ha : a = 3
  · rw [if_pos ha]
    have e1 : ∀ y, Qab.j4 (k + 1) y = some (if y = true then 3 else 0) := by
      intro y; simp only [Qab.j4]; split <;> rfl
    have e2 : ∀ (x5 y : Bool), Qab.j3 (k + 2) n x5 y a nl nm tx dc cd = some (if y = true then 3 else if x5 = true then (if (cd.length : Int) = n then 0 else 3) else (if (tx.length : Int) = n then 0 else 3)) := by
      intro x5 y
      simp only [Qab.j3, e1]
      by_cases h : (tx.length : Int) = n <;> by_cases h2 : (cd.length : Int) = n <;> cases y <;> cases x5 <;> simp [h, h2]
    have e3 : ∀ (x5 : Bool), Qab.j2 (k + 3) n x5 a nl nm tx dc cd = some (if nm ≠ [] ∨ (x5 = true ∧ tx ≠ []) ∨ dc.length > 1000 then 3 else if x5 = true then (if (cd.length : Int) = n then 0 else 3) else (if (tx.length : Int) = n then 0 else 3)) := by
      intro x5
      simp only [Qab.j2, e2, len_pos]
      have hd : ((dc.length : Int) > 1000) ↔ dc.length > 1000 := by omega
      simp only [hd]
      by_cases h1 : nm = [] <;> by_cases h2 : tx = [] <;> by_cases h3 : dc.length > 1000 <;> cases x5 <;> simp [h1, h2, h3]
    have e4 : (if (dc.length : Int) > 0 then Qab.j2 (k + 3) n true a nl nm tx dc cd else Qab.j2 (k + 3) n (decide ((cd.length : Int) > 0)) a nl nm tx dc cd) = Qab.j2 (k + 3) n (hasD dc cd) a nl nm tx dc cd := by
      cases dc with
      | cons y l => rw [if_pos (by simp)]; simp [hasD]
      | nil =>
        rw [if_neg (by simp)]
        cases cd with
        | nil => simp [hasD]
        | cons y l => simp [hasD]
    rw [e4, e3]
    refine ⟨_, rfl, ?_⟩
    simp only [hx', ha, true_and, ne_eq, not_true, false_implies, true_implies]
    by_cases h1 : nm = [] <;> by_cases h2 : tx = [] <;> by_cases h3 : dc.length > 1000 <;> cases hd : hasD dc cd <;> simp [h1, h2, h3] <;> omega
  · rw [if_neg ha]
    have e1 : ∀ y, Qab.j1 (k + 3) y = some (if y = true then 3 else 0) := by
      intro y; simp only [Qab.j1]; split <;> rfl
    simp only [e1, len_pos]
    simp only [hx', ha, true_and, false_implies, and_true, ne_eq, not_false_iff, true_implies]
    by_cases h1 : tx = [] <;> by_cases h2 : dc = [] <;> by_cases h3 : cd = [] <;> by_cases h4 : (nm.length : Int) = n <;> simp [h1, h2, h3, h4]
theorem form_ev (a : Int) (nl : List Bool) (nm : List Int) (tx dc : List ByteArray) (cd : List Int) (n : Int) (hn : n ≤ 1000) (k : Nat) (hk : 2000 ≤ k) :
    ∃ r, Qab.f k a nl nm tx dc cd n = some r ∧ (r = 0 ↔ FormOk a nl nm tx dc cd n) := by
  unfold Qab.f FormOk
  by_cases h1 : nl = []
  · rw [if_neg (by rw [len_pos]; simp [h1])]
    obtain ⟨r, hr, he⟩ := form_j0 a nl nm tx dc cd n false k (by omega)
    exact ⟨r, hr, he.trans (by simp [h1])⟩
  · rw [if_pos ((len_pos _).2 h1)]
    by_cases h2 : (nl.length : Int) = n
    · rw [if_pos h2, contains_ev nl true (by omega) k (by omega)]
      simp only [Option.bind_some]
      obtain ⟨r, hr, he⟩ := form_j0 a nl nm tx dc cd n (!decide (true ∈ nl)) k (by omega)
      exact ⟨r, hr, he.trans (by simp [h1, h2])⟩
    · rw [if_neg h2]
      obtain ⟨r, hr, he⟩ := form_j0 a nl nm tx dc cd n true k (by omega)
      exact ⟨r, hr, he.trans (by simp [h1, h2])⟩
def nullAt (nl : List Bool) (i : Nat) : Bool := nl.getD i false
theorem null_f {a : Int} {nl : List Bool} {nm : List Int} {tx dc : List ByteArray} {cd : List Int} {i : Nat} (h : nl = [] ∨ i < nl.length) : Qaz.f a nl nm tx dc cd (i : Int) = some (nullAt nl i) := by
  unfold Qaz.f nullAt
  rcases h with rfl | h
  · simp
  · rw [if_pos (by omega), if_pos (by omega), if_pos (by omega)]
    rfl
def RowOk (a : Int) (nl : List Bool) (nm : List Int) (tx dc : List ByteArray) (cd : List Int) (i : Nat) : Prop :=
  (a ≠ 3 → (nullAt nl i = true → nm.getD i 0 = 0) ∧ (nullAt nl i = false → okNum a (nm.getD i 0))) ∧
  (a = 3 → hasD dc cd = false → nullAt nl i = true → tx.getD i ⟨#[]⟩ = ⟨#[]⟩) ∧
  (a = 3 → hasD dc cd = true → (nullAt nl i = true → cd.getD i 0 = 0) ∧ (nullAt nl i = false → 0 ≤ cd.getD i 0 ∧ cd.getD i 0 < dc.length))
theorem rd_getD (l : List Int) (i : Nat) : rd l (i : Int) = l.getD i 0 := by simp [rd]
theorem rdOf_getD {α : Type} (d : α) (l : List α) (i : Nat) : rdOf d l (i : Int) = l.getD i d := by simp [rdOf]
theorem row_ev {a : Int} {nl : List Bool} {nm : List Int} {tx dc : List ByteArray} {cd : List Int} {n : Nat} (ha : 1 ≤ a ∧ a ≤ 3) (hF : FormOk a nl nm tx dc cd n) (i : Nat) (hi : i < n) (k : Nat) (hk : 300 ≤ k) :
    ∃ r, Qag.f k a nl nm tx dc cd (i : Int) = some r ∧ (r = 0 ↔ RowOk a nl nm tx dc cd i) := by
  obtain ⟨k, rfl⟩ : ∃ m, k = m + 1 := ⟨k - 1, by omega⟩
  unfold Qag.f
  rw [null_f (by rcases hF.1 with h | h; exact .inl h; exact .inr (by omega))]
  simp only [Option.bind_some]
  unfold RowOk
  by_cases h3 : a = 3
  · obtain ⟨_, hdl, hc, ht⟩ := hF.2.2 h3
    rw [if_pos h3, hasD_f]
    simp only [Option.bind_some]
    cases hd : hasD dc cd with
    | true =>
      obtain ⟨_, hcl⟩ := hc hd
      rw [if_pos rfl]
      simp only [h3, ne_eq, not_true, false_implies, true_implies, true_and, Bool.true_eq_false, Bool.false_eq_true]
      have hw : wrap64 ((dc.length : Int) - 1) = (dc.length : Int) - 1 := w_in _ (by omega) (by omega)
      cases hnl : nullAt nl i with
      | true =>
        rw [if_pos rfl, if_pos (by omega), if_pos (by omega)]
        simp only [Qag.j0, rd_getD]
        generalize cd.getD i 0 = x
        by_cases h0 : x = 0
        · exact ⟨0, by simp [h0], by simp [h0]⟩
        · exact ⟨3, by simp [h0], by simp [h0]⟩
      | false =>
        rw [if_neg (by simp)]
        simp only [Qag.j0, rd_getD]
        generalize cd.getD i 0 = x
        simp only [Bool.false_eq_true, if_false]
        rw [if_pos (by omega), if_pos (by omega), range_f, hw]
        simp only [Option.bind_some]
        refine ⟨_, rfl, ?_⟩
        by_cases h0 : 0 ≤ x ∧ x ≤ (dc.length : Int) - 1
        · rw [if_pos h0]; simp; omega
        · rw [if_neg h0]; simp; omega
    | false =>
      have htl := ht hd
      rw [if_neg (by simp)]
      simp only [h3, ne_eq, not_true, false_implies, true_implies, true_and, Bool.true_eq_false, Bool.false_eq_true, and_true]
      cases hnl : nullAt nl i with
      | true =>
        rw [if_pos rfl, if_pos (by omega), if_pos (by omega)]
        rw [rdOf_getD, show ByteArray.empty = (⟨#[]⟩ : ByteArray) from rfl]
        generalize tx.getD i ⟨#[]⟩ = x
        by_cases h0 : x = ⟨#[]⟩
        · rw [if_pos ((str_nil _).2 h0)]; exact ⟨0, rfl, by simp [h0]⟩
        · rw [if_neg (fun h => h0 ((str_nil _).1 h))]; exact ⟨3, rfl, by simp [h0]⟩
      | false =>
        rw [if_neg (by simp)]
        exact ⟨0, rfl, by simp⟩
  · obtain ⟨_, _, _, hnm⟩ := hF.2.1 h3
    rw [if_neg h3]
    simp only [h3, ne_eq, not_false_iff, false_implies, true_implies, and_true]
    cases hnl : nullAt nl i with
    | true =>
      rw [if_pos rfl, if_pos (by omega), if_pos (by omega)]
      simp only [Qag.j1, rd_getD]
      generalize nm.getD i 0 = x
      by_cases h0 : x = 0
      · exact ⟨0, by simp [h0], by simp [h0]⟩
      · exact ⟨3, by simp [h0], by simp [h0]⟩
    | false =>
      rw [if_neg (by simp)]
      simp only [Qag.j1, rd_getD, Bool.false_eq_true, if_false]
      rw [if_pos (by omega), if_pos (by omega)]
      obtain ⟨r, hr, he⟩ := checkNum_ev a (nm.getD i 0) (by omega) k (by omega)
      rw [hr]
      exact ⟨r, rfl, by simpa using he⟩
structure Valid (a : Int) (nl : List Bool) (nm : List Int) (tx dc : List ByteArray) (cd : List Int) (n : Nat) : Prop where
  le : n ≤ 1000
  kind : 1 ≤ a ∧ a ≤ 3
  form : FormOk a nl nm tx dc cd n
  okd : ∀ s ∈ dc, okText s
  okt : ∀ s ∈ tx, okText s
  ord : ∀ (i : Nat) (h : i + 1 < dc.length), Op.bytesLess dc[i].toList dc[i + 1].toList = true
  row : ∀ i, i < n → RowOk a nl nm tx dc cd i
theorem rowsLoop {a : Int} {nl : List Bool} {nm : List Int} {tx dc : List ByteArray} {cd : List Int} {n : Nat} (hn : n ≤ 1000) (ha : 1 ≤ a ∧ a ≤ 3) (hF : FormOk a nl nm tx dc cd n) (d : Nat) : ∀ (k : Nat) (i : Nat), i + d = n → d + 300 < k →
    ∃ r, Qah.l1 k (n : Int) (i : Int) a nl nm tx dc cd = some r ∧ (r = 0 ↔ ∀ j, i ≤ j → j < n → RowOk a nl nm tx dc cd j) := by
  induction d with
  | zero =>
    intro k i hi hk
    obtain ⟨k, rfl⟩ : ∃ m, k = m + 1 := ⟨k - 1, by omega⟩
    refine ⟨0, by simp only [Qah.l1]; rw [if_neg (by omega)], by simp; intro j h1 h2; omega⟩
  | succ d ih =>
    intro k i hi hk
    obtain ⟨k, rfl⟩ : ∃ m, k = m + 1 := ⟨k - 1, by omega⟩
    have hw1 : wrap64 ((i : Int) + 1) = ((i + 1 : Nat) : Int) := by rw [w_in _ (by omega) (by omega)]; simp
    simp only [Qah.l1]
    rw [if_pos (by omega)]
    obtain ⟨r, hr, he⟩ := row_ev ha hF i (by omega) k (by omega)
    rw [hr]
    simp only [Option.bind_some]
    by_cases h0 : r = 0
    · rw [if_pos h0, hw1]
      obtain ⟨q, hq, hqe⟩ := ih k (i + 1) (by omega) (by omega)
      refine ⟨q, hq, hqe.trans ⟨fun h j h3 h4 => ?_, fun h j h3 h4 => h j (by omega) h4⟩⟩
      rcases Nat.lt_or_ge i j with h5 | h5
      · exact h j h5 h4
      · have : j = i := by omega
        subst this; exact he.1 h0
    · rw [if_neg h0]
      refine ⟨r, rfl, fun h => absurd h h0, fun h => ?_⟩
      exact absurd (he.2 (h i (Nat.le_refl _) (by omega))) h0
theorem dictLoop {a : Int} {nl : List Bool} {nm : List Int} {tx dc : List ByteArray} {cd : List Int} {n : Nat} (hn : n ≤ 1000) (ha : 1 ≤ a ∧ a ≤ 3) (hF : FormOk a nl nm tx dc cd n) (hd : dc.length ≤ 1000) (d : Nat) : ∀ (k : Nat) (i : Nat), i + d = dc.length → d + 1400 < k →
    ∃ r, Qah.l0 k (n : Int) dc (dc.length : Int) (i : Int) a nl nm tx dc cd = some r ∧ (r = 0 ↔ (∀ (j : Nat) (h : j + 1 < dc.length), i ≤ j + 1 → Op.bytesLess dc[j].toList dc[j + 1].toList = true) ∧ ∀ j, j < n → RowOk a nl nm tx dc cd j) := by
  induction d with
  | zero =>
    intro k i hi hk
    obtain ⟨k, rfl⟩ : ∃ m, k = m + 1 := ⟨k - 1, by omega⟩
    simp only [Qah.l0]
    rw [if_neg (by omega)]
    obtain ⟨r, hr, he⟩ := rowsLoop hn ha hF n k 0 (by omega) (by omega)
    refine ⟨r, hr, he.trans ⟨fun h => ⟨fun j h1 h2 => by omega, fun j hj => h j (Nat.zero_le _) hj⟩, fun h j _ hj => h.2 j hj⟩⟩
  | succ d ih =>
    intro k i hi hk
    obtain ⟨k, rfl⟩ : ∃ m, k = m + 1 := ⟨k - 1, by omega⟩
    have hw1 : wrap64 ((i : Int) + 1) = ((i + 1 : Nat) : Int) := by rw [w_in _ (by omega) (by omega)]; simp
    simp only [Qah.l0]
    rw [if_pos (by omega), if_pos (by omega), if_pos (by omega), hw1]
    obtain ⟨q, hq, hqe⟩ := ih k (i + 1) (by omega) (by omega)
    by_cases h0 : (i : Int) > 0
    · obtain ⟨j, rfl⟩ : ∃ m, i = m + 1 := ⟨i - 1, by omega⟩
      have hw2 : wrap64 (((j + 1 : Nat) : Int) - 1) = (j : Int) := by rw [w_in _ (by omega) (by omega)]; omega
      rw [if_pos h0, hw2, if_pos (by omega), if_pos (by omega), rdOf_nat _ _ _ (by omega), rdOf_nat _ _ _ (by omega)]
      by_cases hb : Op.bytesLess dc[j].toList dc[j + 1].toList = true
      · rw [if_pos hb]
        refine ⟨q, hq, hqe.trans ⟨fun h => ⟨fun m h3 h4 => ?_, h.2⟩, fun h => ⟨fun m h3 h4 => h.1 m h3 (by omega), h.2⟩⟩⟩
        rcases Nat.lt_or_ge j m with h5 | h5
        · exact h.1 m h3 (by omega)
        · have : m = j := by omega
          subst this; exact hb
      · rw [if_neg hb]
        exact ⟨8, rfl, by simp, fun h => absurd (h.1 j (by omega) (Nat.le_refl _)) hb⟩
    · rw [if_neg h0]
      refine ⟨q, hq, hqe.trans ⟨fun h => ⟨fun m h3 h4 => h.1 m h3 (by omega), h.2⟩, fun h => ⟨fun m h3 h4 => h.1 m h3 (by omega), h.2⟩⟩⟩
theorem check_ev (a : Int) (nl : List Bool) (nm : List Int) (tx dc : List ByteArray) (cd : List Int) (n : Int) (k : Nat) (hk : 5000 ≤ k) :
    ∃ r, Qah.f k a nl nm tx dc cd n = some r ∧ (r = 0 ↔ 0 ≤ n ∧ Valid a nl nm tx dc cd n.toNat) := by
  unfold Qah.f
  rw [in_f]
  simp only [Option.bind_some]
  by_cases h1 : 0 ≤ n ∧ n ≤ 1000
  rotate_left
  · rw [if_neg (by simpa using h1)]
    refine ⟨1, rfl, by simp, fun h => absurd ⟨h.1, ?_⟩ h1⟩
    have := h.2.le; omega
  rw [if_pos (by simpa using h1), in_f]
  simp only [Option.bind_some]
  obtain ⟨n, rfl⟩ : ∃ m : Nat, n = m := ⟨n.toNat, by omega⟩
  have hn : n ≤ 1000 := by omega
  simp only [Int.toNat_natCast]
  by_cases h2 : 1 ≤ a ∧ a ≤ 3
  rotate_left
  · rw [if_neg (by simpa using h2)]
    exact ⟨4, rfl, by simp, fun h => absurd h.2.kind h2⟩
  rw [if_pos (by simpa using h2)]
  obtain ⟨r, hr, he⟩ := form_ev a nl nm tx dc cd n (by omega) k (by omega)
  rw [hr]
  simp only [Option.bind_some]
  by_cases h3 : r = 0
  rotate_left
  · rw [if_neg h3]
    exact ⟨r, rfl, fun h => absurd h h3, fun h => absurd (he.2 h.2.form) h3⟩
  rw [if_pos h3]
  have hF := he.1 h3
  have hd : dc.length ≤ 1000 := by
    by_cases h4 : a = 3
    · exact (hF.2.2 h4).2.1
    · rw [(hF.2.1 h4).2.1]; simp
  have ht : tx.length ≤ 1000 := by
    by_cases h4 : a = 3
    · cases h5 : hasD dc cd with
      | true => rw [((hF.2.2 h4).2.2.1 h5).1]; simp
      | false => have := (hF.2.2 h4).2.2.2 h5; omega
    · rw [(hF.2.1 h4).1]; simp
  obtain ⟨r2, hr2, he2⟩ := checkTexts_ev dc (by omega) k (by omega)
  rw [hr2]
  simp only [Option.bind_some]
  by_cases h4 : r2 = 0
  rotate_left
  · rw [if_neg h4]
    exact ⟨r2, rfl, fun h => absurd h h4, fun h => absurd (he2.2 h.2.okd) h4⟩
  rw [if_pos h4]
  obtain ⟨r3, hr3, he3⟩ := checkTexts_ev tx (by omega) k (by omega)
  rw [hr3]
  simp only [Option.bind_some]
  by_cases h5 : r3 = 0
  rotate_left
  · rw [if_neg h5]
    exact ⟨r3, rfl, fun h => absurd h h5, fun h => absurd (he3.2 h.2.okt) h5⟩
  rw [if_pos h5]
  obtain ⟨q, hq, hqe⟩ := dictLoop hn h2 hF hd dc.length k 0 (by omega) (by omega)
  refine ⟨q, hq, hqe.trans ⟨fun h => ⟨by omega, hn, h2, hF, he2.1 h4, he3.1 h5, fun i hi => h.1 i hi (Nat.zero_le _), h.2⟩, fun h => ⟨fun j hj _ => h.2.ord j hj, h.2.row⟩⟩⟩
end Go.Proofs.Ytphnmaobpefoiaa.XA
end
section
namespace Go.Proofs.Ytphnmaobpefoiaa.XA
open Go.RowKit Go.Sort Go.Proofs.YtphnmaobpefoiaaXW Go.Proofs.YtphnmaobpefoiaaW.PrintWords Go.Proofs.YtphnmaobpefoiaaW.PrintLast Go.Proofs.YtphnmaobpefoiaaW.PrintMore
abbrev e0 : ByteArray := ⟨#[]⟩
abbrev nullV : S41 := ⟨0, 0, e0⟩
def valAt (a : Int) (nl : List Bool) (nm : List Int) (tx dc : List ByteArray) (cd : List Int) (i : Nat) : S41 :=
  if nullAt nl i = true then nullV else if a = 3 then (if hasD dc cd = true then ⟨3, 0, dc.getD (cd.getD i 0).toNat e0⟩ else ⟨3, 0, tx.getD i e0⟩) else ⟨a, nm.getD i 0, e0⟩
section
variable {a : Int} {nl : List Bool} {nm : List Int} {tx dc : List ByteArray} {cd : List Int} {n : Nat}
theorem Valid.nl_len (h : Valid a nl nm tx dc cd n) (i : Nat) (hi : i < n) : nl = [] ∨ i < nl.length := by
  rcases h.form.1 with h1 | h1
  · exact .inl h1
  · exact .inr (by omega)
theorem at_f (h : Valid a nl nm tx dc cd n) (i : Nat) (hi : i < n) : Qat.f a nl nm tx dc cd (i : Int) = some ((valAt a nl nm tx dc cd i).f0, (valAt a nl nm tx dc cd i).f1, (valAt a nl nm tx dc cd i).f2) := by
  unfold Qat.f
  rw [null_f (h.nl_len i hi)]
  simp only [Option.bind_some]
  unfold valAt
  have hr := h.row i hi
  cases hn : nullAt nl i with
  | true => simp
  | false =>
    simp only [Bool.false_eq_true, if_false]
    by_cases h3 : a = 3
    · obtain ⟨_, _, hc, ht⟩ := h.form.2.2 h3
      rw [if_pos h3, if_pos h3, hasD_f]
      simp only [Option.bind_some]
      cases hd : hasD dc cd with
      | true =>
        have hcl := (hc hd).2
        have hr2 := (hr.2.2 h3 hd).2 hn
        simp only [if_true, rd_getD]
        rw [if_pos (by omega), if_pos (by omega), if_pos hr2.1, if_pos hr2.2]
        rfl
      | false =>
        have htl := ht hd
        simp only [Bool.false_eq_true, if_false]
        rw [if_pos (by omega), if_pos (by omega)]
        rfl
    · obtain ⟨_, _, _, hnm⟩ := h.form.2.1 h3
      rw [if_neg h3, if_neg h3, if_pos (by omega), if_pos (by omega), rd_getD]
def longN (nm : List Int) (tx : List ByteArray) (cd : List Int) : Nat := max (max nm.length tx.length) cd.length
theorem long_f : Qbc.f a nl nm tx dc cd = some ((longN nm tx cd : Nat) : Int) := by
  unfold Qbc.f longN
  split <;> split <;> congr 1 <;> omega
theorem Valid.long (h : Valid a nl nm tx dc cd n) : longN nm tx cd = n := by
  unfold longN
  by_cases h3 : a = 3
  · obtain ⟨h1, _, hc, ht⟩ := h.form.2.2 h3
    subst h1
    cases hd : hasD dc cd with
    | true => obtain ⟨h2, h4⟩ := hc hd; subst h2; simp; omega
    | false =>
      obtain ⟨_, h4⟩ := hasD_false.1 hd
      have := ht hd
      subst h4; simp; omega
  · obtain ⟨h1, _, h2, h4⟩ := h.form.2.1 h3
    subst h1; subst h2; simp; omega
end
def nullsOf (l : List S41) : List Bool := l.map fun v => v.f0 == 0
def onlyNulls (l : List Bool) : List Bool := if true ∈ l then l else []
def numsOf (a : Int) (l : List S41) : List Int := if a = 3 then [] else l.map (·.f1)
def textsOf (a : Int) (l : List S41) : List ByteArray := if a = 3 then l.map (·.f2) else []
theorem rdT_nat (l : List S41) (i : Nat) (h : i < l.length) : rd_T41 l (i : Int) = l[i] := by
  simp [rd_T41, List.getD_eq_getElem?_getD, h]
theorem ofLoop (a x : Int) (l : List S41) (hl : l.length ≤ 1000000) (d : Nat) : ∀ (k : Nat) (i : Nat), i + d = l.length → l.length + d + 1 < k →
    Qax.l0 k a (nullsOf (l.take i)) l (l.length : Int) (i : Int) x (numsOf a (l.take i)) (textsOf a (l.take i)) = some (x, onlyNulls (nullsOf l), numsOf a l, textsOf a l, [], []) := by
  induction d with
  | zero =>
    intro k i hi hk
    obtain ⟨k, rfl⟩ : ∃ m, k = m + 1 := ⟨k - 1, by omega⟩
    simp only [Qax.l0]
    rw [if_neg (by omega)]
    rw [List.take_of_length_le (by omega), contains_ev _ _ (by simp [nullsOf]; omega) k (by simp [nullsOf]; omega)]
    simp only [Option.bind_some, onlyNulls]
    by_cases h : true ∈ nullsOf l
    · rw [if_pos (by simpa using h), if_pos h]
    · rw [if_neg (by simpa using h), if_neg h]
  | succ d ih =>
    intro k i hi hk
    obtain ⟨k, rfl⟩ : ∃ m, k = m + 1 := ⟨k - 1, by omega⟩
    have hw1 : wrap64 ((i : Int) + 1) = ((i + 1 : Nat) : Int) := by rw [w_in _ (by omega) (by omega)]; simp
    have ht : l.take (i + 1) = l.take i ++ [l[i]] := by rw [List.take_succ_eq_append_getElem (by omega)]
    have e1 : nullsOf (l.take (i + 1)) = nullsOf (l.take i) ++ [l[i].f0 == 0] := by simp only [nullsOf, ht, List.map_append, List.map_cons, List.map_nil]
    simp only [Qax.l0]
    rw [if_pos (by omega), if_pos (by omega), if_pos (by omega), rdT_nat _ _ (by omega)]
    simp only [Qbs.f, Option.bind_some]
    rw [if_pos (by simp [nullsOf]; omega), ← e1, hw1]
    have := ih k (i + 1) (by omega) (by omega)
    by_cases h3 : a = 3
    · rw [if_pos h3, if_pos (by simp [textsOf, h3]; omega)]
      have e2 : textsOf a (l.take (i + 1)) = textsOf a (l.take i) ++ [l[i].f2] := by simp only [textsOf, if_pos h3, ht, List.map_append, List.map_cons, List.map_nil]
      have e3 : numsOf a (l.take (i + 1)) = numsOf a (l.take i) := by simp [numsOf, h3]
      rw [e2, e3] at this
      exact this
    · rw [if_neg h3, if_pos (by simp [numsOf, h3]; omega)]
      have e2 : textsOf a (l.take (i + 1)) = textsOf a (l.take i) := by simp [textsOf, h3]
      have e3 : numsOf a (l.take (i + 1)) = numsOf a (l.take i) ++ [l[i].f1] := by simp only [numsOf, if_neg h3, ht, List.map_append, List.map_cons, List.map_nil]
      rw [e2, e3] at this
      exact this
theorem of_f (a : Int) (l : List S41) (hl : l.length ≤ 1000000) (k : Nat) (hk : 2 * l.length + 1 < k) : Qax.f k a l = some (a, onlyNulls (nullsOf l), numsOf a l, textsOf a l, [], []) := by
  have := ofLoop a a l hl l.length k 0 (by omega) (by omega)
  simp only [List.take_zero] at this
  unfold Qax.f
  have e1 : numsOf a [] = [] := by unfold numsOf; split <;> rfl
  have e2 : textsOf a [] = [] := by unfold textsOf; split <;> rfl
  rw [e1, e2] at this
  exact this
def ColVal (a : Int) (v : S41) : Prop := v = nullV ∨ (v.f0 = a ∧ (a = 3 → v.f1 = 0 ∧ okText v.f2) ∧ (a ≠ 3 → v.f2 = e0 ∧ okNum a v.f1))
theorem Valid.colVal {a : Int} {nl : List Bool} {nm : List Int} {tx dc : List ByteArray} {cd : List Int} {n : Nat} (h : Valid a nl nm tx dc cd n) (i : Nat) (hi : i < n) : ColVal a (valAt a nl nm tx dc cd i) := by
  unfold valAt
  have hr := h.row i hi
  cases hn : nullAt nl i with
  | true => simp [ColVal]
  | false =>
    simp only [Bool.false_eq_true, if_false]
    right
    by_cases h3 : a = 3
    · obtain ⟨_, _, hc, ht⟩ := h.form.2.2 h3
      rw [if_pos h3]
      cases hd : hasD dc cd with
      | true =>
        have hr2 := (hr.2.2 h3 hd).2 hn
        simp only [if_true]
        refine ⟨h3.symm, fun _ => ⟨by simp, ?_⟩, fun h => absurd h3 h⟩
        have hj : (cd.getD i 0).toNat < dc.length := by omega
        show okText (dc.getD (cd.getD i 0).toNat e0)
        rw [List.getD_eq_getElem?_getD, List.getElem?_eq_getElem hj]
        exact h.okd _ (List.getElem_mem hj)
      | false =>
        have htl := ht hd
        simp only [Bool.false_eq_true, if_false]
        refine ⟨h3.symm, fun _ => ⟨by simp, ?_⟩, fun h => absurd h3 h⟩
        have hj : i < tx.length := by omega
        show okText (tx.getD i e0)
        rw [List.getD_eq_getElem?_getD, List.getElem?_eq_getElem hj]
        exact h.okt _ (List.getElem_mem hj)
    · rw [if_neg h3]
      exact ⟨rfl, fun h => absurd h h3, fun _ => ⟨rfl, (hr.1 h3).2 hn⟩⟩
theorem nullAt_only (l : List S41) (i : Nat) (hi : i < l.length) : nullAt (onlyNulls (nullsOf l)) i = (l[i].f0 == 0) := by
  unfold onlyNulls nullAt
  have e : (nullsOf l).getD i false = (l[i].f0 == 0) := by simp [nullsOf, List.getD_eq_getElem?_getD, hi]
  by_cases h : true ∈ nullsOf l
  · rw [if_pos h, e]
  · rw [if_neg h]
    have h1 : (l[i].f0 == 0) ≠ true := fun h2 => h (by
      rw [← h2]; simp only [nullsOf]; exact List.mem_map.2 ⟨l[i], List.getElem_mem hi, rfl⟩)
    simpa using h1
theorem onlyNulls_form (l : List S41) : onlyNulls (nullsOf l) = [] ∨ (((onlyNulls (nullsOf l)).length : Int) = (l.length : Nat) ∧ true ∈ onlyNulls (nullsOf l)) := by
  unfold onlyNulls
  by_cases h : true ∈ nullsOf l
  · rw [if_pos h]; exact .inr ⟨by simp [nullsOf], h⟩
  · rw [if_neg h]; exact .inl rfl
theorem ColVal.null_iff {a : Int} {v : S41} (ha : 1 ≤ a) (h : ColVal a v) : v.f0 = 0 ↔ v = nullV := by
  constructor
  · intro h0
    rcases h with h | h
    · exact h
    · omega
  · intro h0; rw [h0]
theorem ColVal.empty {a : Int} {v : S41} (h : ColVal a v) (h3 : a ≠ 3) : v.f2 = e0 := by
  rcases h with h | h
  · rw [h]
  · exact (h.2.2 h3).1
theorem okText_e0 : okText e0 := ⟨by decide, fun i hi => absurd hi (by simp [ByteArray.size])⟩
theorem ColVal.okT {v : S41} (h : ColVal 3 v) : okText v.f2 ∧ v.f1 = 0 := by
  rcases h with h | h
  · rw [h]; exact ⟨okText_e0, rfl⟩
  · exact ⟨(h.2.1 rfl).2, (h.2.1 rfl).1⟩
theorem S41_ext {v w : S41} (h0 : v.f0 = w.f0) (h1 : v.f1 = w.f1) (h2 : v.f2 = w.f2) : v = w := by
  cases v; cases w; simp_all
theorem of_valid {a : Int} (ha : 1 ≤ a ∧ a ≤ 3) {l : List S41} (hl : l.length ≤ 1000) (h : ∀ v ∈ l, ColVal a v) : Valid a (onlyNulls (nullsOf l)) (numsOf a l) (textsOf a l) [] [] l.length where
  le := hl
  kind := ha
  form := ⟨onlyNulls_form l, fun h3 => ⟨by simp [textsOf, h3], rfl, rfl, by simp [numsOf, h3]⟩, fun h3 => ⟨by simp [numsOf, h3], by simp, fun hd => by simp [hasD] at hd, fun _ => by simp [textsOf, h3]⟩⟩
  okd := by simp
  okt := by
    intro s hs
    unfold textsOf at hs
    split at hs
    · rename_i h3
      obtain ⟨v, hv, rfl⟩ := List.mem_map.1 hs
      subst h3
      exact (h v hv).okT.1
    · cases hs
  ord := by intro i hi; simp at hi
  row := by
    intro i hi
    have hc := h l[i] (List.getElem_mem hi)
    have hn := nullAt_only l i hi
    refine ⟨fun h3 => ?_, fun h3 _ hnl => ?_, fun _ hd => by simp [hasD] at hd⟩
    · have e : (numsOf a l).getD i 0 = l[i].f1 := by simp [numsOf, h3, List.getD_eq_getElem?_getD, hi]
      rw [e, hn]
      constructor
      · intro h0
        have := (hc.null_iff ha.1).1 (by simpa using h0)
        rw [this]
      · intro h0
        rcases hc with hc | hc
        · rw [hc] at h0; simp at h0
        · exact (hc.2.2 h3).2
    · rw [hn] at hnl
      have := (hc.null_iff ha.1).1 (by simpa using hnl)
      simp [textsOf, h3, List.getD_eq_getElem?_getD, hi, this]
theorem of_vals {a : Int} (ha : 1 ≤ a ∧ a ≤ 3) {l : List S41} (h : ∀ v ∈ l, ColVal a v) (i : Nat) (hi : i < l.length) : valAt a (onlyNulls (nullsOf l)) (numsOf a l) (textsOf a l) [] [] i = l[i] := by
  have hc := h l[i] (List.getElem_mem hi)
  unfold valAt
  rw [nullAt_only l i hi]
  by_cases h0 : l[i].f0 = 0
  · rw [if_pos (by simpa using h0)]
    exact ((hc.null_iff ha.1).1 h0).symm
  · rw [if_neg (by simpa using h0)]
    have hc2 := hc.resolve_left (fun h1 => h0 (by rw [h1]))
    by_cases h3 : a = 3
    · rw [if_pos h3, if_neg (by simp [hasD])]
      apply S41_ext
      · simp [hc2.1, h3]
      · simp [(hc2.2.1 h3).1]
      · simp [textsOf, h3, List.getD_eq_getElem?_getD, hi]
    · rw [if_neg h3]
      apply S41_ext
      · simp [hc2.1]
      · simp [numsOf, h3, List.getD_eq_getElem?_getD, hi]
      · exact (hc.empty h3).symm
end Go.Proofs.Ytphnmaobpefoiaa.XA
end
section
namespace Go.Proofs.Ytphnmaobpefoiaa.XA
open Go.RowKit Go.Sort Go.Proofs.YtphnmaobpefoiaaXW Go.Proofs.YtphnmaobpefoiaaW.PrintWords Go.Proofs.YtphnmaobpefoiaaW.PrintLast Go.Proofs.YtphnmaobpefoiaaW.PrintMore
abbrev BL := List UInt8
theorem bl_trans {a b c : BL} (h1 : a < b) (h2 : b < c) : a < c := List.lt_trans h1 h2
theorem bl_irrefl (a : BL) : ¬ a < a := List.lt_irrefl a
theorem bl_le (a b : BL) : a ≤ b ↔ a < b ∨ a = b := List.le_iff_lt_or_eq
theorem compact_upto {zs : List BL} (hs : ∀ (i j : Nat) (hi : i < j) (hj : j < zs.length), zs[i] ≤ zs[j]) (m : Nat) (hm : m ≤ zs.length) :
    (Lib.compactUpTo zs.toArray m).Pairwise (· < ·) ∧ ∀ x, x ∈ Lib.compactUpTo zs.toArray m ↔ ∃ (j : Nat) (h : j < zs.length), j < m ∧ zs[j] = x := by
  induction m with
  | zero => simp [Lib.compactUpTo]
  | succ m ih =>
    obtain ⟨ih1, ih2⟩ := ih (by omega)
    have hb : ∀ (j : Nat) (h : j < zs.length), zs.toArray[j]! = zs[j] := fun j h => by simp [h]
    rw [Lib.compactUpTo_succ]
    by_cases hk : Lib.keeps zs.toArray m = true
    · rw [if_pos hk, hb m (by omega)]
      have hk2 : m = 0 ∨ zs.toArray[m]! ≠ zs.toArray[m - 1]! := by simpa [Lib.keeps] using hk
      refine ⟨List.pairwise_append.2 ⟨ih1, by simp, ?_⟩, ?_⟩
      · intro x hx y hy
        rw [List.mem_singleton.1 hy]
        obtain ⟨j, h1, h2, h3⟩ := (ih2 x).1 hx
        have hle : x ≤ zs[m] := by rw [← h3]; exact hs j m h2 (by omega)
        rcases (bl_le _ _).1 hle with h4 | h4
        · exact h4
        · exfalso
          rcases hk2 with h5 | h5
          · omega
          · rw [hb m (by omega), hb (m - 1) (by omega)] at h5
            have h6 : zs[m - 1] ≤ zs[m] := hs (m - 1) m (by omega) (by omega)
            have h7 : x ≤ zs[m - 1] := by
              rcases Nat.lt_or_ge j (m - 1) with h8 | h8
              · rw [← h3]; exact hs j (m - 1) h8 (by omega)
              · have : j = m - 1 := by omega
                subst this; rw [h3]; exact List.le_refl _
            rw [h4] at h7
            rcases (bl_le _ _).1 h6 with h8 | h8
            · rcases (bl_le _ _).1 h7 with h9 | h9
              · exact bl_irrefl _ (bl_trans h8 h9)
              · exact h5 h9
            · exact h5 h8.symm
      · intro x
        rw [List.mem_append, ih2, List.mem_singleton]
        constructor
        · rintro (⟨j, h1, h2, h3⟩ | h3)
          · exact ⟨j, h1, by omega, h3⟩
          · exact ⟨m, by omega, by omega, h3.symm⟩
        · rintro ⟨j, h1, h2, h3⟩
          rcases Nat.lt_or_ge j m with h4 | h4
          · exact .inl ⟨j, h1, h4, h3⟩
          · have : j = m := by omega
            subst this; exact .inr h3.symm
    · rw [if_neg hk, List.append_nil]
      have hk2 : ¬ (m = 0 ∨ zs.toArray[m]! ≠ zs.toArray[m - 1]!) := by simpa [Lib.keeps] using hk
      have hm0 : m ≠ 0 := fun h => hk2 (.inl h)
      have he : zs[m] = zs[m - 1] := by
        have h1 : zs.toArray[m]! = zs.toArray[m - 1]! := Classical.byContradiction fun h => hk2 (.inr h)
        rwa [hb m (by omega), hb (m - 1) (by omega)] at h1
      refine ⟨ih1, fun x => (ih2 x).trans ⟨fun ⟨j, h1, h2, h3⟩ => ⟨j, h1, by omega, h3⟩, fun ⟨j, h1, h2, h3⟩ => ?_⟩⟩
      rcases Nat.lt_or_ge j m with h4 | h4
      · exact ⟨j, h1, h4, h3⟩
      · have : j = m := by omega
        subst this
        exact ⟨j - 1, by omega, by omega, by rw [← he]; exact h3⟩
def dictOf (l : List ByteArray) : List ByteArray := compactB (sortB l)
theorem map_bytesL_sortB (l : List ByteArray) : (sortB l).map bytesL = (l.map bytesL).mergeSort fun x y => decide (x ≤ y) := by
  unfold sortB
  rw [List.map_map]
  conv => rhs; rw [← List.map_id ((l.map bytesL).mergeSort fun x y => decide (x ≤ y))]
  apply List.map_congr_left
  intro x _
  exact bytesL_ofBytes x
theorem dict_spec (l : List ByteArray) : ((dictOf l).map bytesL).Pairwise (· < ·) ∧ (∀ s, s ∈ dictOf l ↔ s ∈ l) ∧ (dictOf l).length ≤ l.length := by
  have hs : ∀ (i j : Nat) (hi : i < j) (hj : j < ((sortB l).map bytesL).length), ((sortB l).map bytesL)[i] ≤ ((sortB l).map bytesL)[j] := by
    have h := List.pairwise_mergeSort (le := fun x y : BL => decide (x ≤ y)) (fun a b c h1 h2 => by simp at *; exact List.le_trans h1 h2) (fun a b => by simp; exact List.le_total a b) (l.map bytesL)
    rw [← map_bytesL_sortB] at h
    intro i j hi hj
    have := List.pairwise_iff_getElem.1 h i j (by omega) hj hi
    simpa using this
  obtain ⟨h1, h2⟩ := compact_upto hs _ (Nat.le_refl _)
  have e : (dictOf l).map bytesL = Lib.compactUpTo ((sortB l).map bytesL).toArray ((sortB l).map bytesL).length := by
    unfold dictOf compactB Lib.compact
    rw [List.map_map]
    conv => rhs; rw [← List.map_id (Lib.compactUpTo ((sortB l).map bytesL).toArray ((sortB l).map bytesL).length)]
    apply List.map_congr_left
    intro x _
    exact bytesL_ofBytes x
  refine ⟨by rw [e]; exact h1, fun s => ?_, ?_⟩
  · have h3 : s ∈ dictOf l ↔ bytesL s ∈ (dictOf l).map bytesL := by
      constructor
      · exact fun h => List.mem_map.2 ⟨s, h, rfl⟩
      · intro h
        obtain ⟨t, ht, he⟩ := List.mem_map.1 h
        have : t = s := by rw [← ofBytes_bytesL t, he, ofBytes_bytesL]
        rwa [← this]
    rw [h3, e, h2]
    have h4 : (∃ (j : Nat) (h : j < ((sortB l).map bytesL).length), j < ((sortB l).map bytesL).length ∧ ((sortB l).map bytesL)[j] = bytesL s) ↔ bytesL s ∈ (sortB l).map bytesL := by
      constructor
      · rintro ⟨j, h, _, h5⟩; exact h5 ▸ List.getElem_mem h
      · intro h
        obtain ⟨j, hj, h5⟩ := List.getElem_of_mem h
        exact ⟨j, hj, hj, h5⟩
    rw [h4, map_bytesL_sortB, List.mem_mergeSort]
    constructor
    · intro h
      obtain ⟨t, ht, he⟩ := List.mem_map.1 h
      have : t = s := by rw [← ofBytes_bytesL t, he, ofBytes_bytesL]
      rwa [← this]
    · exact fun h => List.mem_map.2 ⟨s, h, rfl⟩
  · exact Nat.le_trans (compactB_le _) (by rw [sortB_length]; exact Nat.le_refl _)
theorem less_f (a b : ByteArray) : Qbl.f a b = some (decide (bytesL a < bytesL b)) := by
  unfold Qbl.f Qba.f
  simp only [Option.bind_some, bne_self_eq_false, Bool.false_eq_true, if_false, bytesLess_eq, toList_ba]
  rfl
def Inc (D : List ByteArray) : Prop := (D.map bytesL).Pairwise (· < ·)
theorem Inc.lt {D : List ByteArray} (h : Inc D) (i j : Nat) (hi : i < j) (hj : j < D.length) : bytesL D[i] < bytesL D[j] := by
  have := List.pairwise_iff_getElem.1 h i j (by simp; omega) (by simpa using hj) hi
  simpa using this
theorem u64_in (x : Int) (h0 : 0 ≤ x) (h1 : x < 18446744073709551616) : IntKind.u64.wrap x = x := by
  simp [IntKind.wrap, IntKind.signed, IntKind.bits]; omega
theorem searchLoop {D : List ByteArray} (hD : Inc D) (hl : D.length < 2000000000) (t : Nat) (ht : t < D.length) (m : Nat) : ∀ (k lo hi : Nat), hi - lo ≤ m → lo ≤ t → t ≤ hi → hi ≤ D.length → m < k →
    Qaf.l0 k D D[t] (D.length : Int) (lo : Int) (hi : Int) = some ((t : Int), true) := by
  induction m with
  | zero =>
    intro k lo hi h1 h2 h3 h4 hk
    obtain ⟨k, rfl⟩ : ∃ m, k = m + 1 := ⟨k - 1, by omega⟩
    have h5 : lo = t := by omega
    have h6 : hi = t := by omega
    subst h5; subst h6
    simp only [Qaf.l0]
    rw [if_neg (by omega), if_pos (by omega), if_pos (by omega), if_pos (by omega), rdOf_nat _ _ _ ht]
    rw [if_pos rfl]
  | succ m ih =>
    intro k lo hi h1 h2 h3 h4 hk
    obtain ⟨k, rfl⟩ : ∃ m, k = m + 1 := ⟨k - 1, by omega⟩
    by_cases h7 : lo = hi
    · have h5 : lo = t := by omega
      subst h5; subst h7
      simp only [Qaf.l0]
      rw [if_neg (by omega), if_pos (by omega), if_pos (by omega), if_pos (by omega), rdOf_nat _ _ _ ht]
      rw [if_pos rfl]
    · have hw : (wrap64 ((IntKind.u64.wrap (wrap64 ((lo : Int) + (hi : Int)))) / 2)) = (((lo + hi) / 2 : Nat) : Int) := by
        have h1 : wrap64 ((lo : Int) + (hi : Int)) = (lo : Int) + (hi : Int) := w_in _ (by omega) (by omega)
        have h2 : IntKind.u64.wrap ((lo : Int) + (hi : Int)) = (lo : Int) + (hi : Int) := u64_in _ (by omega) (by omega)
        rw [h1, h2, w_in _ (by omega) (by omega)]
        omega
      simp only [Qaf.l0, hw]
      rw [if_pos (by omega), if_pos (by omega), if_pos (by omega), rdOf_nat _ _ _ (by omega), less_f]
      simp only [Option.bind_some]
      have hw2 : wrap64 ((((lo + hi) / 2 : Nat) : Int) + 1) = (((lo + hi) / 2 + 1 : Nat) : Int) := by rw [w_in _ (by omega) (by omega)]; simp
      by_cases h8 : bytesL D[(lo + hi) / 2] < bytesL D[t]
      · rw [if_pos (by simpa using h8), hw2]
        have h9 : (lo + hi) / 2 < t := by
          apply Classical.byContradiction
          intro h9
          rcases Nat.lt_or_ge t ((lo + hi) / 2) with h10 | h10
          · exact bl_irrefl _ (bl_trans h8 (hD.lt _ _ h10 (by omega)))
          · have : t = (lo + hi) / 2 := by omega
            simp only [← this] at h8
            exact bl_irrefl _ h8
        exact ih k _ _ (by omega) (by omega) (by omega) h4 (by omega)
      · rw [if_neg (by simpa using h8)]
        have h9 : t ≤ (lo + hi) / 2 := by
          apply Classical.byContradiction
          intro h9
          exact h8 (hD.lt _ _ (by omega) ht)
        exact ih k _ _ (by omega) (by omega) (by omega) (by omega) (by omega)
theorem search_f {D : List ByteArray} (hD : Inc D) (hl : D.length < 2000000000) (t : Nat) (ht : t < D.length) (k : Nat) (hk : D.length < k) : Qaf.f k D D[t] = some ((t : Int), true) := by
  unfold Qaf.f
  exact searchLoop hD hl t ht D.length k 0 D.length (by omega) (by omega) (by omega) (by omega) hk
def indexIn (D : List ByteArray) (s : ByteArray) : Nat := D.findIdx (fun x => bytesL x == bytesL s)
theorem index_spec {D : List ByteArray} {s : ByteArray} (h : s ∈ D) : ∃ h : indexIn D s < D.length, D[indexIn D s] = s := by
  have h1 : indexIn D s < D.length := List.findIdx_lt_length_of_exists ⟨s, h, by simp⟩
  refine ⟨h1, ?_⟩
  have h2 := List.findIdx_getElem (w := h1)
  have h3 : bytesL D[indexIn D s] = bytesL s := eq_of_beq (show (bytesL D[indexIn D s] == bytesL s) = true from h2)
  rw [← ofBytes_bytesL D[indexIn D s], h3, ofBytes_bytesL]
theorem search_of {D : List ByteArray} (hD : Inc D) (hl : D.length < 2000000000) {s : ByteArray} (hs : s ∈ D) (k : Nat) (hk : D.length < k) : Qaf.f k D s = some ((indexIn D s : Int), true) := by
  obtain ⟨h1, h2⟩ := index_spec hs
  have := search_f hD hl (indexIn D s) h1 k hk
  rwa [h2] at this
def occ (nl : List Bool) (tx : List ByteArray) (i : Nat) : List ByteArray := ((List.range i).filter fun j => !nullAt nl j).map fun j => tx.getD j e0
theorem occ_succ (nl : List Bool) (tx : List ByteArray) (i : Nat) : occ nl tx (i + 1) = occ nl tx i ++ (if nullAt nl i = true then [] else [tx.getD i e0]) := by
  unfold occ
  rw [List.range_succ, List.filter_append, List.map_append]
  cases h : nullAt nl i <;> simp [h]
theorem occ_length (nl : List Bool) (tx : List ByteArray) (i : Nat) : (occ nl tx i).length ≤ i := by
  unfold occ
  rw [List.length_map]
  exact Nat.le_trans (List.length_filter_le _ _) (by simp)
def codesOf (nl : List Bool) (tx D : List ByteArray) (i : Nat) : List Int := (List.range i).map fun j => if nullAt nl j = true then 0 else (indexIn D (tx.getD j e0) : Int)
theorem mem_occ {nl : List Bool} {tx : List ByteArray} {i : Nat} (hi : i < tx.length) (hn : nullAt nl i = false) : tx.getD i e0 ∈ occ nl tx tx.length :=
  List.mem_map.2 ⟨i, List.mem_filter.2 ⟨List.mem_range.2 hi, by simp [hn]⟩, rfl⟩
section
variable {a : Int} {nl : List Bool} {nm : List Int} {tx dc : List ByteArray} {cd : List Int}
theorem codesLoop (x : Int) (y : List Bool) (hl : tx.length ≤ 100000) (hnl : nl = [] ∨ nl.length = tx.length) (d : Nat) : ∀ (k : Nat) (i : Nat), i + d = tx.length → tx.length + d < k →
    Qai.l1 k tx (tx.length : Int) (i : Int) a nl nm tx dc cd x y (dictOf (occ nl tx tx.length)) (codesOf nl tx (dictOf (occ nl tx tx.length)) i) =
      some (x, y, [], [], dictOf (occ nl tx tx.length), codesOf nl tx (dictOf (occ nl tx tx.length)) tx.length) := by
  obtain ⟨hD, hm, hdl⟩ := dict_spec (occ nl tx tx.length)
  have hol := occ_length nl tx tx.length
  generalize hDe : dictOf (occ nl tx tx.length) = D at *
  induction d with
  | zero =>
    intro k i hi hk
    obtain ⟨k, rfl⟩ : ∃ m, k = m + 1 := ⟨k - 1, by omega⟩
    simp only [Qai.l1]
    rw [if_neg (by omega), show i = tx.length by omega]
  | succ d ih =>
    intro k i hi hk
    obtain ⟨k, rfl⟩ : ∃ m, k = m + 1 := ⟨k - 1, by omega⟩
    have hw1 : wrap64 ((i : Int) + 1) = ((i + 1 : Nat) : Int) := by rw [w_in _ (by omega) (by omega)]; simp
    have hcl : (codesOf nl tx D i).length = i := by simp [codesOf]
    have hs : codesOf nl tx D (i + 1) = codesOf nl tx D i ++ [if nullAt nl i = true then 0 else (indexIn D (tx.getD i e0) : Int)] := by
      simp [codesOf, List.range_succ]
    have := ih k (i + 1) (by omega) (by omega)
    rw [hs] at this
    simp only [Qai.l1]
    rw [if_pos (by omega), if_pos (by omega), if_pos (by omega), null_f (by rcases hnl with h | h; exact .inl h; exact .inr (by omega))]
    simp only [Option.bind_some]
    cases hn : nullAt nl i with
    | true =>
      rw [hn] at this
      simp only [if_true] at this ⊢
      rw [if_pos (by rw [hcl]; omega), hw1]
      exact this
    | false =>
      rw [hn] at this
      simp only [Bool.false_eq_true, if_false] at this ⊢
      have hin : tx.getD i e0 ∈ D := (hm _).2 (mem_occ (by omega) hn)
      have e : rdOf ByteArray.empty tx (i : Int) = tx.getD i e0 := rfl
      rw [e, search_of hD (by omega) hin k (by omega)]
      simp only [Option.bind_some]
      rw [if_pos (by rw [hcl]; omega), hw1]
      exact this
theorem dictLoop0 (x : Int) (y : List Bool) (hl : tx.length ≤ 100000) (hnl : nl = [] ∨ nl.length = tx.length) (d : Nat) : ∀ (k : Nat) (i : Nat), i + d = tx.length → tx.length + tx.length + d + 1 < k →
    Qai.l0 k tx (tx.length : Int) (i : Int) a nl nm tx dc cd x y (occ nl tx i) =
      some (x, y, [], [], dictOf (occ nl tx tx.length), codesOf nl tx (dictOf (occ nl tx tx.length)) tx.length) := by
  have hol := occ_length nl tx
  induction d with
  | zero =>
    intro k i hi hk
    obtain ⟨k, rfl⟩ : ∃ m, k = m + 1 := ⟨k - 1, by omega⟩
    simp only [Qai.l0]
    have hi2 : i = tx.length := by omega
    subst hi2
    rw [if_neg (by omega)]
    simp only [Qbg.f, Qbd.f]
    rw [if_pos (by have := hol tx.length; omega)]
    simp only [Option.bind_some]
    have := codesLoop (a := a) (nm := nm) (dc := dc) (cd := cd) x y hl hnl tx.length k 0 (by omega) (by omega)
    simpa [codesOf, dictOf] using this
  | succ d ih =>
    intro k i hi hk
    obtain ⟨k, rfl⟩ : ∃ m, k = m + 1 := ⟨k - 1, by omega⟩
    have hw1 : wrap64 ((i : Int) + 1) = ((i + 1 : Nat) : Int) := by rw [w_in _ (by omega) (by omega)]; simp
    have := ih k (i + 1) (by omega) (by omega)
    rw [occ_succ] at this
    simp only [Qai.l0]
    rw [if_pos (by omega), if_pos (by omega), if_pos (by omega), null_f (by rcases hnl with h | h; exact .inl h; exact .inr (by omega))]
    simp only [Option.bind_some]
    cases hn : nullAt nl i with
    | true =>
      rw [hn] at this
      simp only [if_true, List.append_nil] at this ⊢
      rw [hw1]
      exact this
    | false =>
      rw [hn] at this
      simp only [Bool.false_eq_true, if_false] at this ⊢
      rw [if_pos (by have := hol i; omega), hw1]
      exact this
theorem withDict_f (hl : tx.length ≤ 100000) (hnl : nl = [] ∨ nl.length = tx.length) (k : Nat) (hk : 3 * tx.length + 1 < k) :
    Qai.f k a nl nm tx dc cd = some (a, nl, [], [], dictOf (occ nl tx tx.length), codesOf nl tx (dictOf (occ nl tx tx.length)) tx.length) := by
  have := dictLoop0 (a := a) (nm := nm) (dc := dc) (cd := cd) a nl hl hnl tx.length k 0 (by omega) (by omega)
  unfold Qai.f
  simpa [occ] using this
end
def dictL (l : List S41) : List ByteArray := dictOf (occ (onlyNulls (nullsOf l)) (textsOf 3 l) l.length)
def codesL (l : List S41) : List Int := codesOf (onlyNulls (nullsOf l)) (textsOf 3 l) (dictL l) l.length
theorem codesL_length (l : List S41) : (codesL l).length = l.length := by simp [codesL, codesOf]
theorem coded_valid {l : List S41} (hl : l.length ≤ 1000) (h : ∀ v ∈ l, ColVal 3 v) : Valid 3 (onlyNulls (nullsOf l)) [] [] (dictL l) (codesL l) l.length ∧
    ∀ (i : Nat) (hi : i < l.length), valAt 3 (onlyNulls (nullsOf l)) [] [] (dictL l) (codesL l) i = l[i] := by
  have htl : (textsOf 3 l).length = l.length := by simp [textsOf]
  obtain ⟨hD, hm, hdl⟩ := dict_spec (occ (onlyNulls (nullsOf l)) (textsOf 3 l) l.length)
  have hol := occ_length (onlyNulls (nullsOf l)) (textsOf 3 l) l.length
  have hdl2 : (dictL l).length ≤ 1000 := by unfold dictL; omega
  have hg : ∀ (i : Nat) (hi : i < l.length), (textsOf 3 l).getD i e0 = l[i].f2 := fun i hi => by simp [textsOf, List.getD_eq_getElem?_getD, hi]
  have hc : ∀ (i : Nat) (hi : i < l.length), (codesL l).getD i 0 = if l[i].f0 = 0 then 0 else (indexIn (dictL l) l[i].f2 : Int) := by
    intro i hi
    have hn := nullAt_only l i hi
    simp only [codesL, codesOf, List.getD_eq_getElem?_getD, List.getElem?_map, List.getElem?_range hi, Option.map_some, Option.getD_some]
    rw [hn, ← List.getD_eq_getElem?_getD, hg i hi]
    by_cases h0 : l[i].f0 = 0 <;> simp [h0]
  have hin : ∀ (i : Nat) (hi : i < l.length), l[i].f0 ≠ 0 → l[i].f2 ∈ dictL l := by
    intro i hi h0
    unfold dictL
    rw [hm, ← hg i hi]
    have := mem_occ (nl := onlyNulls (nullsOf l)) (tx := textsOf 3 l) (i := i) (by omega) (by rw [nullAt_only l i hi]; simpa using h0)
    rwa [htl] at this
  have hhas : 0 < l.length → hasD (dictL l) (codesL l) = true := by
    intro h0
    cases hd : hasD (dictL l) (codesL l) with
    | true => rfl
    | false =>
      have := codesL_length l
      rw [(hasD_false.1 hd).2] at this
      simp at this; omega
  refine ⟨⟨hl, by decide, ⟨onlyNulls_form l, fun h3 => absurd rfl h3, fun _ => ⟨rfl, hdl2, fun _ => ⟨rfl, by rw [codesL_length]⟩, fun hd => ?_⟩⟩, ?_, by simp, ?_, ?_⟩, ?_⟩
  · have h0 : l.length = 0 := by
      have := codesL_length l
      rw [(hasD_false.1 hd).2] at this
      exact this.symm
    simp [h0]
  · intro s hs
    have := (hm s).1 hs
    simp only [occ, List.mem_map, List.mem_filter, List.mem_range] at this
    obtain ⟨j, ⟨hj, _⟩, rfl⟩ := this
    rw [hg j hj]
    exact (h _ (List.getElem_mem hj)).okT.1
  · intro i hi
    rw [bytesLess_eq, toList_ba, toList_ba]
    have := Inc.lt (D := dictL l) hD i (i + 1) (by omega) hi
    simpa [bytesL] using this
  · intro i hi
    have hn := nullAt_only l i hi
    refine ⟨fun h3 => absurd rfl h3, fun _ hd => ?_, fun _ _ => ?_⟩
    · rw [hhas (by omega)] at hd; cases hd
    · rw [hc i hi, hn]
      constructor
      · intro h0
        rw [if_pos (by simpa using h0)]
      · intro h0
        have h0' : l[i].f0 ≠ 0 := by simpa using h0
        rw [if_neg h0']
        obtain ⟨h1, _⟩ := index_spec (hin i hi h0')
        omega
  · intro i hi
    have hn := nullAt_only l i hi
    unfold valAt
    rw [hn]
    by_cases h0 : l[i].f0 = 0
    · rw [if_pos (by simpa using h0)]
      exact (((h _ (List.getElem_mem hi)).null_iff (by decide)).1 h0).symm
    · rw [if_neg (by simpa using h0), if_pos rfl, if_pos (hhas (by omega)), hc i hi, if_neg h0]
      obtain ⟨h1, h2⟩ := index_spec (hin i hi h0)
      have hv := (h _ (List.getElem_mem hi)).resolve_left (fun h3 => h0 (by rw [h3]))
      apply S41_ext
      · simp [hv.1]
      · simp [(hv.2.1 rfl).1]
      · simp only [Int.toNat_natCast]
        rw [List.getD_eq_getElem?_getD, List.getElem?_eq_getElem h1]
        exact h2
end Go.Proofs.Ytphnmaobpefoiaa.XA
end
section
namespace Go.Proofs.Ytphnmaobpefoiaa.XA
open Go.RowKit Go.Sort Go.Proofs.YtphnmaobpefoiaaXW Go.Proofs.YtphnmaobpefoiaaW.PrintWords Go.Proofs.YtphnmaobpefoiaaW.PrintLast Go.Proofs.YtphnmaobpefoiaaW.PrintMore
section
variable {a : Int} {nl : List Bool} {nm : List Int} {tx dc : List ByteArray} {cd : List Int} {n : Nat}
theorem check_valid (h : Valid a nl nm tx dc cd n) (k : Nat) (hk : 5000 ≤ k) : Qah.f k a nl nm tx dc cd (n : Int) = some 0 := by
  obtain ⟨r, h1, h2⟩ := check_ev a nl nm tx dc cd n k hk
  rw [h1, h2.2 ⟨by omega, by simpa using h⟩]
theorem At_ok (h : Valid a nl nm tx dc cd n) (j : Nat) (hj : j < n) (k : Nat) (hk : 5000 ≤ k) :
    Qbp.f k a nl nm tx dc cd (j : Int) = some ((valAt a nl nm tx dc cd j).f0, (valAt a nl nm tx dc cd j).f1, (valAt a nl nm tx dc cd j).f2, 0) := by
  unfold Qbp.f
  have hl := h.le
  rw [long_f, h.long]
  simp only [Option.bind_some]
  rw [check_valid h k hk]
  simp only [Option.bind_some, if_true]
  rw [w_in _ (by omega) (by omega), in_f]
  simp only [Option.bind_some]
  rw [if_pos (by simp; omega), at_f h j hj]
  rfl
end
theorem awake_f (k : Nat) (hk : 5000 ≤ k) : Qbh.f k = some true := by
  have hv : Valid 2 [] [3, 4] [] [] [] 2 := by
    have := of_valid (a := 2) (by decide) (l := [(⟨2, 3, e0⟩ : S41), ⟨2, 4, e0⟩]) (by decide) (by
      intro v hv
      simp only [List.mem_cons, List.not_mem_nil, or_false] at hv
      rcases hv with rfl | rfl
      · exact .inr ⟨rfl, fun h => absurd h (by decide), fun _ => ⟨rfl, by decide, by decide⟩⟩
      · exact .inr ⟨rfl, fun h => absurd h (by decide), fun _ => ⟨rfl, by decide, by decide⟩⟩)
    exact this
  unfold Qbh.f
  have := At_ok hv 1 (by decide) k hk
  rw [show ((1 : Nat) : Int) = 1 from rfl] at this
  have e : valAt 2 [] [3, 4] [] [] [] 1 = ⟨2, 4, e0⟩ := by simp [valAt, nullAt]
  rw [this, e]
  simp only [Option.bind_some, if_true]
  rw [(str_nil e0).2 rfl]
  rfl
end Go.Proofs.Ytphnmaobpefoiaa.XA
end
section
namespace Go.Proofs.Ytphnmaobpefoiaa.XA
open Go.RowKit Go.Proofs.YtphnmaobpefoiaaXW Go.Proofs.YtphnmaobpefoiaaW.PrintWords Go.Proofs.YtphnmaobpefoiaaW.PrintLast Go.Proofs.YtphnmaobpefoiaaW.PrintMore
attribute [local go_sem] max2_int min2_int max_two min_two max_three min_three max_four min_four sleq
set_option linter.unusedVariables false
set_option linter.unusedSimpArgs false
mutual
def Qac.l0 : Nat → List (S39) → Int → Int → Int → List (S39) → Bool → List Int → Option (Int)
 | 0, _, _, _, _, _, _, _ => none
 | k + 1, x21, x22, x23, q9, j9, j2, q7 => if x23 < x22 then (if 0 ≤ x23 then (if x23 < (x21.length : Int) then ((Qah.f k ((rd_T39 x21 x23).f0) ((rd_T39 x21 x23).f1) ((rd_T39 x21 x23).f2) ((rd_T39 x21 x23).f3) ((rd_T39 x21 x23).f4) ((rd_T39 x21 x23).f5) q9).bind fun z1 => (if z1 = 0 then (Qac.l0 k x21 x22 (wrap64 (x23 + 1)) q9 j9 j2 q7) else (some z1))) else (none)) else (none)) else (if j2 = true then (Qac.j1 k (decide ((q7.length : Int) > 0)) q9 j9 j2 q7) else (Qac.j1 k false q9 j9 j2 q7))
def Qac.j1 : Nat → Bool → Int → List (S39) → Bool → List Int → Option (Int)
 | 0, _, _, _, _, _ => none
 | k + 1, x42, q9, j9, j2, q7 => if x42 = true then (some 3) else (Qac.l1 k q7 (q7.length : Int) 0 q9 j9 j2 q7)
def Qac.l1 : Nat → List Int → Int → Int → Int → List (S39) → Bool → List Int → Option (Int)
 | 0, _, _, _, _, _, _, _ => none
 | k + 1, x44, x45, x46, q9, j9, j2, q7 => if x46 < x45 then (if 0 ≤ x46 then (if x46 < (x44.length : Int) then ((Qaq.f (rd x44 x46) 0 (wrap64 (q9 - 1))).bind fun Js => (if Js = true then (if x46 > 0 then (if 0 ≤ (wrap64 (x46 - 1)) then (if (wrap64 (x46 - 1)) < (q7.length : Int) then (if (rd x44 x46) ≤ (rd q7 (wrap64 (x46 - 1))) then (some 8) else (Qac.l1 k x44 x45 (wrap64 (x46 + 1)) q9 j9 j2 q7)) else (none)) else (none)) else (Qac.l1 k x44 x45 (wrap64 (x46 + 1)) q9 j9 j2 q7)) else (some 1))) else (none)) else (none)) else (some 0)
end
def Qac.f (k : Nat) (q3 : Int) (q0 : List (S39)) (q6 : Bool) (q2 : List Int) : Option (Int) := (Qaq.f q3 0 1000).bind fun y9 => (if y9 = true then (if (q0.length : Int) > 20 then (some 2) else (if (q0.length : Int) = 0 then (some 6) else (Qac.l0 k q0 (q0.length : Int) 0 q3 q0 q6 q2))) else (some 1))
set_option maxHeartbeats 8000000 in
set_option maxRecDepth 100000 in
theorem Qac.calls (k : Nat) (q3 : Int) (z3 : Option Addr) (z4 : Nat) (q0 : List (S39)) (q6 : Bool) (z5 : Option Addr) (z6 : Nat) (q2 : List Int) (r : Int) (w : World) (Y4 : Kd.C k39 w z3 q0.length q0) (Y5 : q0.length ≤ z4) (Y6 : Kd.C (Kd.int .i64) w z5 q2.length q2) (Y7 : q2.length ≤ z6) (h : Qac.f k q3 q0 q6 q2 = some r) :
  Calls Try.prog 34 #[.agg #[.int .i64 q3, .slice z3 q0.length z4, .bool q6, .slice z5 q2.length z6]] w fun e w' => e = .returned (.int .i64 r) ∧ Below w.heap.size w w' := by
 have hu26 := Try.underlying26
 have hu39 := Try.underlying39
 have Y8 := Qaa.mk Y4
 have Xu := Qaa.mk Y5
 clear Y4 Y5
 have y7 := Qaa.mk Y6
 have Xv := Qaa.mk Y7
 clear Y6 Y7
 have HB := Qaa.mk (Below.refl w.heap.size w)
 have H : ((Qaq.f q3 0 1000).bind fun y9 => (if y9 = true then (if (q0.length : Int) > 20 then (some 2) else (if (q0.length : Int) = 0 then (some 6) else (Qac.l0 k q0 (q0.length : Int) 0 q3 q0 q6 q2))) else (some 1))) = some r := h
 clear h
 replace H := Option.bind_eq_some_iff.mp H
 obtain ⟨y9, A20, H⟩ := H
 replace H : (if y9 = true then (if (q0.length : Int) > 20 then (some 2) else (if (q0.length : Int) = 0 then (some 6) else (Qac.l0 k q0 (q0.length : Int) 0 q3 q0 q6 q2))) else (some 1)) = some r := H
 have A2 := Qaa.mk A20
 clear A20
 by_cases c3 : y9 = true
 ·
  subst c3
  have H1 : (if (q0.length : Int) > 20 then (some 2) else (if (q0.length : Int) = 0 then (some 6) else (Qac.l0 k q0 (q0.length : Int) 0 q3 q0 q6 q2))) = some r := by rw [if_pos rfl] at H; exact H
  clear H
  have H := H1
  clear H1
  by_cases c4 : (q0.length : Int) > 20
  ·
   rw [if_pos c4] at H
   have Jt : decide (20 < (q0.length : Int)) = true := decide_eq_true c4
   have Ju : decide (20 < q0.length) = true := decide_eq_true (by omega)
   clear c4
   obtain rfl := Option.some.inj H
   go_enter Try.func34, Try.ntmps34
   go_wp2_with (first | ((with_reducible refine gate_dst (N := 1) rfl ?_); (try (refine gate_guard (by rfl) ?_; dsimp only)); refine bx 1 #[.int .i64 q3, .slice z3 q0.length z4, .bool q6, .slice z5 q2.length z6] 26 ?_; intro q8 hg w5 hbox hb; have q4 := Qaa.mk (hbox); have Jv := Qaa.mk ((by rw [hg]; exact (below_size (bl HB)) : w.heap.size ≤ q8)); have Jw := Qaa.mk ((by rw [hg]; exact (below_size (bl HB)) : w.heap.size ≤ q8)); replace HB := bs HB hb; clear hb hbox hg; obtain ⟨Qi, Qj, Qk, Ql, Qm, Qn, Qo, Qp⟩ := cf4 q4) | ((with_reducible refine gate_callee (f := 25) rfl ?_); refine gL (some 10) Try.func25 #[.int .i64 q3, .int .i64 0, .int .i64 1000] ?_; (with_reducible refine (Qaq.calls q3 0 1000 true _ A2.out).mono ?_); rintro e w' ⟨rfl, ⟨nd, rfl⟩⟩; refine ⟨_, rfl, ?_⟩))
   go_ret
   exact ⟨by first | rfl | (simp [errW_none, errW_some] <;> rfl) | (simp [*, errW_none, errW_some] <;> rfl), bl HB⟩
  ·
   rw [if_neg c4] at H
   have Jt : decide (20 < (q0.length : Int)) = false := decide_eq_false c4
   have Ju : decide (20 < q0.length) = false := decide_eq_false (by omega)
   clear c4
   by_cases c7 : (q0.length : Int) = 0
   ·
    rw [if_pos c7] at H
    have Jx : ((q0.length : Int) == 0) = true := beq_iff_eq.mpr c7
    have Jy : ((q0.length : Int) != 0) = false := bne_eq_false_iff_eq.mpr c7
    clear c7
    obtain rfl := Option.some.inj H
    go_enter Try.func34, Try.ntmps34
    go_wp2_with (first | ((with_reducible refine gate_dst (N := 1) rfl ?_); (try (refine gate_guard (by rfl) ?_; dsimp only)); refine bx 1 #[.int .i64 q3, .slice z3 q0.length z4, .bool q6, .slice z5 q2.length z6] 26 ?_; intro q8 hg w8 hbox hb; have q4 := Qaa.mk (hbox); have Jv := Qaa.mk ((by rw [hg]; exact (below_size (bl HB)) : w.heap.size ≤ q8)); have Jw := Qaa.mk ((by rw [hg]; exact (below_size (bl HB)) : w.heap.size ≤ q8)); replace HB := bs HB hb; clear hb hbox hg; obtain ⟨Qq, Qr, Qs, Qt, Qu, Qv, Qw, Qx⟩ := cf4 q4) | ((with_reducible refine gate_callee (f := 25) rfl ?_); refine gL (some 10) Try.func25 #[.int .i64 q3, .int .i64 0, .int .i64 1000] ?_; (with_reducible refine (Qaq.calls q3 0 1000 true _ A2.out).mono ?_); rintro e w' ⟨rfl, ⟨nd, rfl⟩⟩; refine ⟨_, rfl, ?_⟩))
    go_ret
    exact ⟨by first | rfl | (simp [errW_none, errW_some] <;> rfl) | (simp [*, errW_none, errW_some] <;> rfl), bl HB⟩
   ·
    rw [if_neg c7] at H
    have Jx : ((q0.length : Int) == 0) = false := beq_eq_false_iff_ne.mpr c7
    have Jy : ((q0.length : Int) != 0) = true := bne_iff_ne.mpr c7
    have Y2 : ¬ (q0 = []) := fun h_ => c7 (by rw [h_]; rfl)
    have H' := Qaa.mk H
    clear H
    go_enter Try.func34, Try.ntmps34
    go_wp2_with (first | ((with_reducible refine gate_dst (N := 1) rfl ?_); (try (refine gate_guard (by rfl) ?_; dsimp only)); refine bx 1 #[.int .i64 q3, .slice z3 q0.length z4, .bool q6, .slice z5 q2.length z6] 26 ?_; intro q8 hg w10 hbox hb; have q4 := Qaa.mk (hbox); have Jv := Qaa.mk ((by rw [hg]; exact (below_size (bl HB)) : w.heap.size ≤ q8)); have Jw := Qaa.mk ((by rw [hg]; exact (below_size (bl HB)) : w.heap.size ≤ q8)); replace HB := bs HB hb; clear hb hbox hg; obtain ⟨Q0, Q1, Q2, Q3, Q4, Q5, Q6, Q7⟩ := cf4 q4) | ((with_reducible refine gate_callee (f := 25) rfl ?_); refine gL (some 10) Try.func25 #[.int .i64 q3, .int .i64 0, .int .i64 1000] ?_; (with_reducible refine (Qaq.calls q3 0 1000 true _ A2.out).mono ?_); rintro e w' ⟨rfl, ⟨nd, rfl⟩⟩; refine ⟨_, rfl, ?_⟩))
    go_loopg [23] k (fun kq v23 w' => ∃ (x23_1 : Int), v23 = .int .i64 x23_1 ∧ Qaa (Qac.l0 kq q0 (q0.length : Int) x23_1 q3 q0 q6 q2 = some r) ∧ Qaa (kq ≤ k) ∧ Qaa (w'.heap[q8]? = some (.cells #[.int .i64 q3, (.slice z3 q0.length z4), .bool q6, (.slice z5 q2.length z6)] 26 (0, 0))) ∧ Qaa (Below w.heap.size w w'))
    case atStart => exact ⟨(0), (by first | rfl | (simp; done) | (simp [*]; done)), H', ⟨Nat.le_refl _⟩, ⟨by apply blk_u; exact q4.out⟩, ⟨bl HB⟩⟩
    case round =>
     clear H'
     try clear c2
     try clear p2
     try clear c3
     try clear c4
     try clear Jt
     try clear Ju
     try clear c7
     try clear Jx
     try clear Jy
     try clear Y2
     try clear Q0
     try clear Q1
     try clear Q2
     try clear Q3
     try clear Qi
     try clear Qj
     try clear Qk
     try clear Ql
     try clear Qq
     try clear Qr
     try clear Qs
     try clear Qt
     try clear Q4
     try clear Q5
     try clear Q6
     try clear Q7
     try clear Qm
     try clear Qn
     try clear Qo
     try clear Qp
     try clear Qu
     try clear Qv
     try clear Qw
     try clear Qx
     obtain ⟨x23_1, rfl, HA, HK1, q4, HB⟩ := hrel
     cases gk with
     | zero => exact absurd HA.out (by simp [Qac.l0])
     | succ k1 =>
      have H := HA.out
      clear HA
      simp only [Qac.l0] at H
      by_cases c12 : x23_1 < (q0.length : Int)
      ·
       rw [if_pos c12] at H
       have Jz : decide (x23_1 < (q0.length : Int)) = true := decide_eq_true c12
       clear c12
       by_cases c13 : 0 ≤ x23_1
       ·
        rw [if_pos c13] at H
        have Y9 : decide (0 ≤ x23_1) = true := decide_eq_true c13
        clear c13
        by_cases c14 : x23_1 < (q0.length : Int)
        ·
         rw [if_pos c14] at H
         have Ya : decide (x23_1 < (q0.length : Int)) = true := decide_eq_true c14
         clear c14
         replace H := Option.bind_eq_some_iff.mp H
         obtain ⟨z1, Yj, H⟩ := H
         replace H : (if z1 = 0 then (Qac.l0 k1 q0 (q0.length : Int) (wrap64 (x23_1 + 1)) q3 q0 q6 q2) else (some z1)) = some r := H
         have A15 := Qaa.mk Yj
         clear Yj
         by_cases c16 : z1 = 0
         ·
          rw [if_pos c16] at H
          have Y0 : (z1 == 0) = true := beq_iff_eq.mpr c16
          have Y1 : (z1 != 0) = false := bne_eq_false_iff_eq.mpr c16
          clear c16
          have H' := Qaa.mk H
          clear H
          have p140 : 0 ≤ (x23_1 : Int) := of_decide_eq_true (by first | (with_reducible assumption) | assumption)
          have q140 : x23_1 < (q0.length : Int) := of_decide_eq_true (by first | (with_reducible assumption) | assumption)
          obtain ⟨ad140, Qy, Qz, Z0, Z1, Z2, Z3, Z4, Z5, Z6, Z7, e140, j3, j4, j5, j6, j7, j8, hl140_1, hi140_1, hl140_2, hi140_2, hl140_3, hi140_3, hl140_4, hi140_4, hl140_5, hi140_5⟩ := at_T39 Y8.out x23_1 p140 q140
          cases e140
          replace j3 := (HB.out.cell (World.block_lt_of_cell? w _ j3)).trans j3
          replace j4 := (HB.out.cell (World.block_lt_of_cell? w _ j4)).trans j4
          replace j5 := (HB.out.cell (World.block_lt_of_cell? w _ j5)).trans j5
          replace j6 := (HB.out.cell (World.block_lt_of_cell? w _ j6)).trans j6
          replace j7 := (HB.out.cell (World.block_lt_of_cell? w _ j7)).trans j7
          replace j8 := (HB.out.cell (World.block_lt_of_cell? w _ j8)).trans j8
          have Q8 := Qaa.mk hi140_1
          have Q9 := Qaa.mk hl140_1
          clear hi140_1 hl140_1
          have Qa := Qaa.mk hi140_2
          have Qb := Qaa.mk hl140_2
          clear hi140_2 hl140_2
          have Qc := Qaa.mk hi140_3
          have Qd := Qaa.mk hl140_3
          clear hi140_3 hl140_3
          have Qe := Qaa.mk hi140_4
          have Qf := Qaa.mk hl140_4
          clear hi140_4 hl140_4
          have Qg := Qaa.mk hi140_5
          have Qh := Qaa.mk hl140_5
          clear hi140_5 hl140_5
          replace p140 := eq_true p140
          replace q140 := eq_true q140
          go_wp2_with (first | ((with_reducible refine gate_dst (N := 4) rfl ?_); (try (refine gate_guard (by rfl) ?_; dsimp only)); refine bx 4 #[.int .i64 0, .slice none 0 0, .slice none 0 0, .slice none 0 0, .slice none 0 0, .slice none 0 0] 39 ?_; intro z2 hg w17 hbox hb; have z7 := Qaa.mk (hbox); have Yl := Qaa.mk ((by rw [hg]; exact (below_size (bl HB)) : w.heap.size ≤ z2)); have Ym := Qaa.mk ((by rw [hg]; exact (below_size (bl HB)) : w.heap.size ≤ z2)); have z8 := Qaa.mk ((by rw [hg]; exact Nat.ne_of_lt (blk_lt (Ub q4)) : q8 ≠ z2)); have z9 := Qaa.mk ((by rw [hg]; exact Nat.ne_of_gt (blk_lt (Ub q4)) : z2 ≠ q8)); replace q4 := Bb q4 hb; replace HB := bs HB hb; clear hb hbox hg; have Xw := z9.out; have Xx := z8.out; obtain ⟨Z8, Z9, Za, Zb, Zc, Zd, Ze, Zf, Zg, Zh, Zi, Zj⟩ := cf6 z7; obtain ⟨Zk, Zl, Zm, Zn, Zo, Zp, Zq, Zr⟩ := cf4 q4) | ((with_reducible refine gate_callee (f := 23) rfl ?_); refine gL (some 30) Try.func23 #[.agg #[.int .i64 ((rd_T39 q0 x23_1).f0), .slice Qy ((rd_T39 q0 x23_1).f1).length Qz, .slice Z0 ((rd_T39 q0 x23_1).f2).length Z1, .slice Z2 ((rd_T39 q0 x23_1).f3).length Z3, .slice Z4 ((rd_T39 q0 x23_1).f4).length Z5, .slice Z6 ((rd_T39 q0 x23_1).f5).length Z7], .int .i64 q3] ?_; (with_reducible refine (Qah.calls k1 ((rd_T39 q0 x23_1).f0) _ _ ((rd_T39 q0 x23_1).f1) _ _ ((rd_T39 q0 x23_1).f2) _ _ ((rd_T39 q0 x23_1).f3) _ _ ((rd_T39 q0 x23_1).f4) _ _ ((rd_T39 q0 x23_1).f5) q3 z1 _ ?side1 ?side2 ?side3 ?side4 ?side5 ?side6 ?side7 ?side8 ?side9 ?side10 A15.out).mono ?_); (case side1 => exact Kd.C_below Q8.out (bl HB)); (case side2 => exact Q9.out); (case side3 => exact Kd.C_below Qa.out (bl HB)); (case side4 => exact Qb.out); (case side5 => exact Kd.C_below Qc.out (bl HB)); (case side6 => exact Qd.out); (case side7 => exact Kd.C_below Qe.out (bl HB)); (case side8 => exact Qf.out); (case side9 => exact Kd.C_below Qg.out (bl HB)); (case side10 => exact Qh.out); rintro e w21 ⟨rfl, hb⟩; refine ⟨_, rfl, ?_⟩; replace q4 := Bb q4 hb; replace z7 := Qaa.mk (blk_below (Uf6 z7) hb); replace HB := bs HB hb; (try clear hb)))
          go_roundg k1
          case measure => have := HK1.out; omega
          case rel => exact ⟨(wrap64 (x23_1 + 1)), (by first | rfl | (simp; done) | (simp [*]; done)), H', ⟨by have := HK1.out; omega⟩, ⟨by apply blk_u; exact q4.out⟩, ⟨bl HB⟩⟩
         ·
          rw [if_neg c16] at H
          have Y0 : (z1 == 0) = false := beq_eq_false_iff_ne.mpr c16
          have Y1 : (z1 != 0) = true := bne_iff_ne.mpr c16
          obtain rfl := Option.some.inj H
          have p140 : 0 ≤ (x23_1 : Int) := of_decide_eq_true (by first | (with_reducible assumption) | assumption)
          have q140 : x23_1 < (q0.length : Int) := of_decide_eq_true (by first | (with_reducible assumption) | assumption)
          obtain ⟨ad140, Qy, Qz, Z0, Z1, Z2, Z3, Z4, Z5, Z6, Z7, e140, j3, j4, j5, j6, j7, j8, hl140_1, hi140_1, hl140_2, hi140_2, hl140_3, hi140_3, hl140_4, hi140_4, hl140_5, hi140_5⟩ := at_T39 Y8.out x23_1 p140 q140
          cases e140
          replace j3 := (HB.out.cell (World.block_lt_of_cell? w _ j3)).trans j3
          replace j4 := (HB.out.cell (World.block_lt_of_cell? w _ j4)).trans j4
          replace j5 := (HB.out.cell (World.block_lt_of_cell? w _ j5)).trans j5
          replace j6 := (HB.out.cell (World.block_lt_of_cell? w _ j6)).trans j6
          replace j7 := (HB.out.cell (World.block_lt_of_cell? w _ j7)).trans j7
          replace j8 := (HB.out.cell (World.block_lt_of_cell? w _ j8)).trans j8
          have Q8 := Qaa.mk hi140_1
          have Q9 := Qaa.mk hl140_1
          clear hi140_1 hl140_1
          have Qa := Qaa.mk hi140_2
          have Qb := Qaa.mk hl140_2
          clear hi140_2 hl140_2
          have Qc := Qaa.mk hi140_3
          have Qd := Qaa.mk hl140_3
          clear hi140_3 hl140_3
          have Qe := Qaa.mk hi140_4
          have Qf := Qaa.mk hl140_4
          clear hi140_4 hl140_4
          have Qg := Qaa.mk hi140_5
          have Qh := Qaa.mk hl140_5
          clear hi140_5 hl140_5
          replace p140 := eq_true p140
          replace q140 := eq_true q140
          go_wp2_with (first | ((with_reducible refine gate_dst (N := 4) rfl ?_); (try (refine gate_guard (by rfl) ?_; dsimp only)); refine bx 4 #[.int .i64 0, .slice none 0 0, .slice none 0 0, .slice none 0 0, .slice none 0 0, .slice none 0 0] 39 ?_; intro z2 hg w22 hbox hb; have z7 := Qaa.mk (hbox); have Yl := Qaa.mk ((by rw [hg]; exact (below_size (bl HB)) : w.heap.size ≤ z2)); have Ym := Qaa.mk ((by rw [hg]; exact (below_size (bl HB)) : w.heap.size ≤ z2)); have z8 := Qaa.mk ((by rw [hg]; exact Nat.ne_of_lt (blk_lt (Ub q4)) : q8 ≠ z2)); have z9 := Qaa.mk ((by rw [hg]; exact Nat.ne_of_gt (blk_lt (Ub q4)) : z2 ≠ q8)); replace q4 := Bb q4 hb; replace HB := bs HB hb; clear hb hbox hg; have Xy := z9.out; have Xz := z8.out; obtain ⟨Zs, Zt, Zu, Zv, Zw, Zx, Zy, Zz, J0, J1, J2, J3⟩ := cf6 z7; obtain ⟨J4, J5, J6, J7, J8, J9, Ja, Jb⟩ := cf4 q4) | ((with_reducible refine gate_callee (f := 23) rfl ?_); refine gL (some 30) Try.func23 #[.agg #[.int .i64 ((rd_T39 q0 x23_1).f0), .slice Qy ((rd_T39 q0 x23_1).f1).length Qz, .slice Z0 ((rd_T39 q0 x23_1).f2).length Z1, .slice Z2 ((rd_T39 q0 x23_1).f3).length Z3, .slice Z4 ((rd_T39 q0 x23_1).f4).length Z5, .slice Z6 ((rd_T39 q0 x23_1).f5).length Z7], .int .i64 q3] ?_; (with_reducible refine (Qah.calls k1 ((rd_T39 q0 x23_1).f0) _ _ ((rd_T39 q0 x23_1).f1) _ _ ((rd_T39 q0 x23_1).f2) _ _ ((rd_T39 q0 x23_1).f3) _ _ ((rd_T39 q0 x23_1).f4) _ _ ((rd_T39 q0 x23_1).f5) q3 z1 _ ?side1 ?side2 ?side3 ?side4 ?side5 ?side6 ?side7 ?side8 ?side9 ?side10 A15.out).mono ?_); (case side1 => exact Kd.C_below Q8.out (bl HB)); (case side2 => exact Q9.out); (case side3 => exact Kd.C_below Qa.out (bl HB)); (case side4 => exact Qb.out); (case side5 => exact Kd.C_below Qc.out (bl HB)); (case side6 => exact Qd.out); (case side7 => exact Kd.C_below Qe.out (bl HB)); (case side8 => exact Qf.out); (case side9 => exact Kd.C_below Qg.out (bl HB)); (case side10 => exact Qh.out); rintro e w26 ⟨rfl, hb⟩; refine ⟨_, rfl, ?_⟩; replace q4 := Bb q4 hb; replace z7 := Qaa.mk (blk_below (Uf6 z7) hb); replace HB := bs HB hb; (try clear hb)))
          go_ret
          exact ⟨by first | rfl | (simp [errW_none, errW_some] <;> rfl) | (simp [*, errW_none, errW_some] <;> rfl), bl HB⟩
        ·
         rw [if_neg c14] at H
         exact absurd H (by simp)
       ·
        rw [if_neg c13] at H
        exact absurd H (by simp)
      ·
       rw [if_neg c12] at H
       have Jz : decide (x23_1 < (q0.length : Int)) = false := decide_eq_false c12
       clear c12
       have Y3 := Qaa.mk H
       clear H
       go_upto_region 14 with (fail)
       go_cut [42] (fun v42 wc => ∃ (kq : Nat) (x42_26 : Bool), v42 = .bool x42_26 ∧ Qaa (Qac.j1 kq x42_26 q3 q0 q6 q2 = some r) ∧ Qaa (kq ≤ k1) ∧ Qaa (wc.heap[q8]? = some (.cells #[.int .i64 q3, (.slice z3 q0.length z4), .bool q6, (.slice z5 q2.length z6)] 26 (0, 0))) ∧ Qaa (Below w.heap.size w wc))
       case first =>
        have H := Y3.out
        clear Y3
        by_cases c28 : q6 = true
        ·
         subst c28
         have H1 : (Qac.j1 k1 (decide ((q2.length : Int) > 0)) q3 q0 true q2) = some r := by rw [if_pos rfl] at H; exact H
         clear H
         have H := H1
         clear H1
         have H' := Qaa.mk H
         clear H
         obtain ⟨Jc, Jd, Je, Jf, Jg, Jh, Ji, Jj⟩ := cf4 q4
         go_wp2
         go_meet
         case rel => exact ⟨_, (decide ((q2.length : Int) > 0)), (by first | rfl | (simp; done) | (simp [*]; done)), H', ⟨by have := HK1.out; first | omega | exact Nat.le_refl _⟩, ⟨by apply blk_u; exact q4.out⟩, ⟨bl HB⟩⟩
        ·
         replace c28 := Bool.eq_false_iff.mpr c28
         subst c28
         have H1 : (Qac.j1 k1 false q3 q0 false q2) = some r := by rw [if_neg (show ¬ (false = true) by decide)] at H; exact H
         clear H
         have H := H1
         clear H1
         have H' := Qaa.mk H
         clear H
         obtain ⟨Jk, Jl, Jm, Jn, Jo, Jp, Jq, Jr⟩ := cf4 q4
         go_wp2
         go_meet
         case rel => exact ⟨_, (false), (by first | rfl | (simp; done) | (simp [*]; done)), H', ⟨by have := HK1.out; first | omega | exact Nat.le_refl _⟩, ⟨by apply blk_u; exact q4.out⟩, ⟨bl HB⟩⟩
       case rest =>
        clear Y3
        try clear c1
        try clear p1
        try clear q1
        try clear hx1
        try clear c2
        try clear p2
        try clear c3
        try clear c4
        try clear Jt
        try clear Ju
        try clear p6
        try clear c7
        try clear Jx
        try clear Jy
        try clear Y2
        try clear c12
        try clear Jz
        try clear c13
        try clear Y9
        try clear c14
        try clear Ya
        try clear p14
        try clear q14
        try clear hx14
        try clear c16
        try clear Y0
        try clear Y1
        try clear c18
        try clear c23
        try clear c25
        try clear c28
        try clear Q0
        try clear Q1
        try clear Q2
        try clear Q3
        try clear Z8
        try clear Z9
        try clear Za
        try clear Zb
        try clear Zc
        try clear Zd
        try clear Zk
        try clear Zl
        try clear Zm
        try clear Zn
        try clear Zs
        try clear Zt
        try clear Zu
        try clear Zv
        try clear Zw
        try clear Zx
        try clear J4
        try clear J5
        try clear J6
        try clear J7
        try clear Jc
        try clear Jd
        try clear Je
        try clear Jf
        try clear Jk
        try clear Jl
        try clear Jm
        try clear Jn
        try clear Qi
        try clear Qj
        try clear Qk
        try clear Ql
        try clear Qq
        try clear Qr
        try clear Qs
        try clear Qt
        try clear Q4
        try clear Q5
        try clear Q6
        try clear Q7
        try clear Ze
        try clear Zf
        try clear Zg
        try clear Zh
        try clear Zi
        try clear Zj
        try clear Zo
        try clear Zp
        try clear Zq
        try clear Zr
        try clear Zy
        try clear Zz
        try clear J0
        try clear J1
        try clear J2
        try clear J3
        try clear J8
        try clear J9
        try clear Ja
        try clear Jb
        try clear Jg
        try clear Jh
        try clear Ji
        try clear Jj
        try clear Jo
        try clear Jp
        try clear Jq
        try clear Jr
        try clear Qm
        try clear Qn
        try clear Qo
        try clear Qp
        try clear Qu
        try clear Qv
        try clear Qw
        try clear Qx
        try clear j3
        try clear j4
        try clear j5
        try clear j6
        try clear j7
        try clear j8
        try clear p140
        try clear p2
        try clear q140
        obtain ⟨kq, x42_26, rfl, HA, HJ26, q4, HB⟩ := hcut
        cases kq with
        | zero => exact absurd HA.out (by simp [Qac.j1])
        | succ kj26 =>
         have H := HA.out
         clear HA
         simp only [Qac.j1] at H
         by_cases c31 : x42_26 = true
         ·
          subst c31
          have H1 : (some 3) = some r := by rw [if_pos rfl] at H; exact H
          clear H
          have H := H1
          clear H1
          obtain rfl := Option.some.inj H
          go_wp2
          go_ret
          exact ⟨by first | rfl | (simp [errW_none, errW_some] <;> rfl) | (simp [*, errW_none, errW_some] <;> rfl), bl HB⟩
         ·
          replace c31 := Bool.eq_false_iff.mpr c31
          subst c31
          have H1 : (Qac.l1 kj26 q2 (q2.length : Int) 0 q3 q0 q6 q2) = some r := by rw [if_neg (show ¬ (false = true) by decide)] at H; exact H
          clear H
          have H := H1
          clear H1
          have H' := Qaa.mk H
          clear H
          obtain ⟨Yb, Yc, Yd, Ye, Yf, Yg, Yh, Yi⟩ := cf4 q4
          go_wp2
          go_loopg [46] kj26 (fun kq v46 w' => ∃ (x46_3 : Int), v46 = .int .i64 x46_3 ∧ Qaa (Qac.l1 kq q2 (q2.length : Int) x46_3 q3 q0 q6 q2 = some r) ∧ Qaa (kq ≤ kj26) ∧ Qaa (w'.heap[q8]? = some (.cells #[.int .i64 q3, (.slice z3 q0.length z4), .bool q6, (.slice z5 q2.length z6)] 26 (0, 0))) ∧ Qaa (Below w.heap.size w w'))
          case atStart => exact ⟨(0), (by first | rfl | (simp; done) | (simp [*]; done)), H', ⟨Nat.le_refl _⟩, ⟨by apply blk_u; exact q4.out⟩, ⟨bl HB⟩⟩
          case round =>
           clear H'
           try clear c1
           try clear p1
           try clear q1
           try clear hx1
           try clear c2
           try clear p2
           try clear c3
           try clear c4
           try clear Jt
           try clear Ju
           try clear p6
           try clear c7
           try clear Jx
           try clear Jy
           try clear Y2
           try clear c12
           try clear Jz
           try clear c13
           try clear Y9
           try clear c14
           try clear Ya
           try clear p14
           try clear q14
           try clear hx14
           try clear c16
           try clear Y0
           try clear Y1
           try clear c18
           try clear c23
           try clear c25
           try clear c28
           try clear c31
           try clear Q0
           try clear Q1
           try clear Q2
           try clear Q3
           try clear Z8
           try clear Z9
           try clear Za
           try clear Zb
           try clear Zc
           try clear Zd
           try clear Zk
           try clear Zl
           try clear Zm
           try clear Zn
           try clear Zs
           try clear Zt
           try clear Zu
           try clear Zv
           try clear Zw
           try clear Zx
           try clear J4
           try clear J5
           try clear J6
           try clear J7
           try clear Jc
           try clear Jd
           try clear Je
           try clear Jf
           try clear Jk
           try clear Jl
           try clear Jm
           try clear Jn
           try clear Yb
           try clear Yc
           try clear Yd
           try clear Ye
           try clear Qi
           try clear Qj
           try clear Qk
           try clear Ql
           try clear Qq
           try clear Qr
           try clear Qs
           try clear Qt
           try clear Q4
           try clear Q5
           try clear Q6
           try clear Q7
           try clear Ze
           try clear Zf
           try clear Zg
           try clear Zh
           try clear Zi
           try clear Zj
           try clear Zo
           try clear Zp
           try clear Zq
           try clear Zr
           try clear Zy
           try clear Zz
           try clear J0
           try clear J1
           try clear J2
           try clear J3
           try clear J8
           try clear J9
           try clear Ja
           try clear Jb
           try clear Jg
           try clear Jh
           try clear Ji
           try clear Jj
           try clear Jo
           try clear Jp
           try clear Jq
           try clear Jr
           try clear Yf
           try clear Yg
           try clear Yh
           try clear Yi
           try clear Qm
           try clear Qn
           try clear Qo
           try clear Qp
           try clear Qu
           try clear Qv
           try clear Qw
           try clear Qx
           try clear j3
           try clear j4
           try clear j5
           try clear j6
           try clear j7
           try clear j8
           try clear p1
           try clear p14
           try clear p140
           try clear p2
           try clear p6
           try clear q1
           try clear q14
           try clear q140
           obtain ⟨x46_3, rfl, HA, HK3, q4, HB⟩ := hrel
           cases gk with
           | zero => exact absurd HA.out (by simp [Qac.l1])
           | succ k3 =>
            have H := HA.out
            clear HA
            simp only [Qac.l1] at H
            by_cases c33 : x46_3 < (q2.length : Int)
            ·
             rw [if_pos c33] at H
             have Yn : decide (x46_3 < (q2.length : Int)) = true := decide_eq_true c33
             clear c33
             by_cases c34 : 0 ≤ x46_3
             ·
              rw [if_pos c34] at H
              have W0 : decide (0 ≤ x46_3) = true := decide_eq_true c34
              clear c34
              by_cases c35 : x46_3 < (q2.length : Int)
              ·
               rw [if_pos c35] at H
               have W1 : decide (x46_3 < (q2.length : Int)) = true := decide_eq_true c35
               clear c35
               replace H := Option.bind_eq_some_iff.mp H
               obtain ⟨Js, Yk, H⟩ := H
               replace H : (if Js = true then (if x46_3 > 0 then (if 0 ≤ (wrap64 (x46_3 - 1)) then (if (wrap64 (x46_3 - 1)) < (q2.length : Int) then (if (rd q2 x46_3) ≤ (rd q2 (wrap64 (x46_3 - 1))) then (some 8) else (Qac.l1 k3 q2 (q2.length : Int) (wrap64 (x46_3 + 1)) q3 q0 q6 q2)) else (none)) else (none)) else (Qac.l1 k3 q2 (q2.length : Int) (wrap64 (x46_3 + 1)) q3 q0 q6 q2)) else (some 1)) = some r := H
               have A36 := Qaa.mk Yk
               clear Yk
               by_cases c37 : Js = true
               ·
                subst c37
                have H1 : (if x46_3 > 0 then (if 0 ≤ (wrap64 (x46_3 - 1)) then (if (wrap64 (x46_3 - 1)) < (q2.length : Int) then (if (rd q2 x46_3) ≤ (rd q2 (wrap64 (x46_3 - 1))) then (some 8) else (Qac.l1 k3 q2 (q2.length : Int) (wrap64 (x46_3 + 1)) q3 q0 q6 q2)) else (none)) else (none)) else (Qac.l1 k3 q2 (q2.length : Int) (wrap64 (x46_3 + 1)) q3 q0 q6 q2)) = some r := by rw [if_pos rfl] at H; exact H
                clear H
                have H := H1
                clear H1
                by_cases c38 : x46_3 > 0
                ·
                 rw [if_pos c38] at H
                 have Yo : decide (0 < x46_3) = true := decide_eq_true c38
                 clear c38
                 obtain ⟨j0, y8⟩ : ∃ j_ : Int, (wrap64 (x46_3 - 1)) = j_ := ⟨_, rfl⟩
                 replace H : (if 0 ≤ (j0) then (if (j0) < (q2.length : Int) then (if (rd q2 x46_3) ≤ (rd q2 (j0)) then (some 8) else (Qac.l1 k3 q2 (q2.length : Int) (wrap64 (x46_3 + 1)) q3 q0 q6 q2)) else (none)) else (none)) = some r := by first | (rw [y8] at H; exact H) | (simp only [y8] at H ⊢; exact H)
                 (try rw [y8] at A36)
                 have hji39w : (IntKind.i64.wrap (x46_3 - 1)) = j0 := (i64_w _).trans y8
                 by_cases c40 : 0 ≤ (j0)
                 ·
                  rw [if_pos c40] at H
                  have W2 : decide (0 ≤ (j0)) = true := decide_eq_true c40
                  clear c40
                  by_cases c41 : (j0) < (q2.length : Int)
                  ·
                   rw [if_pos c41] at H
                   have W3 : decide ((j0) < (q2.length : Int)) = true := decide_eq_true c41
                   clear c41
                   by_cases c42 : (rd q2 x46_3) ≤ (rd q2 (j0))
                   ·
                    rw [if_pos c42] at H
                    have Yp : decide ((rd q2 x46_3) ≤ (rd q2 (j0))) = true := decide_eq_true c42
                    clear c42
                    obtain rfl := Option.some.inj H
                    have p143 : 0 ≤ (x46_3 : Int) := of_decide_eq_true (by first | (with_reducible assumption) | assumption)
                    have q143 : x46_3 < (q2.length : Int) := of_decide_eq_true (by first | (with_reducible assumption) | assumption)
                    obtain ⟨ad143, e143, q5⟩ := Kd.at_int y7.out x46_3 p143 q143
                    cases e143
                    replace q5 := (HB.out.cell (World.block_lt_of_cell? w _ q5)).trans q5
                    replace p143 := eq_true p143
                    replace q143 := eq_true q143
                    obtain ⟨Yq, Yr, Ys, Yt, Yu, Yv, Yw, Yx⟩ := cf4 q4
                    go_wp2_with (first | ((with_reducible refine gate_callee (f := 25) rfl ?_); refine gL (some 55) Try.func25 #[.int .i64 (rd q2 x46_3), .int .i64 0, .int .i64 (wrap64 (q3 - 1))] ?_; (with_reducible refine (Qaq.calls (rd q2 x46_3) 0 (wrap64 (q3 - 1)) true _ A36.out).mono ?_); rintro e w' ⟨rfl, ⟨nd, rfl⟩⟩; refine ⟨_, rfl, ?_⟩; have p145 : 0 ≤ ((j0) : Int) := of_decide_eq_true (by first | (with_reducible assumption) | assumption); have q145 : (j0) < (q2.length : Int) := of_decide_eq_true (by first | (with_reducible assumption) | assumption); obtain ⟨ad145, e145, z0⟩ := Kd.at_int y7.out (j0) p145 q145; obtain rfl : ad143 = ad145 := (by injection e145); replace z0 := (HB.out.cell (World.block_lt_of_cell? w _ z0)).trans z0; replace p145 := eq_true p145; replace q145 := eq_true q145))
                    go_ret
                    exact ⟨by first | rfl | (simp [errW_none, errW_some] <;> rfl) | (simp only [← y8]; first | rfl | (simp [errW_none, errW_some] <;> rfl)) | (simp [*, errW_none, errW_some] <;> rfl), bl HB⟩
                   ·
                    rw [if_neg c42] at H
                    have Yp : decide ((rd q2 x46_3) ≤ (rd q2 (j0))) = false := decide_eq_false c42
                    clear c42
                    have H' := Qaa.mk H
                    clear H
                    have p143 : 0 ≤ (x46_3 : Int) := of_decide_eq_true (by first | (with_reducible assumption) | assumption)
                    have q143 : x46_3 < (q2.length : Int) := of_decide_eq_true (by first | (with_reducible assumption) | assumption)
                    obtain ⟨ad143, e143, q5⟩ := Kd.at_int y7.out x46_3 p143 q143
                    cases e143
                    replace q5 := (HB.out.cell (World.block_lt_of_cell? w _ q5)).trans q5
                    replace p143 := eq_true p143
                    replace q143 := eq_true q143
                    obtain ⟨Yy, Yz, X0, X1, X2, X3, X4, X5⟩ := cf4 q4
                    go_wp2_with (first | ((with_reducible refine gate_callee (f := 25) rfl ?_); refine gL (some 55) Try.func25 #[.int .i64 (rd q2 x46_3), .int .i64 0, .int .i64 (wrap64 (q3 - 1))] ?_; (with_reducible refine (Qaq.calls (rd q2 x46_3) 0 (wrap64 (q3 - 1)) true _ A36.out).mono ?_); rintro e w' ⟨rfl, ⟨nd, rfl⟩⟩; refine ⟨_, rfl, ?_⟩; have p145 : 0 ≤ ((j0) : Int) := of_decide_eq_true (by first | (with_reducible assumption) | assumption); have q145 : (j0) < (q2.length : Int) := of_decide_eq_true (by first | (with_reducible assumption) | assumption); obtain ⟨ad145, e145, z0⟩ := Kd.at_int y7.out (j0) p145 q145; obtain rfl : ad143 = ad145 := (by injection e145); replace z0 := (HB.out.cell (World.block_lt_of_cell? w _ z0)).trans z0; replace p145 := eq_true p145; replace q145 := eq_true q145))
                    go_roundg k3
                    case measure => have := HK1.out; have := HJ26.out; have := HK3.out; omega
                    case rel => exact ⟨(wrap64 (x46_3 + 1)), (by first | rfl | (simp; done) | (simp [*]; done)), H', ⟨by have := HK1.out; have := HJ26.out; have := HK3.out; omega⟩, ⟨by apply blk_u; exact q4.out⟩, ⟨bl HB⟩⟩
                  ·
                   rw [if_neg c41] at H
                   exact absurd H (by simp)
                 ·
                  rw [if_neg c40] at H
                  exact absurd H (by simp)
                ·
                 rw [if_neg c38] at H
                 have Yo : decide (0 < x46_3) = false := decide_eq_false c38
                 clear c38
                 have H' := Qaa.mk H
                 clear H
                 have p143 : 0 ≤ (x46_3 : Int) := of_decide_eq_true (by first | (with_reducible assumption) | assumption)
                 have q143 : x46_3 < (q2.length : Int) := of_decide_eq_true (by first | (with_reducible assumption) | assumption)
                 obtain ⟨ad143, e143, q5⟩ := Kd.at_int y7.out x46_3 p143 q143
                 cases e143
                 replace q5 := (HB.out.cell (World.block_lt_of_cell? w _ q5)).trans q5
                 replace p143 := eq_true p143
                 replace q143 := eq_true q143
                 obtain ⟨X6, X7, X8, X9, Xa, Xb, Xc, Xd⟩ := cf4 q4
                 go_wp2_with (first | ((with_reducible refine gate_callee (f := 25) rfl ?_); refine gL (some 55) Try.func25 #[.int .i64 (rd q2 x46_3), .int .i64 0, .int .i64 (wrap64 (q3 - 1))] ?_; (with_reducible refine (Qaq.calls (rd q2 x46_3) 0 (wrap64 (q3 - 1)) true _ A36.out).mono ?_); rintro e w' ⟨rfl, ⟨nd, rfl⟩⟩; refine ⟨_, rfl, ?_⟩))
                 go_roundg k3
                 case measure => have := HK1.out; have := HJ26.out; have := HK3.out; omega
                 case rel => exact ⟨(wrap64 (x46_3 + 1)), (by first | rfl | (simp; done) | (simp [*]; done)), H', ⟨by have := HK1.out; have := HJ26.out; have := HK3.out; omega⟩, ⟨by apply blk_u; exact q4.out⟩, ⟨bl HB⟩⟩
               ·
                replace c37 := Bool.eq_false_iff.mpr c37
                subst c37
                have H1 : (some 1) = some r := by rw [if_neg (show ¬ (false = true) by decide)] at H; exact H
                clear H
                have H := H1
                clear H1
                obtain rfl := Option.some.inj H
                have p143 : 0 ≤ (x46_3 : Int) := of_decide_eq_true (by first | (with_reducible assumption) | assumption)
                have q143 : x46_3 < (q2.length : Int) := of_decide_eq_true (by first | (with_reducible assumption) | assumption)
                obtain ⟨ad143, e143, q5⟩ := Kd.at_int y7.out x46_3 p143 q143
                cases e143
                replace q5 := (HB.out.cell (World.block_lt_of_cell? w _ q5)).trans q5
                replace p143 := eq_true p143
                replace q143 := eq_true q143
                obtain ⟨Xe, Xf, Xg, Xh, Xi, Xj, Xk, Xl⟩ := cf4 q4
                go_wp2_with (first | ((with_reducible refine gate_callee (f := 25) rfl ?_); refine gL (some 55) Try.func25 #[.int .i64 (rd q2 x46_3), .int .i64 0, .int .i64 (wrap64 (q3 - 1))] ?_; (with_reducible refine (Qaq.calls (rd q2 x46_3) 0 (wrap64 (q3 - 1)) false _ A36.out).mono ?_); rintro e w' ⟨rfl, ⟨nd, rfl⟩⟩; refine ⟨_, rfl, ?_⟩))
                go_ret
                exact ⟨by first | rfl | (simp [errW_none, errW_some] <;> rfl) | (simp [*, errW_none, errW_some] <;> rfl), bl HB⟩
              ·
               rw [if_neg c35] at H
               exact absurd H (by simp)
             ·
              rw [if_neg c34] at H
              exact absurd H (by simp)
            ·
             rw [if_neg c33] at H
             have Yn : decide (x46_3 < (q2.length : Int)) = false := decide_eq_false c33
             clear c33
             obtain rfl := Option.some.inj H
             go_wp2
             go_ret
             exact ⟨by first | rfl | (simp [errW_none, errW_some] <;> rfl) | (simp [*, errW_none, errW_some] <;> rfl), bl HB⟩
 ·
  replace c3 := Bool.eq_false_iff.mpr c3
  subst c3
  have H1 : (some 1) = some r := by rw [if_neg (show ¬ (false = true) by decide)] at H; exact H
  clear H
  have H := H1
  clear H1
  obtain rfl := Option.some.inj H
  go_enter Try.func34, Try.ntmps34
  go_wp2_with (first | ((with_reducible refine gate_dst (N := 1) rfl ?_); (try (refine gate_guard (by rfl) ?_; dsimp only)); refine bx 1 #[.int .i64 q3, .slice z3 q0.length z4, .bool q6, .slice z5 q2.length z6] 26 ?_; intro q8 hg w47 hbox hb; have q4 := Qaa.mk (hbox); have Jv := Qaa.mk ((by rw [hg]; exact (below_size (bl HB)) : w.heap.size ≤ q8)); have Jw := Qaa.mk ((by rw [hg]; exact (below_size (bl HB)) : w.heap.size ≤ q8)); replace HB := bs HB hb; clear hb hbox hg; obtain ⟨Xm, Xn, Xo, Xp, Xq, Xr, Xs, Xt⟩ := cf4 q4) | ((with_reducible refine gate_callee (f := 25) rfl ?_); refine gL (some 10) Try.func25 #[.int .i64 q3, .int .i64 0, .int .i64 1000] ?_; (with_reducible refine (Qaq.calls q3 0 1000 false _ A2.out).mono ?_); rintro e w' ⟨rfl, ⟨nd, rfl⟩⟩; refine ⟨_, rfl, ?_⟩))
  go_ret
  exact ⟨by first | rfl | (simp [errW_none, errW_some] <;> rfl) | (simp [*, errW_none, errW_some] <;> rfl), bl HB⟩
end Go.Proofs.Ytphnmaobpefoiaa.XA
end
