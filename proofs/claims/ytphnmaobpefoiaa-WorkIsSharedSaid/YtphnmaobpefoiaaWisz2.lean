/- A part of the proof of: WorkIsShared: for every input the call returns true and each argument reads as before; no condition. -/
import Derived.Test.YtphnmaobpefoiaaWisz1
import Derived.ArgAppend
import Derived.Below
import Derived.BigQuiet
import Derived.Deep.AppendLies
import Derived.Deep.CutBlock
import Derived.Deep.DeepCutAuto
import Derived.Deep.Draws
import Derived.Deep.LoopGhost
import Derived.Deep.OwnRows
import Derived.Deep.QuietTactic
import Derived.Deep.RegionHeld3
import Derived.KernelRfl
import Derived.Laws.BitsLemmas
import Derived.Laws.BytesArg
import Derived.Laws.IdiomCopy
import Derived.Laws.MakeOwn
import Derived.Laws.OwnMore
import Derived.Laws.Rows
import Derived.Laws.Slices
import Derived.Lib.AppendStr
import Derived.Lib.ConvBytes
import Derived.Lib.SliceRun
import Derived.Lib.SlicesCompact
import Derived.Maps.AppendAt
import Derived.OrdersHeld
import Derived.OwnWalk
import Derived.RowKit
import Derived.RowKit3
import Derived.Sort.OwnSorted
import Derived.Sort.Walk0
import Derived.Tactics
import Derived.Test.YtphnmaobpefoiaaProg
import Derived.WalkKit
import Derived.WideLaws
set_option linter.unusedVariables false
set_option linter.unusedSimpArgs false
section
namespace Go.Proofs.YtphnmaobpefoiaaXW
open Go.RowKit Go.Proofs.YtphnmaobpefoiaaW.PrintWords Go.Proofs.YtphnmaobpefoiaaW.PrintLast Go.Proofs.YtphnmaobpefoiaaW.PrintMore
theorem le_lists (a b : List UInt8) : (a < b ∨ a = b) ↔ ¬ b < a := by
  rw [List.not_lt, List.le_iff_lt_or_eq]
theorem sleq (t : TypeId) (a b : ByteArray) : binOp .leq t (.string a) (.string b) = pure (.bool (!Op.bytesLess b.toList a.toList)) := by
  have h : (Op.bytesLess a.toList b.toList || a.toList == b.toList) = !Op.bytesLess b.toList a.toList := by
    rw [bytesLess_eq, bytesLess_eq, Bool.eq_iff_iff]
    simp only [Bool.or_eq_true, decide_eq_true_eq, beq_iff_eq, Bool.not_eq_true', decide_eq_false_iff_not]
    exact le_lists _ _
  rw [← h]
  simp [binOp, Op.stringOp]
end Go.Proofs.YtphnmaobpefoiaaXW
namespace Go.Proofs.YtphnmaobpefoiaaXW
open Go.RowKit Go.Proofs.YtphnmaobpefoiaaW.PrintWords Go.Proofs.YtphnmaobpefoiaaW.PrintLast Go.Proofs.YtphnmaobpefoiaaW.PrintMore
class Up (w : outParam World) (W : World) : Prop where
  b : Below w.heap.size w W
instance (w : World) : Up w w := ⟨Below.refl _ _⟩
instance {w W : World} [h : Up w W] (o : Obj) : Up w (W.alloc o) := ⟨below_alloc h.b o⟩
instance {w W : World} [h : Up w W] : Up w W.drew := ⟨below_drew h.b⟩
instance {w W : World} [h : Up w W] (n : Nat) : Up w (W.drewN n) := ⟨pw_below_drewN h.b n⟩
theorem blk_u {w W : World} [h : Up w W] {g : Nat} {o : Obj} (x : w.heap[g]? = some o) : W.heap[g]? = some o := blk_below x h.b
theorem R_u {α : Type} {d : Kd α} {e base : Nat} {ok : Nat → Prop} {v : Value} {xs : List α} {w W : World} [h : Up w W] (x : d.R e w base ok v xs) : d.R e W base ok v xs := Kd.R_below x h.b
theorem V_u {α : Type} {d : Kd α} {e base : Nat} {ok : Nat → Prop} {v : Value} {xs : List α} {w W : World} [h : Up w W] (x : Kd.V d e w base ok v xs) : Kd.V d e W base ok v xs := Kd.V_below x h.b
end Go.Proofs.YtphnmaobpefoiaaXW
end
section
namespace Go.Proofs.YtphnmaobpefoiaaXW
open Go.RowKit Go.Proofs.YtphnmaobpefoiaaW.PrintWords Go.Proofs.YtphnmaobpefoiaaW.PrintLast Go.Proofs.YtphnmaobpefoiaaW.PrintMore
theorem bl {w W0 W : World} (x : Qaa (Below w.heap.size w W0))
    (h : Below w.heap.size w W0 → Below w.heap.size w W := by intro hB; repeat (first | (with_reducible first | exact hB | apply below_alloc | apply pw_below_drewN | apply below_drew1 | refine below_set ?_ (Qaa.out (by assumption))) | exact hB)) : Below w.heap.size w W := h x.out
theorem bs {w W0 W W2 : World} (x : Qaa (Below w.heap.size w W0)) (hb : Below W.heap.size W W2)
    (h : Below w.heap.size w W0 → Below w.heap.size w W := by intro hB; repeat (first | (with_reducible first | exact hB | apply below_alloc | apply pw_below_drewN | apply below_drew1 | refine below_set ?_ (Qaa.out (by assumption))) | exact hB)) : Qaa (Below w.heap.size w W2) := ⟨below_step (h x.out) hb⟩
theorem gs {w W0 W : World} {g : Nat} (hg : g = W.heap.size) (x : Qaa (Below w.heap.size w W0))
    (h : Below w.heap.size w W0 → Below w.heap.size w W := by intro hB; repeat (first | (with_reducible first | exact hB | apply below_alloc | apply pw_below_drewN | apply below_drew1 | refine below_set ?_ (Qaa.out (by assumption))) | exact hB)) : Qaa (w.heap.size ≤ g) := ⟨hg ▸ below_size (h x.out)⟩
theorem Ub {w W : World} {g : Nat} {t : TypeId} {cs : Array Value} (x : Qaa (w.heap[g]? = some (.cells cs t (0, 0))))
    (h : w.heap[g]? = some (.cells cs t (0, 0)) → W.heap[g]? = some (.cells cs t (0, 0)) := by intro hB; repeat (first | (with_reducible first | exact hB | refine blk_drewN ?_ _ | refine blk_drew ?_ | refine blk_alloc ?_ _ | refine blk_far ?_ (Qaa.out (by assumption)) _) | exact hB)) : W.heap[g]? = some (.cells cs t (0, 0)) := h x.out
theorem Bb {w W W2 : World} {g : Nat} {t : TypeId} {cs : Array Value} (x : Qaa (w.heap[g]? = some (.cells cs t (0, 0)))) (hb : Below W.heap.size W W2)
    (h : w.heap[g]? = some (.cells cs t (0, 0)) → W.heap[g]? = some (.cells cs t (0, 0)) := by intro hB; repeat (first | (with_reducible first | exact hB | refine blk_drewN ?_ _ | refine blk_drew ?_ | refine blk_alloc ?_ _ | refine blk_far ?_ (Qaa.out (by assumption)) _) | exact hB)) : Qaa (W2.heap[g]? = some (.cells cs t (0, 0))) := ⟨blk_below (h x.out) hb⟩
theorem nl {w W : World} {g a : Nat} {t : TypeId} {cs : Array Value} (x : Qaa (w.heap[g]? = some (.cells cs t (0, 0)))) (hg : a = W.heap.size)
    (h : w.heap[g]? = some (.cells cs t (0, 0)) → W.heap[g]? = some (.cells cs t (0, 0)) := by intro hB; repeat (first | (with_reducible first | exact hB | refine blk_drewN ?_ _ | refine blk_drew ?_ | refine blk_alloc ?_ _ | refine blk_far ?_ (Qaa.out (by assumption)) _) | exact hB)) : Qaa (g ≠ a) := ⟨hg ▸ Nat.ne_of_lt (blk_lt (h x.out))⟩
theorem cf2 {w : World} {g : Nat} {t : TypeId} {a0 a1 : Value} (h : Qaa (w.heap[g]? = some (.cells #[a0, a1] t (0, 0)))) :
    w.cell? ⟨g, 0, none⟩ = some a0 ∧ w.cell? ⟨g, 1, none⟩ = some a1 ∧ w.frozen? ⟨g, 0, none⟩ = false ∧ w.frozen? ⟨g, 1, none⟩ = false :=
  ⟨blk_cell h.out 0, blk_cell h.out 1, blk_frozen h.out 0, blk_frozen h.out 1⟩
theorem cf3 {w : World} {g : Nat} {t : TypeId} {a0 a1 a2 : Value} (h : Qaa (w.heap[g]? = some (.cells #[a0, a1, a2] t (0, 0)))) :
    w.cell? ⟨g, 0, none⟩ = some a0 ∧ w.cell? ⟨g, 1, none⟩ = some a1 ∧ w.cell? ⟨g, 2, none⟩ = some a2 ∧ w.frozen? ⟨g, 0, none⟩ = false ∧ w.frozen? ⟨g, 1, none⟩ = false ∧ w.frozen? ⟨g, 2, none⟩ = false :=
  ⟨blk_cell h.out 0, blk_cell h.out 1, blk_cell h.out 2, blk_frozen h.out 0, blk_frozen h.out 1, blk_frozen h.out 2⟩
theorem cf4 {w : World} {g : Nat} {t : TypeId} {a0 a1 a2 a3 : Value} (h : Qaa (w.heap[g]? = some (.cells #[a0, a1, a2, a3] t (0, 0)))) :
    w.cell? ⟨g, 0, none⟩ = some a0 ∧ w.cell? ⟨g, 1, none⟩ = some a1 ∧ w.cell? ⟨g, 2, none⟩ = some a2 ∧ w.cell? ⟨g, 3, none⟩ = some a3 ∧ w.frozen? ⟨g, 0, none⟩ = false ∧ w.frozen? ⟨g, 1, none⟩ = false ∧ w.frozen? ⟨g, 2, none⟩ = false ∧ w.frozen? ⟨g, 3, none⟩ = false :=
  ⟨blk_cell h.out 0, blk_cell h.out 1, blk_cell h.out 2, blk_cell h.out 3, blk_frozen h.out 0, blk_frozen h.out 1, blk_frozen h.out 2, blk_frozen h.out 3⟩
theorem cf5 {w : World} {g : Nat} {t : TypeId} {a0 a1 a2 a3 a4 : Value} (h : Qaa (w.heap[g]? = some (.cells #[a0, a1, a2, a3, a4] t (0, 0)))) :
    w.cell? ⟨g, 0, none⟩ = some a0 ∧ w.cell? ⟨g, 1, none⟩ = some a1 ∧ w.cell? ⟨g, 2, none⟩ = some a2 ∧ w.cell? ⟨g, 3, none⟩ = some a3 ∧ w.cell? ⟨g, 4, none⟩ = some a4 ∧ w.frozen? ⟨g, 0, none⟩ = false ∧ w.frozen? ⟨g, 1, none⟩ = false ∧ w.frozen? ⟨g, 2, none⟩ = false ∧ w.frozen? ⟨g, 3, none⟩ = false ∧ w.frozen? ⟨g, 4, none⟩ = false :=
  ⟨blk_cell h.out 0, blk_cell h.out 1, blk_cell h.out 2, blk_cell h.out 3, blk_cell h.out 4, blk_frozen h.out 0, blk_frozen h.out 1, blk_frozen h.out 2, blk_frozen h.out 3, blk_frozen h.out 4⟩
theorem cf6 {w : World} {g : Nat} {t : TypeId} {a0 a1 a2 a3 a4 a5 : Value} (h : Qaa (w.heap[g]? = some (.cells #[a0, a1, a2, a3, a4, a5] t (0, 0)))) :
    w.cell? ⟨g, 0, none⟩ = some a0 ∧ w.cell? ⟨g, 1, none⟩ = some a1 ∧ w.cell? ⟨g, 2, none⟩ = some a2 ∧ w.cell? ⟨g, 3, none⟩ = some a3 ∧ w.cell? ⟨g, 4, none⟩ = some a4 ∧ w.cell? ⟨g, 5, none⟩ = some a5 ∧ w.frozen? ⟨g, 0, none⟩ = false ∧ w.frozen? ⟨g, 1, none⟩ = false ∧ w.frozen? ⟨g, 2, none⟩ = false ∧ w.frozen? ⟨g, 3, none⟩ = false ∧ w.frozen? ⟨g, 4, none⟩ = false ∧ w.frozen? ⟨g, 5, none⟩ = false :=
  ⟨blk_cell h.out 0, blk_cell h.out 1, blk_cell h.out 2, blk_cell h.out 3, blk_cell h.out 4, blk_cell h.out 5, blk_frozen h.out 0, blk_frozen h.out 1, blk_frozen h.out 2, blk_frozen h.out 3, blk_frozen h.out 4, blk_frozen h.out 5⟩
section
variable {α : Type} {d : Kd α} {e base : Nat} {ok : Nat → Prop} {v : Value} {xs : List α} {w W W2 : World}
theorem Rb (x : Qaa (d.R e w base ok v xs)) (hb : Below W.heap.size W W2) [h : Up w W] : Qaa (d.R e W2 base ok v xs) := ⟨Kd.R_below (Kd.R_below x.out h.b) hb⟩
theorem Cb {A : Option Addr} {n : Nat} {w0 : World} (x : Qaa (d.C w0 A n xs)) (hb : Qaa (Below w0.heap.size w0 w)) [h : Up w W] : d.C W A n xs := Kd.C_below (Kd.C_below x.out hb.out) h.b
theorem Cu {A : Option Addr} {n : Nat} (x : d.C w A n xs) [h : Up w W] : d.C W A n xs := Kd.C_below x h.b
end
end Go.Proofs.YtphnmaobpefoiaaXW
namespace Go.Proofs.YtphnmaobpefoiaaXW
open Go.RowKit Go.Proofs.YtphnmaobpefoiaaW.PrintWords Go.Proofs.YtphnmaobpefoiaaW.PrintLast Go.Proofs.YtphnmaobpefoiaaW.PrintMore
theorem gL {P : Program} {ops : Array Oper} {Q : Exit → Act → World → Prop} {rest : List Oper} {oi : Oper} {a : Act} {w : World} (N : Option Tmp) {f : FuncId} {fn : Func} {ars : Array Operand} {ts : Array TypeId} (hf : P.funcs[f]? = some fn) (args : Array Value)
    (h : Calls P f args w fun e w' => ∃ v, e = .returned v ∧ wpList P ops Q rest (a.put N v) w')
    (hd : oi.dst = N := by rfl) (hg : oi.guard = none := by rfl) (hname : (fn.name == "runtime.NumGoroutine") = false := by kernel_rfl) (hb : fn.body.isSome = true := by rfl)
    (hop : oi.op = .call { callee := .value (.func f), args := ars, argTypes := ts } := by rfl)
    (hargs : ars.map a.eval = args := by (try simp only [List.map_toArray, List.map_cons, List.map_nil]); first | done | rfl | (simp only [List.length_drop, List.length_take]; rfl)) : wpList P ops Q (oi :: rest) a w :=
  goesL_ N hd hg hf hname hb args hop hargs h
theorem bx {P : Program} {ops : Array Oper} {Q : Exit → Act → World → Prop} {rest : List Oper} {o : Oper} {a : Act} {W : World} (N : Tmp) (cs : Array Value) (t : TypeId)
    (h : ∀ g, g = W.heap.size → ∀ w1, w1.heap[g]? = some (.cells cs t (0, 0)) → Below W.heap.size W w1 → wpList P ops Q rest (a.put o.dst (.pointer (some ⟨g, 0, none⟩))) w1)
    (hd : o.dst = some N := by rfl) (hgd : o.guard = none := by rfl)
    (hrun : (execOp a.eval o).run P W = .ok (.value (.pointer (some ⟨W.heap.size, 0, none⟩))) (W.alloc (.cells cs t (0, 0))) := by first | (go_simp; done) | (go_simp; rfl)) : wpList P ops Q (o :: rest) a W :=
  box_event hgd hd hrun h
end Go.Proofs.YtphnmaobpefoiaaXW
namespace Go.Proofs.YtphnmaobpefoiaaXW
open Go.RowKit Go.Proofs.YtphnmaobpefoiaaW.PrintWords Go.Proofs.YtphnmaobpefoiaaW.PrintLast Go.Proofs.YtphnmaobpefoiaaW.PrintMore
section
variable {α : Type} {d : Kd α} {e base : Nat} {ok : Nat → Prop} {v : Value} {xs : List α} {w W w' : World} {g t : Nat} {cs : Array Value}
theorem Rf (x : Qaa (d.R e w base ok v xs)) (b : Qaa (w.heap[g]? = some (.cells cs t (0, 0)))) (ht : ∀ q, q ∈ e :: d.E → q ≠ t := by decide)
    (h : d.R e w base (fun k => ok k ∧ k ≠ g) v xs → d.R e W base (fun k => ok k ∧ k ≠ g) v xs := by intro h; repeat (first | (with_reducible first | exact h | apply Kd.R_alloc | apply Kd.R_drewN | apply Kd.R_drew | refine Kd.R_far ?_ (fun _ hk => hk.2) _) | exact h)) : d.R e W base ok v xs :=
  Kd.R_mono (h (Kd.R_types x.out b.out ht)) (fun _ h => h.1)
theorem Vf (x : Qaa (Kd.V d e w base ok v xs)) (hp : ∀ k, ok k → k ≠ g)
    (h : Kd.V d e w base (fun k => ok k ∧ k ≠ g) v xs → Kd.V d e W base (fun k => ok k ∧ k ≠ g) v xs := by intro h; repeat (first | (with_reducible first | exact h | apply Kd.V_alloc | apply Kd.V_drewN | apply Kd.V_drew | refine Kd.V_far ?_ (fun _ hk => hk.2) _) | exact h)) : Kd.V d e W base ok v xs :=
  Kd.V_mono (h (Kd.V_mono x.out (fun k hk => ⟨hk, hp k hk⟩))) (fun _ h => h.1)
theorem hR (hw : w' = W) (x : d.R e W base ok v xs) : Qaa (d.R e w' base ok v xs) := ⟨hw ▸ x⟩
theorem hV (hw : w' = W) (x : Kd.V d e W base ok v xs) : Qaa (Kd.V d e w' base ok v xs) := ⟨hw ▸ x⟩
theorem hN (hw : w' = W) (x : Kd.N d e W base ok v xs) : Qaa (Kd.N d e w' base ok v xs) := ⟨hw ▸ x⟩
theorem hB {o : Obj} (hw : w' = W) (x : W.heap[g]? = some o) : Qaa (w'.heap[g]? = some o) := ⟨hw ▸ x⟩
end
theorem Uf6 {w w1 W : World} {g t : Nat} {z0 z1 z2 z3 z4 z5 a0 a1 a2 a3 a4 a5 : Value} (x : Qaa (w.heap[g]? = some (.cells #[z0, z1, z2, z3, z4, z5] t (0, 0))))
    [h1 : Up ((((((w1.setCell ⟨g, 0, none⟩ a0).setCell ⟨g, 1, none⟩ a1).setCell ⟨g, 2, none⟩ a2).setCell ⟨g, 3, none⟩ a3).setCell ⟨g, 4, none⟩ a4).setCell ⟨g, 5, none⟩ a5) W] [h2 : Up w w1] : W.heap[g]? = some (.cells #[a0, a1, a2, a3, a4, a5] t (0, 0)) :=
  blk_below (blk_put (blk_put (blk_put (blk_put (blk_put (blk_put (blk_below x.out h2.b) 0 a0 rfl) 1 a1 rfl) 2 a2 rfl) 3 a3 rfl) 4 a4 rfl) 5 a5 rfl) h1.b
end Go.Proofs.YtphnmaobpefoiaaXW
namespace Go.Proofs.YtphnmaobpefoiaaXW
open Go.RowKit Go.Proofs.YtphnmaobpefoiaaW.PrintWords Go.Proofs.YtphnmaobpefoiaaW.PrintLast Go.Proofs.YtphnmaobpefoiaaW.PrintMore
section
variable {α : Type} {d : Kd α} {e base : Nat} {ok ok' : Nat → Prop} {v : Value} {xs : List α} {w : World}
theorem Vm (x : Kd.V d e w base ok v xs) (h : ∀ k, ok k → ok' k := by intro k hk; simp only [hk, ne_eq, not_false_eq_true, and_self, or_true, true_or]) : Kd.V d e w base ok' v xs := Kd.V_mono x h
end
end Go.Proofs.YtphnmaobpefoiaaXW
end
section
namespace Go.Proofs.YtphnmaobpefoiaaXW
open Go.RowKit Go.Sort Go.Proofs Go.Proofs.YtphnmaobpefoiaaW.PrintWords Go.Proofs.YtphnmaobpefoiaaW.PrintLast Go.Proofs.YtphnmaobpefoiaaW.PrintMore
end Go.Proofs.YtphnmaobpefoiaaXW
end
section

end
section
namespace Go.Proofs.Ytphnmaobpefoiaa.XW
open Go.RowKit Go.Proofs.YtphnmaobpefoiaaXW Go.Proofs.YtphnmaobpefoiaaW.PrintWords Go.Proofs.YtphnmaobpefoiaaW.PrintLast Go.Proofs.YtphnmaobpefoiaaW.PrintMore
attribute [local go_sem] max2_int min2_int max_two min_two max_three min_three max_four min_four sleq
set_option linter.unusedVariables false
set_option linter.unusedSimpArgs false
def errW : Option Int → Value
 | none => .nilIface
 | some c => .iface 0 (.int .i64 c)
theorem errW_none : errW none = .nilIface := rfl
theorem errW_some (c : Int) : errW (some c) = .iface 0 (.int .i64 c) := rfl
theorem info3 : (Try.prog.info? 3).map (fun i => (i.zero, i.size, i.bytes)) = some (some (.int .i64 0), 1, 8) := by kernel_rfl
theorem info34 : (Try.prog.info? 34).map (fun i => (i.zero, i.size, i.bytes)) = some (some (.agg #[(.slice none 0 0)]), 1, 24) := by kernel_rfl
theorem info86 : (Try.prog.info? 86).map (fun i => (i.zero, i.size, i.bytes)) = some (some (.agg #[(.string ⟨#[]⟩), (.int .i64 0)]), 2, 24) := by kernel_rfl
structure S39 where
 f0 : Int
 f1 : (List Bool)
 f2 : (List Int)
 f3 : (List ByteArray)
 f4 : (List ByteArray)
 f5 : (List Int)
def z39 : S39 := ⟨(0 : Int), ([] : List Bool), ([] : List Int), ([] : List ByteArray), ([] : List ByteArray), ([] : List Int)⟩
def k39 : Kd S39 := Kd.iso (Kd.pair (Kd.int .i64) (Kd.pair (Kd.slice 4 Kd.bool) (Kd.pair (Kd.slice 3 (Kd.int .i64)) (Kd.pair (Kd.slice 9 Kd.string) (Kd.pair (Kd.slice 9 Kd.string) (Kd.slice 3 (Kd.int .i64))))))) (fun x : S39 => (x.f0, x.f1, x.f2, x.f3, x.f4, x.f5))
theorem k39_open {w : World} {x : S39} {cs : List Value} (h : k39.K w x cs) : ∃ A1 c1 A2 c2 A3 c3 A4 c4 A5 c5, cs = [.int .i64 x.f0, .slice A1 x.f1.length c1, .slice A2 x.f2.length c2, .slice A3 x.f3.length c3, .slice A4 x.f4.length c4, .slice A5 x.f5.length c5] ∧ x.f1.length ≤ c1 ∧ Kd.bool.C w A1 x.f1.length x.f1 ∧ x.f2.length ≤ c2 ∧ (Kd.int .i64).C w A2 x.f2.length x.f2 ∧ x.f3.length ≤ c3 ∧ Kd.string.C w A3 x.f3.length x.f3 ∧ x.f4.length ≤ c4 ∧ Kd.string.C w A4 x.f4.length x.f4 ∧ x.f5.length ≤ c5 ∧ (Kd.int .i64).C w A5 x.f5.length x.f5 := by
 obtain ⟨_, _, rfl, rfl, ⟨_, _, rfl, ⟨A1, c1, rfl, l1, g1⟩, ⟨_, _, rfl, ⟨A2, c2, rfl, l2, g2⟩, ⟨_, _, rfl, ⟨A3, c3, rfl, l3, g3⟩, ⟨_, _, rfl, ⟨A4, c4, rfl, l4, g4⟩, ⟨A5, c5, rfl, l5, g5⟩⟩⟩⟩⟩⟩ := h
 exact ⟨A1, c1, A2, c2, A3, c3, A4, c4, A5, c5, rfl, l1, g1, l2, g2, l3, g3, l4, g4, l5, g5⟩
def rd_T39 (xs : List S39) (i : Int) : S39 := xs.getD i.toNat z39
theorem at_T39 {w : World} {A : Option Addr} {n : Nat} {xs : List S39} (h : Kd.C k39 w A n xs) (i : Int) (h0 : 0 ≤ i) (h1 : i < n) : ∃ ad A1 c1 A2 c2 A3 c3 A4 c4 A5 c5, A = some ad ∧ w.cell? (ad.add (i.toNat * 6)) = some (.int .i64 (rd_T39 xs i).f0) ∧ w.cell? ⟨(ad.add (i.toNat * 6)).block, (ad.add (i.toNat * 6)).off + 1, none⟩ = some (.slice A1 (rd_T39 xs i).f1.length c1) ∧ w.cell? ⟨(ad.add (i.toNat * 6)).block, (ad.add (i.toNat * 6)).off + 2, none⟩ = some (.slice A2 (rd_T39 xs i).f2.length c2) ∧ w.cell? ⟨(ad.add (i.toNat * 6)).block, (ad.add (i.toNat * 6)).off + 3, none⟩ = some (.slice A3 (rd_T39 xs i).f3.length c3) ∧ w.cell? ⟨(ad.add (i.toNat * 6)).block, (ad.add (i.toNat * 6)).off + 4, none⟩ = some (.slice A4 (rd_T39 xs i).f4.length c4) ∧ w.cell? ⟨(ad.add (i.toNat * 6)).block, (ad.add (i.toNat * 6)).off + 5, none⟩ = some (.slice A5 (rd_T39 xs i).f5.length c5) ∧ (rd_T39 xs i).f1.length ≤ c1 ∧ Kd.bool.C w A1 (rd_T39 xs i).f1.length (rd_T39 xs i).f1 ∧ (rd_T39 xs i).f2.length ≤ c2 ∧ (Kd.int .i64).C w A2 (rd_T39 xs i).f2.length (rd_T39 xs i).f2 ∧ (rd_T39 xs i).f3.length ≤ c3 ∧ Kd.string.C w A3 (rd_T39 xs i).f3.length (rd_T39 xs i).f3 ∧ (rd_T39 xs i).f4.length ≤ c4 ∧ Kd.string.C w A4 (rd_T39 xs i).f4.length (rd_T39 xs i).f4 ∧ (rd_T39 xs i).f5.length ≤ c5 ∧ (Kd.int .i64).C w A5 (rd_T39 xs i).f5.length (rd_T39 xs i).f5 := by
 obtain ⟨ad, c, e, _, hK, hc0⟩ := Kd.C_get h z39 i h0 h1
 have hc : ∀ j u, c[j]? = some u → w.cell? (ad.add (i.toNat * 6 + j)) = some u := hc0
 obtain ⟨A1, c1, A2, c2, A3, c3, A4, c4, A5, c5, rfl, l1, g1, l2, g2, l3, g3, l4, g4, l5, g5⟩ := k39_open hK
 exact ⟨ad, A1, c1, A2, c2, A3, c3, A4, c4, A5, c5, e, hc 0 _ rfl, by rw [← add_field _ _ 1 (by omega)]; exact hc 1 _ rfl, by rw [← add_field _ _ 2 (by omega)]; exact hc 2 _ rfl, by rw [← add_field _ _ 3 (by omega)]; exact hc 3 _ rfl, by rw [← add_field _ _ 4 (by omega)]; exact hc 4 _ rfl, by rw [← add_field _ _ 5 (by omega)]; exact hc 5 _ rfl, l1, g1, l2, g2, l3, g3, l4, g4, l5, g5⟩
structure S86 where
 f0 : ByteArray
 f1 : Int
def z86 : S86 := ⟨(⟨#[]⟩ : ByteArray), (0 : Int)⟩
def k86 : Kd S86 := Kd.iso (Kd.pair Kd.string (Kd.int .i64)) (fun x : S86 => (x.f0, x.f1))
theorem k86_open {w : World} {x : S86} {cs : List Value} (h : k86.K w x cs) : cs = [.string x.f0, .int .i64 x.f1] := by
 obtain ⟨_, _, rfl, rfl, rfl⟩ := h
 exact rfl
def rd_T86 (xs : List S86) (i : Int) : S86 := xs.getD i.toNat z86
theorem at_T86 {w : World} {A : Option Addr} {n : Nat} {xs : List S86} (h : Kd.C k86 w A n xs) (i : Int) (h0 : 0 ≤ i) (h1 : i < n) : ∃ ad , A = some ad ∧ w.cell? (ad.add (i.toNat * 2)) = some (.string (rd_T86 xs i).f0) ∧ w.cell? ⟨(ad.add (i.toNat * 2)).block, (ad.add (i.toNat * 2)).off + 1, none⟩ = some (.int .i64 (rd_T86 xs i).f1) := by
 obtain ⟨ad, c, e, _, hK, hc0⟩ := Kd.C_get h z86 i h0 h1
 have hc : ∀ j u, c[j]? = some u → w.cell? (ad.add (i.toNat * 2 + j)) = some u := hc0
 obtain rfl := k86_open hK
 exact ⟨ad, e, hc 0 _ rfl, by rw [← add_field _ _ 1 (by omega)]; exact hc 1 _ rfl⟩
structure S41 where
 f0 : Int
 f1 : Int
 f2 : ByteArray
def z41 : S41 := ⟨(0 : Int), (0 : Int), (⟨#[]⟩ : ByteArray)⟩
def k41 : Kd S41 := Kd.iso (Kd.pair (Kd.int .i64) (Kd.pair (Kd.int .i64) Kd.string)) (fun x : S41 => (x.f0, x.f1, x.f2))
theorem k41_open {w : World} {x : S41} {cs : List Value} (h : k41.K w x cs) : cs = [.int .i64 x.f0, .int .i64 x.f1, .string x.f2] := by
 obtain ⟨_, _, rfl, rfl, ⟨_, _, rfl, rfl, rfl⟩⟩ := h
 exact rfl
structure S64 where
 f0 : Int
 f1 : Int
 f2 : S41
def z64 : S64 := ⟨(0 : Int), (0 : Int), z41⟩
def k64 : Kd S64 := Kd.iso (Kd.pair (Kd.int .i64) (Kd.pair (Kd.int .i64) k41)) (fun x : S64 => (x.f0, x.f1, x.f2))
theorem k64_open {w : World} {x : S64} {cs : List Value} (h : k64.K w x cs) : cs = [.int .i64 x.f0, .int .i64 x.f1, .int .i64 x.f2.f0, .int .i64 x.f2.f1, .string x.f2.f2] := by
 obtain ⟨_, _, rfl, rfl, ⟨_, _, rfl, rfl, s2⟩⟩ := h
 obtain rfl := k41_open s2
 exact rfl
def rd_T64 (xs : List S64) (i : Int) : S64 := xs.getD i.toNat z64
theorem at_T64 {w : World} {A : Option Addr} {n : Nat} {xs : List S64} (h : Kd.C k64 w A n xs) (i : Int) (h0 : 0 ≤ i) (h1 : i < n) : ∃ ad , A = some ad ∧ w.cell? (ad.add (i.toNat * 5)) = some (.int .i64 (rd_T64 xs i).f0) ∧ w.cell? ⟨(ad.add (i.toNat * 5)).block, (ad.add (i.toNat * 5)).off + 1, none⟩ = some (.int .i64 (rd_T64 xs i).f1) ∧ w.cell? ⟨(ad.add (i.toNat * 5)).block, (ad.add (i.toNat * 5)).off + 2, none⟩ = some (.int .i64 (rd_T64 xs i).f2.f0) ∧ w.cell? ⟨(ad.add (i.toNat * 5)).block, (ad.add (i.toNat * 5)).off + 3, none⟩ = some (.int .i64 (rd_T64 xs i).f2.f1) ∧ w.cell? ⟨(ad.add (i.toNat * 5)).block, (ad.add (i.toNat * 5)).off + 4, none⟩ = some (.string (rd_T64 xs i).f2.f2) := by
 obtain ⟨ad, c, e, _, hK, hc0⟩ := Kd.C_get h z64 i h0 h1
 have hc : ∀ j u, c[j]? = some u → w.cell? (ad.add (i.toNat * 5 + j)) = some u := hc0
 obtain rfl := k64_open hK
 exact ⟨ad, e, hc 0 _ rfl, by rw [← add_field _ _ 1 (by omega)]; exact hc 1 _ rfl, by rw [← add_field _ _ 2 (by omega)]; exact hc 2 _ rfl, by rw [← add_field _ _ 3 (by omega)]; exact hc 3 _ rfl, by rw [← add_field _ _ 4 (by omega)]; exact hc 4 _ rfl⟩
def rd_L10 (xs : List (List S64)) (i : Int) : (List S64) := xs.getD i.toNat ([] : List S64)
theorem at_L10 {w : World} {A : Option Addr} {n : Nat} {xs : List (List S64)} (h : Kd.C (Kd.slice 64 k64) w A n xs) (i : Int) (h0 : 0 ≤ i) (h1 : i < n) : ∃ ad A0 c0, A = some ad ∧ w.cell? (ad.add i.toNat) = some (.slice A0 (rd_L10 xs i).length c0) ∧ (rd_L10 xs i).length ≤ c0 ∧ k64.C w A0 (rd_L10 xs i).length (rd_L10 xs i) := by
 obtain ⟨ad, c, e, _, hK, hc0⟩ := Kd.C_get h ([] : List S64) i h0 h1
 have hc : ∀ j u, c[j]? = some u → w.cell? (ad.add (i.toNat * 1 + j)) = some u := hc0
 obtain ⟨A0, c0, rfl, l0, g0⟩ := hK
 exact ⟨ad, A0, c0, e, by have hq := hc 0 _ rfl; rwa [Nat.mul_one, Nat.add_zero] at hq, l0, g0⟩
structure S34 where
 f0 : (List S64)
def z34 : S34 := ⟨([] : List S64)⟩
def k34 : Kd S34 := Kd.iso (Kd.slice 64 k64) (fun x : S34 => x.f0)
theorem k34_open {w : World} {x : S34} {cs : List Value} (h : k34.K w x cs) : ∃ A0 c0, cs = [.slice A0 x.f0.length c0] ∧ x.f0.length ≤ c0 ∧ k64.C w A0 x.f0.length x.f0 := by
 obtain ⟨A0, c0, rfl, l0, g0⟩ := h
 exact ⟨A0, c0, rfl, l0, g0⟩
theorem k34_mk (w : World) (x : S34) {A0 : Option Addr} {c0 : Nat} (l0 : x.f0.length ≤ c0) (g0 : k64.C w A0 x.f0.length x.f0) : k34.K w x [.slice A0 x.f0.length c0] := ⟨A0, c0, rfl, l0, g0⟩
theorem k34_mkF (W : World) (ok : Nat → Prop) (x : S34) {A0 : Option Addr} {c0 : Nat} (l0 : x.f0.length ≤ c0) (g0 : Kd.F k64 W ok A0 x.f0.length x.f0) : Kd.FK k34 W ok x [.slice A0 x.f0.length c0] := fun W2 hW => k34_mk W2 x l0 (g0 W2 hW)
def rd_T34 (xs : List S34) (i : Int) : S34 := xs.getD i.toNat z34
theorem at_T34 {w : World} {A : Option Addr} {n : Nat} {xs : List S34} (h : Kd.C k34 w A n xs) (i : Int) (h0 : 0 ≤ i) (h1 : i < n) : ∃ ad A0 c0, A = some ad ∧ w.cell? (ad.add i.toNat) = some (.slice A0 (rd_T34 xs i).f0.length c0) ∧ (rd_T34 xs i).f0.length ≤ c0 ∧ k64.C w A0 (rd_T34 xs i).f0.length (rd_T34 xs i).f0 := by
 obtain ⟨ad, c, e, _, hK, hc0⟩ := Kd.C_get h z34 i h0 h1
 have hc : ∀ j u, c[j]? = some u → w.cell? (ad.add (i.toNat * 1 + j)) = some u := hc0
 obtain ⟨A0, c0, rfl, l0, g0⟩ := k34_open hK
 exact ⟨ad, A0, c0, e, by have hq := hc 0 _ rfl; rwa [Nat.mul_one, Nat.add_zero] at hq, l0, g0⟩
end Go.Proofs.Ytphnmaobpefoiaa.XW
end
section
namespace Go.Proofs.Ytphnmaobpefoiaa.XW
open Go.RowKit Go.Proofs.YtphnmaobpefoiaaXW Go.Proofs.YtphnmaobpefoiaaW.PrintWords Go.Proofs.YtphnmaobpefoiaaW.PrintLast Go.Proofs.YtphnmaobpefoiaaW.PrintMore
attribute [local go_sem] max2_int min2_int max_two min_two max_three min_three max_four min_four sleq
set_option linter.unusedVariables false
set_option linter.unusedSimpArgs false
def Qau.f (a0 : Int) (a1 : Int) (a2 : Int) : Option (Bool) := if a1 ≤ a0 then (some (decide (a0 ≤ a2))) else (some false)
set_option maxHeartbeats 8000000 in
set_option maxRecDepth 100000 in
theorem Qau.calls (a0 : Int) (a1 : Int) (a2 : Int) (r : Bool) (w : World) (h : Qau.f a0 a1 a2 = some r) :
  Calls Try.prog 25 #[.int .i64 a0, .int .i64 a1, .int .i64 a2] w fun e w' => e = .returned (.bool r) ∧ Drawn0 w w' := by
 have H : (if a1 ≤ a0 then (some (decide (a0 ≤ a2))) else (some false)) = some r := h
 clear h
 by_cases c4 : a1 ≤ a0
 ·
  rw [if_pos c4] at H
  have q0 : decide (a1 ≤ a0) = true := decide_eq_true c4
  clear c4
  obtain rfl := Option.some.inj H
  go_enter Try.func25, Try.ntmps25
  go_wp2
  go_ret
  exact ⟨by first | rfl | (simp; done) | (simp [*]; done), by repeat (first | exact Drawn0.refl _ | apply Drawn0.step)⟩
 ·
  rw [if_neg c4] at H
  have q0 : decide (a1 ≤ a0) = false := decide_eq_false c4
  clear c4
  obtain rfl := Option.some.inj H
  go_enter Try.func25, Try.ntmps25
  go_wp2
  go_ret
  exact ⟨by first | rfl | (simp; done) | (simp [*]; done), by repeat (first | exact Drawn0.refl _ | apply Drawn0.step)⟩
end Go.Proofs.Ytphnmaobpefoiaa.XW
end
section
namespace Go.Proofs.Ytphnmaobpefoiaa.XW
open Go.RowKit Go.Proofs.YtphnmaobpefoiaaXW Go.Proofs.YtphnmaobpefoiaaW.PrintWords Go.Proofs.YtphnmaobpefoiaaW.PrintLast Go.Proofs.YtphnmaobpefoiaaW.PrintMore
attribute [local go_sem] max2_int min2_int max_two min_two max_three min_three max_four min_four sleq
set_option linter.unusedVariables false
set_option linter.unusedSimpArgs false
def Qak.l0 : Nat → List Bool → Bool → Int → Int → Option (Int)
 | 0, _, _, _, _ => none
 | k + 1, x0, x1, x7, x8 => if x8 < x7 then (if 0 ≤ x8 then (if x8 < (x0.length : Int) then (if (x1 == (rdOf false x0 x8)) = true then (some x8) else (Qak.l0 k x0 x1 x7 (wrap64 (x8 + 1)))) else (none)) else (none)) else (some (-1))
def Qak.f (k : Nat) (l0 : List Bool) (a1 : Bool) : Option (Int) := Qak.l0 k l0 a1 (l0.length : Int) 0
theorem Qak.mono_l : ∀ k, (∀ y0 y1 y2 y3, LeO (Qak.l0 k y0 y1 y2 y3) (Qak.l0 (k + 1) y0 y1 y2 y3))
 | 0 => fun _ _ _ _ r h => by simp [Qak.l0] at h
 | k + 1 => by
  have ih0 := Qak.mono_l k
  ·
   intro y0 y1 y2 y3
   unfold Qak.l0
   repeat' first
   | (with_reducible exact ih0 _ _ _ _)
   | (with_reducible exact LeO.refl _)
   | (with_reducible exact LeO.none _)
   | (with_reducible refine LeO.ite ?_ ?_)
   | (with_reducible refine LeO.bind ?_ (fun _ => ?_))
   | exact ih0 _ _ _ _
   | exact LeO.none _
   | refine LeO.ite ?_ ?_
   | refine LeO.bind ?_ (fun _ => ?_)
theorem Qak.mono : ∀ a0 a1 k, LeO (Qak.f k a0 a1) (Qak.f (k + 1) a0 a1) := by
 intro a0 a1 k
 have ih0 := Qak.mono_l k
 unfold Qak.f
 repeat' first
   | (with_reducible exact ih0 _ _ _ _)
   | (with_reducible exact LeO.refl _)
   | (with_reducible exact LeO.none _)
   | (with_reducible refine LeO.ite ?_ ?_)
   | (with_reducible refine LeO.bind ?_ (fun _ => ?_))
   | exact ih0 _ _ _ _
   | exact LeO.none _
   | refine LeO.ite ?_ ?_
   | refine LeO.bind ?_ (fun _ => ?_)
set_option maxHeartbeats 8000000 in
set_option maxRecDepth 100000 in
theorem Qak.calls (k : Nat) (A0 : Option Addr) (c0 : Nat) (l0 : List Bool) (a1 : Bool) (r : Int) (w : World) (hr0 : Kd.C Kd.bool w A0 l0.length l0) (hc0 : l0.length ≤ c0) (h : Qak.f k l0 a1 = some r) :
  Calls Try.prog 67 #[.slice A0 l0.length c0, .bool a1] w fun e w' => e = .returned (.int .i64 r) ∧ Drawn0 w w' := by
 have q1 := Qaa.mk hr0
 have q9 := Qaa.mk hc0
 clear hr0 hc0
 have H : (Qak.l0 k l0 a1 (l0.length : Int) 0) = some r := h
 clear h
 have H' := Qaa.mk H
 clear H
 go_enter Try.func67, Try.ntmps67
 go_wp2
 go_loopg [8] k (fun kq v8 w' => ∃ (x8_1 : Int), v8 = .int .i64 x8_1 ∧ Qaa (Qak.l0 kq l0 a1 (l0.length : Int) x8_1 = some r) ∧ Qaa (kq ≤ k) ∧ Drawn0 w w')
 case atStart => exact ⟨(0), (by first | rfl | (simp; done) | (simp [*]; done)), H', ⟨Nat.le_refl _⟩, by repeat (first | exact Drawn0.refl _ | apply Drawn0.step)⟩
 case round =>
  clear H'
  try clear p2
  obtain ⟨x8_1, rfl, HA, HK1, ⟨m1, rfl⟩⟩ := hrel
  cases gk with
  | zero => exact absurd HA.out (by simp [Qak.l0])
  | succ k1 =>
   have H := HA.out
   clear HA
   simp only [Qak.l0] at H
   by_cases c3 : x8_1 < (l0.length : Int)
   ·
    rw [if_pos c3] at H
    have q2 : decide (x8_1 < (l0.length : Int)) = true := decide_eq_true c3
    clear c3
    by_cases c4 : 0 ≤ x8_1
    ·
     rw [if_pos c4] at H
     have q6 : decide (0 ≤ x8_1) = true := decide_eq_true c4
     clear c4
     by_cases c5 : x8_1 < (l0.length : Int)
     ·
      rw [if_pos c5] at H
      have q7 : decide (x8_1 < (l0.length : Int)) = true := decide_eq_true c5
      clear c5
      by_cases c6 : (a1 == (rdOf false l0 x8_1)) = true
      ·
       rw [if_pos c6] at H
       have q3 : (a1 == (rdOf false l0 x8_1)) = true := c6
       (try (have q4 : decide (a1 = (rdOf false l0 x8_1)) = true := by simpa using c6))
       (try (have q5 : (a1 == (rdOf false l0 x8_1)) = true := by simpa using c6))
       clear c6
       obtain rfl := Option.some.inj H
       have p101 : 0 ≤ (x8_1 : Int) := of_decide_eq_true (by first | (with_reducible assumption) | assumption)
       have q101 : x8_1 < (l0.length : Int) := of_decide_eq_true (by first | (with_reducible assumption) | assumption)
       obtain ⟨ad101, e101, q0⟩ := Kd.at_bool q1.out x8_1 p101 q101
       cases e101
       replace p101 := eq_true p101
       replace q101 := eq_true q101
       go_wp2
       go_ret
       exact ⟨by first | rfl | (simp; done) | (simp [*]; done), by repeat (first | exact Drawn0.refl _ | apply Drawn0.step)⟩
      ·
       rw [if_neg c6] at H
       have q3 : (a1 == (rdOf false l0 x8_1)) = false := by simpa using c6
       (try (have q4 : decide (a1 = (rdOf false l0 x8_1)) = false := by simpa using c6))
       (try (have q5 : (a1 == (rdOf false l0 x8_1)) = false := by simpa using c6))
       (try (have q8 : ¬ (a1 = (rdOf false l0 x8_1)) := by simpa using c6))
       clear c6
       have H' := Qaa.mk H
       clear H
       have p101 : 0 ≤ (x8_1 : Int) := of_decide_eq_true (by first | (with_reducible assumption) | assumption)
       have q101 : x8_1 < (l0.length : Int) := of_decide_eq_true (by first | (with_reducible assumption) | assumption)
       obtain ⟨ad101, e101, q0⟩ := Kd.at_bool q1.out x8_1 p101 q101
       cases e101
       replace p101 := eq_true p101
       replace q101 := eq_true q101
       go_wp2
       go_roundg k1
       case measure => have := HK1.out; omega
       case rel => exact ⟨(wrap64 (x8_1 + 1)), (by first | rfl | (simp; done) | (simp [*]; done)), H', ⟨by have := HK1.out; omega⟩, by repeat (first | exact Drawn0.refl _ | apply Drawn0.step)⟩
     ·
      rw [if_neg c5] at H
      exact absurd H (by simp)
    ·
     rw [if_neg c4] at H
     exact absurd H (by simp)
   ·
    rw [if_neg c3] at H
    have q2 : decide (x8_1 < (l0.length : Int)) = false := decide_eq_false c3
    clear c3
    obtain rfl := Option.some.inj H
    go_wp2
    go_ret
    exact ⟨by first | rfl | (simp; done) | (simp [*]; done), by repeat (first | exact Drawn0.refl _ | apply Drawn0.step)⟩
end Go.Proofs.Ytphnmaobpefoiaa.XW
end
section
namespace Go.Proofs.Ytphnmaobpefoiaa.XW
open Go.RowKit Go.Proofs.YtphnmaobpefoiaaXW Go.Proofs.YtphnmaobpefoiaaW.PrintWords Go.Proofs.YtphnmaobpefoiaaW.PrintLast Go.Proofs.YtphnmaobpefoiaaW.PrintMore
attribute [local go_sem] max2_int min2_int max_two min_two max_three min_three max_four min_four sleq
set_option linter.unusedVariables false
set_option linter.unusedSimpArgs false
def Qam.f (k : Nat) (l0 : List Bool) (a1 : Bool) : Option (Bool) := (Qak.f k l0 a1).bind fun q0 => (some (decide (q0 ≥ 0)))
theorem Qam.mono : ∀ a0 a1 k, LeO (Qam.f k a0 a1) (Qam.f (k + 1) a0 a1) := by
 intro a0 a1 k
 unfold Qam.f
 repeat' first
   | (with_reducible exact Qak.mono _ _ _)
   | (with_reducible exact LeO.refl _)
   | (with_reducible exact LeO.none _)
   | (with_reducible refine LeO.ite ?_ ?_)
   | (with_reducible refine LeO.bind ?_ (fun _ => ?_))
   | exact Qak.mono _ _ _
   | exact LeO.none _
   | refine LeO.ite ?_ ?_
   | refine LeO.bind ?_ (fun _ => ?_)
set_option maxHeartbeats 8000000 in
set_option maxRecDepth 100000 in
theorem Qam.calls (k : Nat) (A0 : Option Addr) (c0 : Nat) (l0 : List Bool) (a1 : Bool) (r : Bool) (w : World) (hr0 : Kd.C Kd.bool w A0 l0.length l0) (hc0 : l0.length ≤ c0) (h : Qam.f k l0 a1 = some r) :
  Calls Try.prog 57 #[.slice A0 l0.length c0, .bool a1] w fun e w' => e = .returned (.bool r) ∧ Drawn0 w w' := by
 have q1 := Qaa.mk hr0
 have q2 := Qaa.mk hc0
 clear hr0 hc0
 have H : ((Qak.f k l0 a1).bind fun q0 => (some (decide (q0 ≥ 0)))) = some r := h
 clear h
 replace H := Option.bind_eq_some_iff.mp H
 obtain ⟨q0, A30, H⟩ := H
 replace H : (some (decide (q0 ≥ 0))) = some r := H
 have A3 := Qaa.mk A30
 clear A30
 obtain rfl := Option.some.inj H
 go_enter Try.func57, Try.ntmps57
 go_wp2_with (first | ((with_reducible refine gate_callee (f := 67) rfl ?_); refine gL (some 7) Try.func67 #[.slice A0 l0.length c0, .bool a1] ?_; (with_reducible refine (Qak.calls k _ _ l0 a1 q0 _ ?side1 ?side2 A3.out).mono ?_); (case side1 => repeat (first | exact q1.out | (with_reducible refine Kd.C_alloc ?_ _) | (with_reducible refine Kd.C_drewN ?_ _) | (with_reducible refine Kd.C_drew ?_))); (case side2 => exact q2.out); rintro e w' ⟨rfl, ⟨nd, rfl⟩⟩; refine ⟨_, rfl, ?_⟩))
 go_ret
 exact ⟨by first | rfl | (simp; done) | (simp [*]; done), by repeat (first | exact Drawn0.refl _ | apply Drawn0.step)⟩
end Go.Proofs.Ytphnmaobpefoiaa.XW
end
section
namespace Go.Proofs.Ytphnmaobpefoiaa.XW
open Go.RowKit Go.Proofs.YtphnmaobpefoiaaXW Go.Proofs.YtphnmaobpefoiaaW.PrintWords Go.Proofs.YtphnmaobpefoiaaW.PrintLast Go.Proofs.YtphnmaobpefoiaaW.PrintMore
attribute [local go_sem] max2_int min2_int max_two min_two max_three min_three max_four min_four sleq
set_option linter.unusedVariables false
set_option linter.unusedSimpArgs false
mutual
def Qab.j0 : Nat → Int → Bool → Int → List Bool → List Int → List ByteArray → List ByteArray → List Int → Option (Int)
 | 0, _, _, _, _, _, _, _, _ => none
 | k + 1, x1, x22, j6, j7, j5, q8, q7, q9 => if x22 = true then (some 3) else (if j6 = 3 then (if (q7.length : Int) > 0 then (Qab.j2 k x1 true j6 j7 j5 q8 q7 q9) else (Qab.j2 k x1 (decide ((q9.length : Int) > 0)) j6 j7 j5 q8 q7 q9)) else (if (q8.length : Int) > 0 then (Qab.j1 k true) else (if (q7.length : Int) > 0 then (Qab.j1 k true) else (if (q9.length : Int) > 0 then (Qab.j1 k true) else (Qab.j1 k ((j5.length : Int) != x1))))))
def Qab.j2 : Nat → Int → Bool → Int → List Bool → List Int → List ByteArray → List ByteArray → List Int → Option (Int)
 | 0, _, _, _, _, _, _, _, _ => none
 | k + 1, x1, x5, j6, j7, j5, q8, q7, q9 => if (j5.length : Int) > 0 then (Qab.j3 k x1 x5 true j6 j7 j5 q8 q7 q9) else (if x5 = true then (if (q8.length : Int) > 0 then (Qab.j3 k x1 x5 true j6 j7 j5 q8 q7 q9) else (Qab.j3 k x1 x5 (decide ((q7.length : Int) > 1000)) j6 j7 j5 q8 q7 q9)) else (Qab.j3 k x1 x5 (decide ((q7.length : Int) > 1000)) j6 j7 j5 q8 q7 q9))
def Qab.j3 : Nat → Int → Bool → Bool → Int → List Bool → List Int → List ByteArray → List ByteArray → List Int → Option (Int)
 | 0, _, _, _, _, _, _, _, _, _ => none
 | k + 1, x1, x5, x77, j6, j7, j5, q8, q7, q9 => if x77 = true then (some 3) else (if x5 = true then (if (q9.length : Int) = x1 then (Qab.j4 k false) else (Qab.j4 k true)) else (Qab.j4 k ((q8.length : Int) != x1)))
def Qab.j4 : Nat → Bool → Option (Int)
 | 0, _ => none
 | k + 1, x96 => if x96 = true then (some 3) else (some 0)
def Qab.j1 : Nat → Bool → Option (Int)
 | 0, _ => none
 | k + 1, x48 => if x48 = true then (some 3) else (some 0)
end
def Qab.f (k : Nat) (q6 : Int) (q1 : List Bool) (q5 : List Int) (q3 : List ByteArray) (q2 : List ByteArray) (q4 : List Int) (a1 : Int) : Option (Int) := if (q1.length : Int) > 0 then (if (q1.length : Int) = a1 then ((Qam.f k q1 true).bind fun J3 => (Qab.j0 k a1 (!J3) q6 q1 q5 q3 q2 q4)) else (Qab.j0 k a1 true q6 q1 q5 q3 q2 q4)) else (Qab.j0 k a1 false q6 q1 q5 q3 q2 q4)
theorem Qab.mono_l : ∀ k, (∀ y0 y1 y2 y3 y4 y5 y6 y7, LeO (Qab.j0 k y0 y1 y2 y3 y4 y5 y6 y7) (Qab.j0 (k + 1) y0 y1 y2 y3 y4 y5 y6 y7)) ∧ (∀ y0 y1 y2 y3 y4 y5 y6 y7, LeO (Qab.j2 k y0 y1 y2 y3 y4 y5 y6 y7) (Qab.j2 (k + 1) y0 y1 y2 y3 y4 y5 y6 y7)) ∧ (∀ y0 y1 y2 y3 y4 y5 y6 y7 y8, LeO (Qab.j3 k y0 y1 y2 y3 y4 y5 y6 y7 y8) (Qab.j3 (k + 1) y0 y1 y2 y3 y4 y5 y6 y7 y8)) ∧ (∀ y0, LeO (Qab.j4 k y0) (Qab.j4 (k + 1) y0)) ∧ (∀ y0, LeO (Qab.j1 k y0) (Qab.j1 (k + 1) y0))
 | 0 => ⟨fun _ _ _ _ _ _ _ _ r h => by simp [Qab.j0] at h, fun _ _ _ _ _ _ _ _ r h => by simp [Qab.j2] at h, fun _ _ _ _ _ _ _ _ _ r h => by simp [Qab.j3] at h, fun _ r h => by simp [Qab.j4] at h, fun _ r h => by simp [Qab.j1] at h⟩
 | k + 1 => by
  obtain ⟨ih0, ih1, ih2, ih3, ih4⟩ := Qab.mono_l k
  refine ⟨?_, ?_, ?_, ?_, ?_⟩
  ·
   intro y0 y1 y2 y3 y4 y5 y6 y7
   unfold Qab.j0
   repeat' first
   | (with_reducible exact ih0 _ _ _ _ _ _ _ _)
   | (with_reducible exact ih1 _ _ _ _ _ _ _ _)
   | (with_reducible exact ih2 _ _ _ _ _ _ _ _ _)
   | (with_reducible exact ih3 _)
   | (with_reducible exact ih4 _)
   | (with_reducible exact Qam.mono _ _ _)
   | (with_reducible exact LeO.refl _)
   | (with_reducible exact LeO.none _)
   | (with_reducible refine LeO.ite ?_ ?_)
   | (with_reducible refine LeO.bind ?_ (fun _ => ?_))
   | exact ih0 _ _ _ _ _ _ _ _
   | exact ih1 _ _ _ _ _ _ _ _
   | exact ih2 _ _ _ _ _ _ _ _ _
   | exact ih3 _
   | exact ih4 _
   | exact Qam.mono _ _ _
   | exact LeO.none _
   | refine LeO.ite ?_ ?_
   | refine LeO.bind ?_ (fun _ => ?_)
  ·
   intro y0 y1 y2 y3 y4 y5 y6 y7
   unfold Qab.j2
   repeat' first
   | (with_reducible exact ih0 _ _ _ _ _ _ _ _)
   | (with_reducible exact ih1 _ _ _ _ _ _ _ _)
   | (with_reducible exact ih2 _ _ _ _ _ _ _ _ _)
   | (with_reducible exact ih3 _)
   | (with_reducible exact ih4 _)
   | (with_reducible exact Qam.mono _ _ _)
   | (with_reducible exact LeO.refl _)
   | (with_reducible exact LeO.none _)
   | (with_reducible refine LeO.ite ?_ ?_)
   | (with_reducible refine LeO.bind ?_ (fun _ => ?_))
   | exact ih0 _ _ _ _ _ _ _ _
   | exact ih1 _ _ _ _ _ _ _ _
   | exact ih2 _ _ _ _ _ _ _ _ _
   | exact ih3 _
   | exact ih4 _
   | exact Qam.mono _ _ _
   | exact LeO.none _
   | refine LeO.ite ?_ ?_
   | refine LeO.bind ?_ (fun _ => ?_)
  ·
   intro y0 y1 y2 y3 y4 y5 y6 y7 y8
   unfold Qab.j3
   repeat' first
   | (with_reducible exact ih0 _ _ _ _ _ _ _ _)
   | (with_reducible exact ih1 _ _ _ _ _ _ _ _)
   | (with_reducible exact ih2 _ _ _ _ _ _ _ _ _)
   | (with_reducible exact ih3 _)
   | (with_reducible exact ih4 _)
   | (with_reducible exact Qam.mono _ _ _)
   | (with_reducible exact LeO.refl _)
   | (with_reducible exact LeO.none _)
   | (with_reducible refine LeO.ite ?_ ?_)
   | (with_reducible refine LeO.bind ?_ (fun _ => ?_))
   | exact ih0 _ _ _ _ _ _ _ _
   | exact ih1 _ _ _ _ _ _ _ _
   | exact ih2 _ _ _ _ _ _ _ _ _
   | exact ih3 _
   | exact ih4 _
   | exact Qam.mono _ _ _
   | exact LeO.none _
   | refine LeO.ite ?_ ?_
   | refine LeO.bind ?_ (fun _ => ?_)
  ·
   intro y0
   unfold Qab.j4
   repeat' first
   | (with_reducible exact ih0 _ _ _ _ _ _ _ _)
   | (with_reducible exact ih1 _ _ _ _ _ _ _ _)
   | (with_reducible exact ih2 _ _ _ _ _ _ _ _ _)
   | (with_reducible exact ih3 _)
   | (with_reducible exact ih4 _)
   | (with_reducible exact Qam.mono _ _ _)
   | (with_reducible exact LeO.refl _)
   | (with_reducible exact LeO.none _)
   | (with_reducible refine LeO.ite ?_ ?_)
   | (with_reducible refine LeO.bind ?_ (fun _ => ?_))
   | exact ih0 _ _ _ _ _ _ _ _
   | exact ih1 _ _ _ _ _ _ _ _
   | exact ih2 _ _ _ _ _ _ _ _ _
   | exact ih3 _
   | exact ih4 _
   | exact Qam.mono _ _ _
   | exact LeO.none _
   | refine LeO.ite ?_ ?_
   | refine LeO.bind ?_ (fun _ => ?_)
  ·
   intro y0
   unfold Qab.j1
   repeat' first
   | (with_reducible exact ih0 _ _ _ _ _ _ _ _)
   | (with_reducible exact ih1 _ _ _ _ _ _ _ _)
   | (with_reducible exact ih2 _ _ _ _ _ _ _ _ _)
   | (with_reducible exact ih3 _)
   | (with_reducible exact ih4 _)
   | (with_reducible exact Qam.mono _ _ _)
   | (with_reducible exact LeO.refl _)
   | (with_reducible exact LeO.none _)
   | (with_reducible refine LeO.ite ?_ ?_)
   | (with_reducible refine LeO.bind ?_ (fun _ => ?_))
   | exact ih0 _ _ _ _ _ _ _ _
   | exact ih1 _ _ _ _ _ _ _ _
   | exact ih2 _ _ _ _ _ _ _ _ _
   | exact ih3 _
   | exact ih4 _
   | exact Qam.mono _ _ _
   | exact LeO.none _
   | refine LeO.ite ?_ ?_
   | refine LeO.bind ?_ (fun _ => ?_)
theorem Qab.mono : ∀ a0 a1 a2 a3 a4 a5 a6 k, LeO (Qab.f k a0 a1 a2 a3 a4 a5 a6) (Qab.f (k + 1) a0 a1 a2 a3 a4 a5 a6) := by
 intro a0 a1 a2 a3 a4 a5 a6 k
 obtain ⟨ih0, ih1, ih2, ih3, ih4⟩ := Qab.mono_l k
 unfold Qab.f
 repeat' first
   | (with_reducible exact ih0 _ _ _ _ _ _ _ _)
   | (with_reducible exact ih1 _ _ _ _ _ _ _ _)
   | (with_reducible exact ih2 _ _ _ _ _ _ _ _ _)
   | (with_reducible exact ih3 _)
   | (with_reducible exact ih4 _)
   | (with_reducible exact Qam.mono _ _ _)
   | (with_reducible exact LeO.refl _)
   | (with_reducible exact LeO.none _)
   | (with_reducible refine LeO.ite ?_ ?_)
   | (with_reducible refine LeO.bind ?_ (fun _ => ?_))
   | exact ih0 _ _ _ _ _ _ _ _
   | exact ih1 _ _ _ _ _ _ _ _
   | exact ih2 _ _ _ _ _ _ _ _ _
   | exact ih3 _
   | exact ih4 _
   | exact Qam.mono _ _ _
   | exact LeO.none _
   | refine LeO.ite ?_ ?_
   | refine LeO.bind ?_ (fun _ => ?_)
set_option maxHeartbeats 8000000 in
set_option maxRecDepth 100000 in
theorem Qab.calls (k : Nat) (q6 : Int) (Q4 : Option Addr) (Q5 : Nat) (q1 : List Bool) (Q6 : Option Addr) (Q7 : Nat) (q5 : List Int) (Q8 : Option Addr) (Q9 : Nat) (q3 : List ByteArray) (Qa : Option Addr) (Qb : Nat) (q2 : List ByteArray) (Qc : Option Addr) (Qd : Nat) (q4 : List Int) (a1 : Int) (r : Int) (w : World) (Xu : Kd.C Kd.bool w Q4 q1.length q1) (Xv : q1.length ≤ Q5) (Xw : Kd.C (Kd.int .i64) w Q6 q5.length q5) (Xx : q5.length ≤ Q7) (Xy : Kd.C Kd.string w Q8 q3.length q3) (Xz : q3.length ≤ Q9) (W0 : Kd.C Kd.string w Qa q2.length q2) (W1 : q2.length ≤ Qb) (W2 : Kd.C (Kd.int .i64) w Qc q4.length q4) (W3 : q4.length ≤ Qd) (h : Qab.f k q6 q1 q5 q3 q2 q4 a1 = some r) :
  Calls Try.prog 45 #[.agg #[.int .i64 q6, .slice Q4 q1.length Q5, .slice Q6 q5.length Q7, .slice Q8 q3.length Q9, .slice Qa q2.length Qb, .slice Qc q4.length Qd], .int .i64 a1] w fun e w' => e = .returned (.int .i64 r) ∧ Below w.heap.size w w' := by
 have hu39 := Try.underlying39
 have Vy := Qaa.mk Xu
 have Vz := Qaa.mk Xv
 clear Xu Xv
 have G0 := Qaa.mk Xw
 have G1 := Qaa.mk Xx
 clear Xw Xx
 have G2 := Qaa.mk Xy
 have G3 := Qaa.mk Xz
 clear Xy Xz
 have G4 := Qaa.mk W0
 have G5 := Qaa.mk W1
 clear W0 W1
 have G6 := Qaa.mk W2
 have G7 := Qaa.mk W3
 clear W2 W3
 have HB := Qaa.mk (Below.refl w.heap.size w)
 have H : (if (q1.length : Int) > 0 then (if (q1.length : Int) = a1 then ((Qam.f k q1 true).bind fun J3 => (Qab.j0 k a1 (!J3) q6 q1 q5 q3 q2 q4)) else (Qab.j0 k a1 true q6 q1 q5 q3 q2 q4)) else (Qab.j0 k a1 false q6 q1 q5 q3 q2 q4)) = some r := h
 clear h
 have Vx := Qaa.mk H
 clear H
 go_enter Try.func45, Try.ntmps45
 go_upto_region 1 with (first | ((with_reducible refine gate_dst (N := 2) rfl ?_); (try (refine gate_guard (by rfl) ?_; dsimp only)); refine bx 2 #[.int .i64 q6, .slice Q4 q1.length Q5, .slice Q6 q5.length Q7, .slice Q8 q3.length Q9, .slice Qa q2.length Qb, .slice Qc q4.length Qd] 39 ?_; intro Q2 hg w4 hbox hb; have q0 := Qaa.mk (hbox); have G8 := Qaa.mk ((by rw [hg]; exact (below_size (bl HB)) : w.heap.size ≤ Q2)); have G9 := Qaa.mk ((by rw [hg]; exact (below_size (bl HB)) : w.heap.size ≤ Q2)); replace HB := bs HB hb; clear hb hbox hg))
 (try simp only [Act.put, List.setIfInBounds_toArray, List.set_cons_zero, List.set_cons_succ])
 go_cut [22] (fun v22 wc => ∃ (kq : Nat) (x22_2 : Bool), v22 = .bool x22_2 ∧ Qaa (Qab.j0 kq a1 x22_2 q6 q1 q5 q3 q2 q4 = some r) ∧ Qaa (kq ≤ k) ∧ Qaa (wc.heap[Q2]? = some (.cells #[.int .i64 q6, (.slice Q4 q1.length Q5), (.slice Q6 q5.length Q7), (.slice Q8 q3.length Q9), (.slice Qa q2.length Qb), (.slice Qc q4.length Qd)] 39 (0, 0))) ∧ Qaa (Below w.heap.size w wc))
 case first =>
  have H := Vx.out
  clear Vx
  by_cases c5 : (q1.length : Int) > 0
  ·
   rw [if_pos c5] at H
   have z0 : decide (0 < (q1.length : Int)) = true := decide_eq_true c5
   have J7 : decide (0 < q1.length) = true := decide_eq_true (by omega)
   clear c5
   (first | rw [z0] | (simp only [i64_w, i32_w]; rw [z0]) | skip)
   by_cases c6 : (q1.length : Int) = a1
   ·
    rw [if_pos c6] at H
    have J8 : ((q1.length : Int) == a1) = true := beq_iff_eq.mpr c6
    have J9 : ((q1.length : Int) != a1) = false := bne_eq_false_iff_eq.mpr c6
    clear c6
    replace H := Option.bind_eq_some_iff.mp H
    obtain ⟨J3, A70, H⟩ := H
    replace H : (Qab.j0 k a1 (!J3) q6 q1 q5 q3 q2 q4) = some r := H
    have A7 := Qaa.mk A70
    clear A70
    have H' := Qaa.mk H
    clear H
    obtain ⟨Qe, Qf, Qg, Qh, Qi, Qj, Qk, Ql, Qm, Qn, Qo, Qp⟩ := cf6 q0
    go_wp2_with (first | (go_at_call 57; (with_reducible refine (Qam.calls k _ _ q1 true J3 _ ?side1 ?side2 A7.out).mono ?_); (case side1 => exact Cb Vy HB); (case side2 => exact Vz.out); rintro e w' ⟨rfl, ⟨nd, rfl⟩⟩))
    go_meet
    case rel => exact ⟨_, (!J3), (by first | rfl | (simp; done) | (simp [*]; done)), H', ⟨by first | omega | exact Nat.le_refl _⟩, ⟨by apply blk_u; exact q0.out⟩, ⟨bl HB⟩⟩
   ·
    rw [if_neg c6] at H
    have J8 : ((q1.length : Int) == a1) = false := beq_eq_false_iff_ne.mpr c6
    have J9 : ((q1.length : Int) != a1) = true := bne_iff_ne.mpr c6
    have H' := Qaa.mk H
    clear H
    obtain ⟨Qq, Qr, Qs, Qt, Qu, Qv, Qw, Qx, Qy, Qz, Z0, Z1⟩ := cf6 q0
    go_wp2
    go_meet
    case rel => exact ⟨_, (true), (by first | rfl | (simp; done) | (simp [*]; done)), H', ⟨by first | omega | exact Nat.le_refl _⟩, ⟨by apply blk_u; exact q0.out⟩, ⟨bl HB⟩⟩
  ·
   rw [if_neg c5] at H
   have z0 : decide (0 < (q1.length : Int)) = false := decide_eq_false c5
   have J7 : decide (0 < q1.length) = false := decide_eq_false (by omega)
   clear c5
   (first | rw [z0] | (simp only [i64_w, i32_w]; rw [z0]) | skip)
   have H' := Qaa.mk H
   clear H
   obtain ⟨z1, z2, z3, z4, z5, z6, z7, z8, z9, y9, Q0, Q1⟩ := cf6 q0
   go_wp2
   go_meet
   case rel => exact ⟨_, (false), (by first | rfl | (simp; done) | (simp [*]; done)), H', ⟨by first | omega | exact Nat.le_refl _⟩, ⟨by apply blk_u; exact q0.out⟩, ⟨bl HB⟩⟩
 case rest =>
  clear Vx
  try clear p2
  try clear c4
  try clear c5
  try clear z0
  try clear J7
  try clear c6
  try clear J8
  try clear J9
  try clear z1
  try clear z2
  try clear z3
  try clear z4
  try clear z5
  try clear z6
  try clear Qe
  try clear Qf
  try clear Qg
  try clear Qh
  try clear Qi
  try clear Qj
  try clear Qq
  try clear Qr
  try clear Qs
  try clear Qt
  try clear Qu
  try clear Qv
  try clear z7
  try clear z8
  try clear z9
  try clear y9
  try clear Q0
  try clear Q1
  try clear Qk
  try clear Ql
  try clear Qm
  try clear Qn
  try clear Qo
  try clear Qp
  try clear Qw
  try clear Qx
  try clear Qy
  try clear Qz
  try clear Z0
  try clear Z1
  obtain ⟨kq, x22_2, rfl, HA, HJ2, q0, HB⟩ := hcut
  cases kq with
  | zero => exact absurd HA.out (by simp [Qab.j0])
  | succ kj2 =>
   have H := HA.out
   clear HA
   simp only [Qab.j0] at H
   by_cases c11 : x22_2 = true
   ·
    subst c11
    have H1 : (some 3) = some r := by rw [if_pos rfl] at H; exact H
    clear H
    have H := H1
    clear H1
    obtain rfl := Option.some.inj H
    go_wp2
    go_ret
    exact ⟨by first | rfl | (simp [errW_none, errW_some] <;> rfl) | (simp [*, errW_none, errW_some] <;> rfl), bl HB⟩
   ·
    replace c11 := Bool.eq_false_iff.mpr c11
    subst c11
    have H1 : (if q6 = 3 then (if (q2.length : Int) > 0 then (Qab.j2 kj2 a1 true q6 q1 q5 q3 q2 q4) else (Qab.j2 kj2 a1 (decide ((q4.length : Int) > 0)) q6 q1 q5 q3 q2 q4)) else (if (q3.length : Int) > 0 then (Qab.j1 kj2 true) else (if (q2.length : Int) > 0 then (Qab.j1 kj2 true) else (if (q4.length : Int) > 0 then (Qab.j1 kj2 true) else (Qab.j1 kj2 ((q5.length : Int) != a1)))))) = some r := by rw [if_neg (show ¬ (false = true) by decide)] at H; exact H
    clear H
    have H := H1
    clear H1
    by_cases c12 : q6 = 3
    ·
     rw [if_pos c12] at H
     have J4 : (q6 == 3) = true := beq_iff_eq.mpr c12
     have J5 : (q6 != 3) = false := bne_eq_false_iff_eq.mpr c12
     clear c12
     have Xq := Qaa.mk H
     clear H
     obtain ⟨Z2, Z3, Z4, Z5, Z6, Z7, Z8, Z9, Za, Zb, Zc, Zd⟩ := cf6 q0
     go_upto_region 7 with (fail)
     go_cut [5] (fun v5 wc => ∃ (kq : Nat) (x5_12 : Bool), v5 = .bool x5_12 ∧ Qaa (Qab.j2 kq a1 x5_12 q6 q1 q5 q3 q2 q4 = some r) ∧ Qaa (kq ≤ kj2) ∧ Qaa (wc.heap[Q2]? = some (.cells #[.int .i64 q6, (.slice Q4 q1.length Q5), (.slice Q6 q5.length Q7), (.slice Q8 q3.length Q9), (.slice Qa q2.length Qb), (.slice Qc q4.length Qd)] 39 (0, 0))) ∧ Qaa (Below w.heap.size w wc))
     case first =>
      have H := Xq.out
      clear Xq
      by_cases c15 : (q2.length : Int) > 0
      ·
       rw [if_pos c15] at H
       have j8 : decide (0 < (q2.length : Int)) = true := decide_eq_true c15
       have J6 : decide (0 < q2.length) = true := decide_eq_true (by omega)
       clear c15
       (first | rw [j8] | (simp only [i64_w, i32_w]; rw [j8]) | skip)
       have H' := Qaa.mk H
       clear H
       obtain ⟨Ze, Zf, Zg, Zh, Zi, Zj, Zk, Zl, Zm, Zn, Zo, Zp⟩ := cf6 q0
       go_wp2
       go_meet
       case rel => exact ⟨_, (true), (by first | rfl | (simp; done) | (simp [*]; done)), H', ⟨by have := HJ2.out; first | omega | exact Nat.le_refl _⟩, ⟨by apply blk_u; exact q0.out⟩, ⟨bl HB⟩⟩
      ·
       rw [if_neg c15] at H
       have j8 : decide (0 < (q2.length : Int)) = false := decide_eq_false c15
       have J6 : decide (0 < q2.length) = false := decide_eq_false (by omega)
       clear c15
       (first | rw [j8] | (simp only [i64_w, i32_w]; rw [j8]) | skip)
       have H' := Qaa.mk H
       clear H
       obtain ⟨Zq, Zr, Zs, Zt, Zu, Zv, Zw, Zx, Zy, Zz, J0, J1⟩ := cf6 q0
       go_wp2
       go_meet
       case rel => exact ⟨_, (decide ((q4.length : Int) > 0)), (by first | rfl | (simp; done) | (simp [*]; done)), H', ⟨by have := HJ2.out; first | omega | exact Nat.le_refl _⟩, ⟨by apply blk_u; exact q0.out⟩, ⟨bl HB⟩⟩
     case rest =>
      clear Xq
      try clear c1
      try clear p2
      try clear c4
      try clear c5
      try clear z0
      try clear J7
      try clear c6
      try clear J8
      try clear J9
      try clear c11
      try clear c12
      try clear J4
      try clear J5
      try clear c15
      try clear j8
      try clear J6
      try clear z1
      try clear z2
      try clear z3
      try clear z4
      try clear z5
      try clear z6
      try clear Z2
      try clear Z3
      try clear Z4
      try clear Z5
      try clear Z6
      try clear Z7
      try clear Ze
      try clear Zf
      try clear Zg
      try clear Zh
      try clear Zi
      try clear Zj
      try clear Zq
      try clear Zr
      try clear Zs
      try clear Zt
      try clear Zu
      try clear Zv
      try clear Qe
      try clear Qf
      try clear Qg
      try clear Qh
      try clear Qi
      try clear Qj
      try clear Qq
      try clear Qr
      try clear Qs
      try clear Qt
      try clear Qu
      try clear Qv
      try clear z7
      try clear z8
      try clear z9
      try clear y9
      try clear Q0
      try clear Q1
      try clear Z8
      try clear Z9
      try clear Za
      try clear Zb
      try clear Zc
      try clear Zd
      try clear Zk
      try clear Zl
      try clear Zm
      try clear Zn
      try clear Zo
      try clear Zp
      try clear Zw
      try clear Zx
      try clear Zy
      try clear Zz
      try clear J0
      try clear J1
      try clear Qk
      try clear Ql
      try clear Qm
      try clear Qn
      try clear Qo
      try clear Qp
      try clear Qw
      try clear Qx
      try clear Qy
      try clear Qz
      try clear Z0
      try clear Z1
      try clear p2
      obtain ⟨kq, x5_12, rfl, HA, HJ12, q0, HB⟩ := hcut
      cases kq with
      | zero => exact absurd HA.out (by simp [Qab.j2])
      | succ kj12 =>
       have H := HA.out
       clear HA
       simp only [Qab.j2] at H
       have Xr := Qaa.mk H
       clear H
       go_upto_region 8 with (fail)
       go_cut [77] (fun v77 wc => ∃ (kq : Nat) (x77_17 : Bool), v77 = .bool x77_17 ∧ Qaa (Qab.j3 kq a1 x5_12 x77_17 q6 q1 q5 q3 q2 q4 = some r) ∧ Qaa (kq ≤ kj12) ∧ Qaa (wc.heap[Q2]? = some (.cells #[.int .i64 q6, (.slice Q4 q1.length Q5), (.slice Q6 q5.length Q7), (.slice Q8 q3.length Q9), (.slice Qa q2.length Qb), (.slice Qc q4.length Qd)] 39 (0, 0))) ∧ Qaa (Below w.heap.size w wc))
       case first =>
        have H := Xr.out
        clear Xr
        by_cases c19 : (q5.length : Int) > 0
        ·
         rw [if_pos c19] at H
         have j9 : decide (0 < (q5.length : Int)) = true := decide_eq_true c19
         have Ym : decide (0 < q5.length) = true := decide_eq_true (by omega)
         clear c19
         (first | rw [j9] | (simp only [i64_w, i32_w]; rw [j9]) | skip)
         have H' := Qaa.mk H
         clear H
         obtain ⟨Ja, Jb, Jc, Jd, Je, Jf, Jg, Jh, Ji, Jj, Jk, Jl⟩ := cf6 q0
         go_wp2
         go_meet
         case rel => exact ⟨_, (true), (by first | rfl | (simp; done) | (simp [*]; done)), H', ⟨by have := HJ2.out; have := HJ12.out; first | omega | exact Nat.le_refl _⟩, ⟨by apply blk_u; exact q0.out⟩, ⟨bl HB⟩⟩
        ·
         rw [if_neg c19] at H
         have j9 : decide (0 < (q5.length : Int)) = false := decide_eq_false c19
         have Ym : decide (0 < q5.length) = false := decide_eq_false (by omega)
         clear c19
         (first | rw [j9] | (simp only [i64_w, i32_w]; rw [j9]) | skip)
         by_cases c21 : x5_12 = true
         ·
          subst c21
          have H1 : (if (q3.length : Int) > 0 then (Qab.j3 kj12 a1 true true q6 q1 q5 q3 q2 q4) else (Qab.j3 kj12 a1 true (decide ((q2.length : Int) > 1000)) q6 q1 q5 q3 q2 q4)) = some r := by rw [if_pos rfl] at H; exact H
          clear H
          have H := H1
          clear H1
          by_cases c22 : (q3.length : Int) > 0
          ·
           rw [if_pos c22] at H
           have Yn : decide (0 < (q3.length : Int)) = true := decide_eq_true c22
           have Yo : decide (0 < q3.length) = true := decide_eq_true (by omega)
           clear c22
           have H' := Qaa.mk H
           clear H
           obtain ⟨Jm, Jn, Jo, Jp, Jq, Jr, Js, Jt, Ju, Jv, Jw, Jx⟩ := cf6 q0
           go_wp2
           go_meet
           case rel => exact ⟨_, (true), (by first | rfl | (simp; done) | (simp [*]; done)), H', ⟨by have := HJ2.out; have := HJ12.out; first | omega | exact Nat.le_refl _⟩, ⟨by apply blk_u; exact q0.out⟩, ⟨bl HB⟩⟩
          ·
           rw [if_neg c22] at H
           have Yn : decide (0 < (q3.length : Int)) = false := decide_eq_false c22
           have Yo : decide (0 < q3.length) = false := decide_eq_false (by omega)
           clear c22
           have H' := Qaa.mk H
           clear H
           obtain ⟨Jy, Jz, Y0, Y1, Y2, Y3, Y4, Y5, Y6, Y7, Y8, Y9⟩ := cf6 q0
           go_wp2
           go_meet
           case rel => exact ⟨_, (decide ((q2.length : Int) > 1000)), (by first | rfl | (simp; done) | (simp [*]; done)), H', ⟨by have := HJ2.out; have := HJ12.out; first | omega | exact Nat.le_refl _⟩, ⟨by apply blk_u; exact q0.out⟩, ⟨bl HB⟩⟩
         ·
          replace c21 := Bool.eq_false_iff.mpr c21
          subst c21
          have H1 : (Qab.j3 kj12 a1 false (decide ((q2.length : Int) > 1000)) q6 q1 q5 q3 q2 q4) = some r := by rw [if_neg (show ¬ (false = true) by decide)] at H; exact H
          clear H
          have H := H1
          clear H1
          have H' := Qaa.mk H
          clear H
          obtain ⟨Ya, Yb, Yc, Yd, Ye, Yf, Yg, Yh, Yi, Yj, Yk, Yl⟩ := cf6 q0
          go_wp2
          go_meet
          case rel => exact ⟨_, (decide ((q2.length : Int) > 1000)), (by first | rfl | (simp; done) | (simp [*]; done)), H', ⟨by have := HJ2.out; have := HJ12.out; first | omega | exact Nat.le_refl _⟩, ⟨by apply blk_u; exact q0.out⟩, ⟨bl HB⟩⟩
       case rest =>
        clear Xr
        try clear c1
        try clear c2
        try clear p2
        try clear c4
        try clear c5
        try clear z0
        try clear J7
        try clear c6
        try clear J8
        try clear J9
        try clear c11
        try clear c12
        try clear J4
        try clear J5
        try clear c15
        try clear j8
        try clear J6
        try clear c19
        try clear j9
        try clear Ym
        try clear c21
        try clear c22
        try clear Yn
        try clear Yo
        try clear z1
        try clear z2
        try clear z3
        try clear z4
        try clear z5
        try clear z6
        try clear Z2
        try clear Z3
        try clear Z4
        try clear Z5
        try clear Z6
        try clear Z7
        try clear Ze
        try clear Zf
        try clear Zg
        try clear Zh
        try clear Zi
        try clear Zj
        try clear Zq
        try clear Zr
        try clear Zs
        try clear Zt
        try clear Zu
        try clear Zv
        try clear Ja
        try clear Jb
        try clear Jc
        try clear Jd
        try clear Je
        try clear Jf
        try clear Jm
        try clear Jn
        try clear Jo
        try clear Jp
        try clear Jq
        try clear Jr
        try clear Jy
        try clear Jz
        try clear Y0
        try clear Y1
        try clear Y2
        try clear Y3
        try clear Ya
        try clear Yb
        try clear Yc
        try clear Yd
        try clear Ye
        try clear Yf
        try clear Qe
        try clear Qf
        try clear Qg
        try clear Qh
        try clear Qi
        try clear Qj
        try clear Qq
        try clear Qr
        try clear Qs
        try clear Qt
        try clear Qu
        try clear Qv
        try clear z7
        try clear z8
        try clear z9
        try clear y9
        try clear Q0
        try clear Q1
        try clear Z8
        try clear Z9
        try clear Za
        try clear Zb
        try clear Zc
        try clear Zd
        try clear Zk
        try clear Zl
        try clear Zm
        try clear Zn
        try clear Zo
        try clear Zp
        try clear Zw
        try clear Zx
        try clear Zy
        try clear Zz
        try clear J0
        try clear J1
        try clear Jg
        try clear Jh
        try clear Ji
        try clear Jj
        try clear Jk
        try clear Jl
        try clear Js
        try clear Jt
        try clear Ju
        try clear Jv
        try clear Jw
        try clear Jx
        try clear Y4
        try clear Y5
        try clear Y6
        try clear Y7
        try clear Y8
        try clear Y9
        try clear Yg
        try clear Yh
        try clear Yi
        try clear Yj
        try clear Yk
        try clear Yl
        try clear Qk
        try clear Ql
        try clear Qm
        try clear Qn
        try clear Qo
        try clear Qp
        try clear Qw
        try clear Qx
        try clear Qy
        try clear Qz
        try clear Z0
        try clear Z1
        try clear p2
        obtain ⟨kq, x77_17, rfl, HA, HJ17, q0, HB⟩ := hcut
        cases kq with
        | zero => exact absurd HA.out (by simp [Qab.j3])
        | succ kj17 =>
         have H := HA.out
         clear HA
         simp only [Qab.j3] at H
         by_cases c26 : x77_17 = true
         ·
          subst c26
          have H1 : (some 3) = some r := by rw [if_pos rfl] at H; exact H
          clear H
          have H := H1
          clear H1
          obtain rfl := Option.some.inj H
          go_wp2
          go_ret
          exact ⟨by first | rfl | (simp [errW_none, errW_some] <;> rfl) | (simp [*, errW_none, errW_some] <;> rfl), bl HB⟩
         ·
          replace c26 := Bool.eq_false_iff.mpr c26
          subst c26
          have H1 : (if x5_12 = true then (if (q4.length : Int) = a1 then (Qab.j4 kj17 false) else (Qab.j4 kj17 true)) else (Qab.j4 kj17 ((q3.length : Int) != a1))) = some r := by rw [if_neg (show ¬ (false = true) by decide)] at H; exact H
          clear H
          have H := H1
          clear H1
          have Xs := Qaa.mk H
          clear H
          go_upto_region 10 with (fail)
          go_cut [96] (fun v96 wc => ∃ (kq : Nat) (x96_26 : Bool), v96 = .bool x96_26 ∧ Qaa (Qab.j4 kq x96_26 = some r) ∧ Qaa (kq ≤ kj17) ∧ Qaa (wc.heap[Q2]? = some (.cells #[.int .i64 q6, (.slice Q4 q1.length Q5), (.slice Q6 q5.length Q7), (.slice Q8 q3.length Q9), (.slice Qa q2.length Qb), (.slice Qc q4.length Qd)] 39 (0, 0))) ∧ Qaa (Below w.heap.size w wc))
          case first =>
           have H := Xs.out
           clear Xs
           by_cases c28 : x5_12 = true
           ·
            subst c28
            have H1 : (if (q4.length : Int) = a1 then (Qab.j4 kj17 false) else (Qab.j4 kj17 true)) = some r := by rw [if_pos rfl] at H; exact H
            clear H
            have H := H1
            clear H1
            by_cases c29 : (q4.length : Int) = a1
            ·
             rw [if_pos c29] at H
             have Q3 : ((q4.length : Int) == a1) = true := beq_iff_eq.mpr c29
             have Xp : ((q4.length : Int) != a1) = false := bne_eq_false_iff_eq.mpr c29
             clear c29
             (first | rw [Q3] | (simp only [i64_w, i32_w]; rw [Q3]) | skip)
             have H' := Qaa.mk H
             clear H
             obtain ⟨Yp, Yq, Yr, Ys, Yt, Yu, Yv, Yw, Yx, Yy, Yz, X0⟩ := cf6 q0
             go_wp2
             go_meet
             case rel => exact ⟨_, (false), (by first | rfl | (simp; done) | (simp [*]; done)), H', ⟨by have := HJ2.out; have := HJ12.out; have := HJ17.out; first | omega | exact Nat.le_refl _⟩, ⟨by apply blk_u; exact q0.out⟩, ⟨bl HB⟩⟩
            ·
             rw [if_neg c29] at H
             have Q3 : ((q4.length : Int) == a1) = false := beq_eq_false_iff_ne.mpr c29
             have Xp : ((q4.length : Int) != a1) = true := bne_iff_ne.mpr c29
             (first | rw [Q3] | (simp only [i64_w, i32_w]; rw [Q3]) | skip)
             have H' := Qaa.mk H
             clear H
             obtain ⟨X1, X2, X3, X4, X5, X6, X7, X8, X9, Xa, Xb, Xc⟩ := cf6 q0
             go_wp2
             go_meet
             case rel => exact ⟨_, (true), (by first | rfl | (simp; done) | (simp [*]; done)), H', ⟨by have := HJ2.out; have := HJ12.out; have := HJ17.out; first | omega | exact Nat.le_refl _⟩, ⟨by apply blk_u; exact q0.out⟩, ⟨bl HB⟩⟩
           ·
            replace c28 := Bool.eq_false_iff.mpr c28
            subst c28
            have H1 : (Qab.j4 kj17 ((q3.length : Int) != a1)) = some r := by rw [if_neg (show ¬ (false = true) by decide)] at H; exact H
            clear H
            have H := H1
            clear H1
            have H' := Qaa.mk H
            clear H
            obtain ⟨Xd, Xe, Xf, Xg, Xh, Xi, Xj, Xk, Xl, Xm, Xn, Xo⟩ := cf6 q0
            go_wp2
            go_meet
            case rel => exact ⟨_, (((q3.length : Int) != a1)), (by first | rfl | (simp; done) | (simp [*]; done)), H', ⟨by have := HJ2.out; have := HJ12.out; have := HJ17.out; first | omega | exact Nat.le_refl _⟩, ⟨by apply blk_u; exact q0.out⟩, ⟨bl HB⟩⟩
          case rest =>
           clear Xs
           try clear c1
           try clear c2
           try clear p2
           try clear c4
           try clear c5
           try clear z0
           try clear J7
           try clear c6
           try clear J8
           try clear J9
           try clear c11
           try clear c12
           try clear J4
           try clear J5
           try clear c15
           try clear j8
           try clear J6
           try clear c19
           try clear j9
           try clear Ym
           try clear c21
           try clear c22
           try clear Yn
           try clear Yo
           try clear c26
           try clear c28
           try clear c29
           try clear Q3
           try clear Xp
           try clear z1
           try clear z2
           try clear z3
           try clear z4
           try clear z5
           try clear z6
           try clear Z2
           try clear Z3
           try clear Z4
           try clear Z5
           try clear Z6
           try clear Z7
           try clear Ze
           try clear Zf
           try clear Zg
           try clear Zh
           try clear Zi
           try clear Zj
           try clear Zq
           try clear Zr
           try clear Zs
           try clear Zt
           try clear Zu
           try clear Zv
           try clear Ja
           try clear Jb
           try clear Jc
           try clear Jd
           try clear Je
           try clear Jf
           try clear Jm
           try clear Jn
           try clear Jo
           try clear Jp
           try clear Jq
           try clear Jr
           try clear Jy
           try clear Jz
           try clear Y0
           try clear Y1
           try clear Y2
           try clear Y3
           try clear Ya
           try clear Yb
           try clear Yc
           try clear Yd
           try clear Ye
           try clear Yf
           try clear Yp
           try clear Yq
           try clear Yr
           try clear Ys
           try clear Yt
           try clear Yu
           try clear X1
           try clear X2
           try clear X3
           try clear X4
           try clear X5
           try clear X6
           try clear Xd
           try clear Xe
           try clear Xf
           try clear Xg
           try clear Xh
           try clear Xi
           try clear Qe
           try clear Qf
           try clear Qg
           try clear Qh
           try clear Qi
           try clear Qj
           try clear Qq
           try clear Qr
           try clear Qs
           try clear Qt
           try clear Qu
           try clear Qv
           try clear z7
           try clear z8
           try clear z9
           try clear y9
           try clear Q0
           try clear Q1
           try clear Z8
           try clear Z9
           try clear Za
           try clear Zb
           try clear Zc
           try clear Zd
           try clear Zk
           try clear Zl
           try clear Zm
           try clear Zn
           try clear Zo
           try clear Zp
           try clear Zw
           try clear Zx
           try clear Zy
           try clear Zz
           try clear J0
           try clear J1
           try clear Jg
           try clear Jh
           try clear Ji
           try clear Jj
           try clear Jk
           try clear Jl
           try clear Js
           try clear Jt
           try clear Ju
           try clear Jv
           try clear Jw
           try clear Jx
           try clear Y4
           try clear Y5
           try clear Y6
           try clear Y7
           try clear Y8
           try clear Y9
           try clear Yg
           try clear Yh
           try clear Yi
           try clear Yj
           try clear Yk
           try clear Yl
           try clear Yv
           try clear Yw
           try clear Yx
           try clear Yy
           try clear Yz
           try clear X0
           try clear X7
           try clear X8
           try clear X9
           try clear Xa
           try clear Xb
           try clear Xc
           try clear Xj
           try clear Xk
           try clear Xl
           try clear Xm
           try clear Xn
           try clear Xo
           try clear Qk
           try clear Ql
           try clear Qm
           try clear Qn
           try clear Qo
           try clear Qp
           try clear Qw
           try clear Qx
           try clear Qy
           try clear Qz
           try clear Z0
           try clear Z1
           try clear p2
           obtain ⟨kq, x96_26, rfl, HA, HJ26, q0, HB⟩ := hcut
           cases kq with
           | zero => exact absurd HA.out (by simp [Qab.j4])
           | succ kj26 =>
            have H := HA.out
            clear HA
            simp only [Qab.j4] at H
            by_cases c33 : x96_26 = true
            ·
             subst c33
             have H1 : (some 3) = some r := by rw [if_pos rfl] at H; exact H
             clear H
             have H := H1
             clear H1
             obtain rfl := Option.some.inj H
             go_wp2
             go_ret
             exact ⟨by first | rfl | (simp [errW_none, errW_some] <;> rfl) | (simp [*, errW_none, errW_some] <;> rfl), bl HB⟩
            ·
             replace c33 := Bool.eq_false_iff.mpr c33
             subst c33
             have H1 : (some 0) = some r := by rw [if_neg (show ¬ (false = true) by decide)] at H; exact H
             clear H
             have H := H1
             clear H1
             obtain rfl := Option.some.inj H
             go_wp2
             go_ret
             exact ⟨by first | rfl | (simp [errW_none, errW_some] <;> rfl) | (simp [*, errW_none, errW_some] <;> rfl), bl HB⟩
    ·
     rw [if_neg c12] at H
     have J4 : (q6 == 3) = false := beq_eq_false_iff_ne.mpr c12
     have J5 : (q6 != 3) = true := bne_iff_ne.mpr c12
     have Xt := Qaa.mk H
     clear H
     obtain ⟨W9, Wa, Wb, Wc, Wd, We, Wf, Wg, Wh, Wi, Wj, Wk⟩ := cf6 q0
     go_upto_region 4 with (fail)
     go_cut [48] (fun v48 wc => ∃ (kq : Nat) (x48_33 : Bool), v48 = .bool x48_33 ∧ Qaa (Qab.j1 kq x48_33 = some r) ∧ Qaa (kq ≤ kj2) ∧ Qaa (wc.heap[Q2]? = some (.cells #[.int .i64 q6, (.slice Q4 q1.length Q5), (.slice Q6 q5.length Q7), (.slice Q8 q3.length Q9), (.slice Qa q2.length Qb), (.slice Qc q4.length Qd)] 39 (0, 0))) ∧ Qaa (Below w.heap.size w wc))
     case first =>
      have H := Xt.out
      clear Xt
      by_cases c36 : (q3.length : Int) > 0
      ·
       rw [if_pos c36] at H
       have J2 : decide (0 < (q3.length : Int)) = true := decide_eq_true c36
       have W4 : decide (0 < q3.length) = true := decide_eq_true (by omega)
       clear c36
       (first | rw [J2] | (simp only [i64_w, i32_w]; rw [J2]) | skip)
       have H' := Qaa.mk H
       clear H
       obtain ⟨Wl, Wm, Wn, Wo, Wp, Wq, Wr, Ws, Wt, Wu, Wv, Ww⟩ := cf6 q0
       go_wp2
       go_meet
       case rel => exact ⟨_, (true), (by first | rfl | (simp; done) | (simp [*]; done)), H', ⟨by have := HJ2.out; first | omega | exact Nat.le_refl _⟩, ⟨by apply blk_u; exact q0.out⟩, ⟨bl HB⟩⟩
      ·
       rw [if_neg c36] at H
       have J2 : decide (0 < (q3.length : Int)) = false := decide_eq_false c36
       have W4 : decide (0 < q3.length) = false := decide_eq_false (by omega)
       clear c36
       (first | rw [J2] | (simp only [i64_w, i32_w]; rw [J2]) | skip)
       by_cases c38 : (q2.length : Int) > 0
       ·
        rw [if_pos c38] at H
        have W5 : decide (0 < (q2.length : Int)) = true := decide_eq_true c38
        have W6 : decide (0 < q2.length) = true := decide_eq_true (by omega)
        clear c38
        have H' := Qaa.mk H
        clear H
        obtain ⟨Wx, Wy, Wz, V0, V1, V2, V3, V4, V5, V6, V7, V8⟩ := cf6 q0
        go_wp2
        go_meet
        case rel => exact ⟨_, (true), (by first | rfl | (simp; done) | (simp [*]; done)), H', ⟨by have := HJ2.out; first | omega | exact Nat.le_refl _⟩, ⟨by apply blk_u; exact q0.out⟩, ⟨bl HB⟩⟩
       ·
        rw [if_neg c38] at H
        have W5 : decide (0 < (q2.length : Int)) = false := decide_eq_false c38
        have W6 : decide (0 < q2.length) = false := decide_eq_false (by omega)
        clear c38
        by_cases c40 : (q4.length : Int) > 0
        ·
         rw [if_pos c40] at H
         have W7 : decide (0 < (q4.length : Int)) = true := decide_eq_true c40
         have W8 : decide (0 < q4.length) = true := decide_eq_true (by omega)
         clear c40
         have H' := Qaa.mk H
         clear H
         obtain ⟨V9, Va, Vb, Vc, Vd, Ve, Vf, Vg, Vh, Vi, Vj, Vk⟩ := cf6 q0
         go_wp2
         go_meet
         case rel => exact ⟨_, (true), (by first | rfl | (simp; done) | (simp [*]; done)), H', ⟨by have := HJ2.out; first | omega | exact Nat.le_refl _⟩, ⟨by apply blk_u; exact q0.out⟩, ⟨bl HB⟩⟩
        ·
         rw [if_neg c40] at H
         have W7 : decide (0 < (q4.length : Int)) = false := decide_eq_false c40
         have W8 : decide (0 < q4.length) = false := decide_eq_false (by omega)
         clear c40
         have H' := Qaa.mk H
         clear H
         obtain ⟨Vl, Vm, Vn, Vo, Vp, Vq, Vr, Vs, Vt, Vu, Vv, Vw⟩ := cf6 q0
         go_wp2
         go_meet
         case rel => exact ⟨_, (((q5.length : Int) != a1)), (by first | rfl | (simp; done) | (simp [*]; done)), H', ⟨by have := HJ2.out; first | omega | exact Nat.le_refl _⟩, ⟨by apply blk_u; exact q0.out⟩, ⟨bl HB⟩⟩
     case rest =>
      clear Xt
      try clear c1
      try clear c2
      try clear p2
      try clear c3
      try clear c4
      try clear c5
      try clear z0
      try clear J7
      try clear c6
      try clear J8
      try clear J9
      try clear c11
      try clear c12
      try clear J4
      try clear J5
      try clear c15
      try clear j8
      try clear J6
      try clear c19
      try clear j9
      try clear Ym
      try clear c21
      try clear c22
      try clear Yn
      try clear Yo
      try clear c26
      try clear c28
      try clear c29
      try clear Q3
      try clear Xp
      try clear c33
      try clear c36
      try clear J2
      try clear W4
      try clear c38
      try clear W5
      try clear W6
      try clear c40
      try clear W7
      try clear W8
      try clear z1
      try clear z2
      try clear z3
      try clear z4
      try clear z5
      try clear z6
      try clear Z2
      try clear Z3
      try clear Z4
      try clear Z5
      try clear Z6
      try clear Z7
      try clear Ze
      try clear Zf
      try clear Zg
      try clear Zh
      try clear Zi
      try clear Zj
      try clear Zq
      try clear Zr
      try clear Zs
      try clear Zt
      try clear Zu
      try clear Zv
      try clear Ja
      try clear Jb
      try clear Jc
      try clear Jd
      try clear Je
      try clear Jf
      try clear Jm
      try clear Jn
      try clear Jo
      try clear Jp
      try clear Jq
      try clear Jr
      try clear Jy
      try clear Jz
      try clear Y0
      try clear Y1
      try clear Y2
      try clear Y3
      try clear Ya
      try clear Yb
      try clear Yc
      try clear Yd
      try clear Ye
      try clear Yf
      try clear Yp
      try clear Yq
      try clear Yr
      try clear Ys
      try clear Yt
      try clear Yu
      try clear X1
      try clear X2
      try clear X3
      try clear X4
      try clear X5
      try clear X6
      try clear Xd
      try clear Xe
      try clear Xf
      try clear Xg
      try clear Xh
      try clear Xi
      try clear W9
      try clear Wa
      try clear Wb
      try clear Wc
      try clear Wd
      try clear We
      try clear Wl
      try clear Wm
      try clear Wn
      try clear Wo
      try clear Wp
      try clear Wq
      try clear Wx
      try clear Wy
      try clear Wz
      try clear V0
      try clear V1
      try clear V2
      try clear V9
      try clear Va
      try clear Vb
      try clear Vc
      try clear Vd
      try clear Ve
      try clear Vl
      try clear Vm
      try clear Vn
      try clear Vo
      try clear Vp
      try clear Vq
      try clear Qe
      try clear Qf
      try clear Qg
      try clear Qh
      try clear Qi
      try clear Qj
      try clear Qq
      try clear Qr
      try clear Qs
      try clear Qt
      try clear Qu
      try clear Qv
      try clear z7
      try clear z8
      try clear z9
      try clear y9
      try clear Q0
      try clear Q1
      try clear Z8
      try clear Z9
      try clear Za
      try clear Zb
      try clear Zc
      try clear Zd
      try clear Zk
      try clear Zl
      try clear Zm
      try clear Zn
      try clear Zo
      try clear Zp
      try clear Zw
      try clear Zx
      try clear Zy
      try clear Zz
      try clear J0
      try clear J1
      try clear Jg
      try clear Jh
      try clear Ji
      try clear Jj
      try clear Jk
      try clear Jl
      try clear Js
      try clear Jt
      try clear Ju
      try clear Jv
      try clear Jw
      try clear Jx
      try clear Y4
      try clear Y5
      try clear Y6
      try clear Y7
      try clear Y8
      try clear Y9
      try clear Yg
      try clear Yh
      try clear Yi
      try clear Yj
      try clear Yk
      try clear Yl
      try clear Yv
      try clear Yw
      try clear Yx
      try clear Yy
      try clear Yz
      try clear X0
      try clear X7
      try clear X8
      try clear X9
      try clear Xa
      try clear Xb
      try clear Xc
      try clear Xj
      try clear Xk
      try clear Xl
      try clear Xm
      try clear Xn
      try clear Xo
      try clear Wf
      try clear Wg
      try clear Wh
      try clear Wi
      try clear Wj
      try clear Wk
      try clear Wr
      try clear Ws
      try clear Wt
      try clear Wu
      try clear Wv
      try clear Ww
      try clear V3
      try clear V4
      try clear V5
      try clear V6
      try clear V7
      try clear V8
      try clear Vf
      try clear Vg
      try clear Vh
      try clear Vi
      try clear Vj
      try clear Vk
      try clear Vr
      try clear Vs
      try clear Vt
      try clear Vu
      try clear Vv
      try clear Vw
      try clear Qk
      try clear Ql
      try clear Qm
      try clear Qn
      try clear Qo
      try clear Qp
      try clear Qw
      try clear Qx
      try clear Qy
      try clear Qz
      try clear Z0
      try clear Z1
      try clear p2
      obtain ⟨kq, x48_33, rfl, HA, HJ33, q0, HB⟩ := hcut
      cases kq with
      | zero => exact absurd HA.out (by simp [Qab.j1])
      | succ kj33 =>
       have H := HA.out
       clear HA
       simp only [Qab.j1] at H
       by_cases c43 : x48_33 = true
       ·
        subst c43
        have H1 : (some 3) = some r := by rw [if_pos rfl] at H; exact H
        clear H
        have H := H1
        clear H1
        obtain rfl := Option.some.inj H
        go_wp2
        go_ret
        exact ⟨by first | rfl | (simp [errW_none, errW_some] <;> rfl) | (simp [*, errW_none, errW_some] <;> rfl), bl HB⟩
       ·
        replace c43 := Bool.eq_false_iff.mpr c43
        subst c43
        have H1 : (some 0) = some r := by rw [if_neg (show ¬ (false = true) by decide)] at H; exact H
        clear H
        have H := H1
        clear H1
        obtain rfl := Option.some.inj H
        go_wp2
        go_ret
        exact ⟨by first | rfl | (simp [errW_none, errW_some] <;> rfl) | (simp [*, errW_none, errW_some] <;> rfl), bl HB⟩
end Go.Proofs.Ytphnmaobpefoiaa.XW
end
section
namespace Go.Proofs.Ytphnmaobpefoiaa.XW
open Go.RowKit Go.Proofs.YtphnmaobpefoiaaXW Go.Proofs.YtphnmaobpefoiaaW.PrintWords Go.Proofs.YtphnmaobpefoiaaW.PrintLast Go.Proofs.YtphnmaobpefoiaaW.PrintMore
attribute [local go_sem] max2_int min2_int max_two min_two max_three min_three max_four min_four sleq
set_option linter.unusedVariables false
set_option linter.unusedSimpArgs false
def Qbc.f (a0 : ByteArray) : Option (Int × Int × ByteArray) := some (3, 0, a0)
set_option maxHeartbeats 8000000 in
set_option maxRecDepth 100000 in
theorem Qbc.calls (a0 : ByteArray) (r1 : Int) (r2 : Int) (r3 : ByteArray) (w : World) (h : Qbc.f a0 = some (r1, r2, r3)) :
  Calls Try.prog 49 #[.string a0] w fun e w' => e = .returned (.agg #[.int .i64 r1, .int .i64 r2, .string r3]) ∧ Below w.heap.size w w' := by
 have hu41 := Try.underlying41
 have HB := Qaa.mk (Below.refl w.heap.size w)
 have H : (some (3, 0, a0)) = some (r1, r2, r3) := h
 clear h
 simp only [Option.some.injEq, Prod.mk.injEq] at H
 obtain ⟨rfl, rfl, rfl⟩ := H
 go_enter Try.func49, Try.ntmps49
 go_wp2_with (first | ((with_reducible refine gate_dst (N := 2) rfl ?_); refine bx 2 #[.int .i64 0, .int .i64 0, .string (⟨#[]⟩ : ByteArray)] 41 ?_; intro q0 hg w2 hbox hb; have q1 := Qaa.mk (hbox); have q8 := Qaa.mk ((by rw [hg]; exact (below_size (bl HB)) : w.heap.size ≤ q0)); have q9 := Qaa.mk ((by rw [hg]; exact (below_size (bl HB)) : w.heap.size ≤ q0)); replace HB := bs HB hb; clear hb hbox hg; obtain ⟨q2, q3, q4, q5, q6, q7⟩ := cf3 q1))
 refine bodyPost_ret (results_cell_row rfl _ _ q0 41 #[.int .i64 3, .int .i64 0, .string a0] (0, 0) _ rfl (by apply blk_u; refine blk_put (cs := #[.int .i64 3, .int .i64 0, .string (⟨#[]⟩ : ByteArray)]) ?_ 2 _ rfl; apply blk_u; refine blk_put (cs := #[.int .i64 3, .int .i64 0, .string (⟨#[]⟩ : ByteArray)]) ?_ 1 _ rfl; apply blk_u; refine blk_put (cs := #[.int .i64 0, .int .i64 0, .string (⟨#[]⟩ : ByteArray)]) ?_ 0 _ rfl; apply blk_u; exact q1.out) Try.underlying41 rfl (by kernel_rfl)) rfl ?_
 exact ⟨by first | rfl | (simp [errW_none, errW_some] <;> rfl) | (simp [*, errW_none, errW_some] <;> rfl), bl HB⟩
end Go.Proofs.Ytphnmaobpefoiaa.XW
end
section
namespace Go.Proofs.Ytphnmaobpefoiaa.XW
open Go.RowKit Go.Proofs.YtphnmaobpefoiaaXW Go.Proofs.YtphnmaobpefoiaaW.PrintWords Go.Proofs.YtphnmaobpefoiaaW.PrintLast Go.Proofs.YtphnmaobpefoiaaW.PrintMore
attribute [local go_sem] max2_int min2_int max_two min_two max_three min_three max_four min_four sleq
set_option linter.unusedVariables false
set_option linter.unusedSimpArgs false
def Qaz.f (a0 : Int) (a1 : Int) (a2 : Int) : Option (Int) := (Qau.f a0 a1 a2).bind fun q0 => (if q0 = true then (some 0) else (some 1))
set_option maxHeartbeats 8000000 in
set_option maxRecDepth 100000 in
theorem Qaz.calls (a0 : Int) (a1 : Int) (a2 : Int) (r : Int) (w : World) (h : Qaz.f a0 a1 a2 = some r) :
  Calls Try.prog 62 #[.int .i64 a0, .int .i64 a1, .int .i64 a2] w fun e w' => e = .returned (.int .i64 r) ∧ Drawn0 w w' := by
 have H : ((Qau.f a0 a1 a2).bind fun q0 => (if q0 = true then (some 0) else (some 1))) = some r := h
 clear h
 replace H := Option.bind_eq_some_iff.mp H
 obtain ⟨q0, A40, H⟩ := H
 replace H : (if q0 = true then (some 0) else (some 1)) = some r := H
 have A4 := Qaa.mk A40
 clear A40
 by_cases c5 : q0 = true
 ·
  subst c5
  have H1 : (some 0) = some r := by rw [if_pos rfl] at H; exact H
  clear H
  have H := H1
  clear H1
  obtain rfl := Option.some.inj H
  go_enter Try.func62, Try.ntmps62
  go_wp2_with (first | ((with_reducible refine gate_callee (f := 25) rfl ?_); refine gL (some 10) Try.func25 #[.int .i64 a0, .int .i64 a1, .int .i64 a2] ?_; (with_reducible refine (Qau.calls a0 a1 a2 true _ A4.out).mono ?_); rintro e w' ⟨rfl, ⟨nd, rfl⟩⟩; refine ⟨_, rfl, ?_⟩))
  go_ret
  exact ⟨by first | rfl | (simp; done) | (simp [*]; done), by repeat (first | exact Drawn0.refl _ | apply Drawn0.step)⟩
 ·
  replace c5 := Bool.eq_false_iff.mpr c5
  subst c5
  have H1 : (some 1) = some r := by rw [if_neg (show ¬ (false = true) by decide)] at H; exact H
  clear H
  have H := H1
  clear H1
  obtain rfl := Option.some.inj H
  go_enter Try.func62, Try.ntmps62
  go_wp2_with (first | ((with_reducible refine gate_callee (f := 25) rfl ?_); refine gL (some 10) Try.func25 #[.int .i64 a0, .int .i64 a1, .int .i64 a2] ?_; (with_reducible refine (Qau.calls a0 a1 a2 false _ A4.out).mono ?_); rintro e w' ⟨rfl, ⟨nd, rfl⟩⟩; refine ⟨_, rfl, ?_⟩))
  go_ret
  exact ⟨by first | rfl | (simp; done) | (simp [*]; done), by repeat (first | exact Drawn0.refl _ | apply Drawn0.step)⟩
end Go.Proofs.Ytphnmaobpefoiaa.XW
end
section
namespace Go.Proofs.Ytphnmaobpefoiaa.XW
open Go.RowKit Go.Proofs.YtphnmaobpefoiaaXW Go.Proofs.YtphnmaobpefoiaaW.PrintWords Go.Proofs.YtphnmaobpefoiaaW.PrintLast Go.Proofs.YtphnmaobpefoiaaW.PrintMore
attribute [local go_sem] max2_int min2_int max_two min_two max_three min_three max_four min_four sleq
set_option linter.unusedVariables false
set_option linter.unusedSimpArgs false
mutual
def Qae.j0 : Nat → Int → Bool → Int → Int → ByteArray → Option (Int)
 | 0, _, _, _, _, _ => none
 | k + 1, x5, x16, q8, q6, q5 => if x16 = true then (if q5.toList = ([] : List UInt8) then (if q8 = 1 then ((Qaz.f q6 0 1).bind fun q9 => (some q9)) else ((Qaz.f q6 (-1000000000000000) 1000000000000000).bind fun j1 => (some j1))) else (some 3)) else (if x5 = 3 then (if q6 = 0 then (if (q5.size : Int) > 200 then (some 2) else (Qae.l0 k (q5.size : Int) 0 q8 q6 q5)) else (some 3)) else (some 4))
def Qae.l0 : Nat → Int → Int → Int → Int → ByteArray → Option (Int)
 | 0, _, _, _, _, _ => none
 | k + 1, x42, x43, q8, q6, q5 => if x43 < x42 then (if 0 ≤ x43 then (if x43 < (q5.size : Int) then ((Qau.f (wrap64 (bt q5 x43)) 32 126).bind fun z4 => (if z4 = true then (Qae.l0 k x42 (wrap64 (x43 + 1)) q8 q6 q5) else (some 3))) else (none)) else (none)) else (some 0)
end
def Qae.f (k : Nat) (q0 : Int) (q2 : Int) (q1 : ByteArray) : Option (Int) := if q0 = 0 then (if q2 = 0 then (if q1.toList = ([] : List UInt8) then (some 0) else (some 3)) else (some 3)) else (if q0 = 1 then (Qae.j0 k q0 (q0 == 1) q0 q2 q1) else (Qae.j0 k q0 (q0 == 2) q0 q2 q1))
theorem Qae.mono_l : ∀ k, (∀ y0 y1 y2 y3 y4, LeO (Qae.j0 k y0 y1 y2 y3 y4) (Qae.j0 (k + 1) y0 y1 y2 y3 y4)) ∧ (∀ y0 y1 y2 y3 y4, LeO (Qae.l0 k y0 y1 y2 y3 y4) (Qae.l0 (k + 1) y0 y1 y2 y3 y4))
 | 0 => ⟨fun _ _ _ _ _ r h => by simp [Qae.j0] at h, fun _ _ _ _ _ r h => by simp [Qae.l0] at h⟩
 | k + 1 => by
  obtain ⟨ih0, ih1⟩ := Qae.mono_l k
  refine ⟨?_, ?_⟩
  ·
   intro y0 y1 y2 y3 y4
   unfold Qae.j0
   repeat' first
   | (with_reducible exact ih0 _ _ _ _ _)
   | (with_reducible exact ih1 _ _ _ _ _)
   | (with_reducible exact LeO.refl _)
   | (with_reducible exact LeO.none _)
   | (with_reducible refine LeO.ite ?_ ?_)
   | (with_reducible refine LeO.bind ?_ (fun _ => ?_))
   | exact ih0 _ _ _ _ _
   | exact ih1 _ _ _ _ _
   | exact LeO.none _
   | refine LeO.ite ?_ ?_
   | refine LeO.bind ?_ (fun _ => ?_)
  ·
   intro y0 y1 y2 y3 y4
   unfold Qae.l0
   repeat' first
   | (with_reducible exact ih0 _ _ _ _ _)
   | (with_reducible exact ih1 _ _ _ _ _)
   | (with_reducible exact LeO.refl _)
   | (with_reducible exact LeO.none _)
   | (with_reducible refine LeO.ite ?_ ?_)
   | (with_reducible refine LeO.bind ?_ (fun _ => ?_))
   | exact ih0 _ _ _ _ _
   | exact ih1 _ _ _ _ _
   | exact LeO.none _
   | refine LeO.ite ?_ ?_
   | refine LeO.bind ?_ (fun _ => ?_)
theorem Qae.mono : ∀ a0 a1 a2 k, LeO (Qae.f k a0 a1 a2) (Qae.f (k + 1) a0 a1 a2) := by
 intro a0 a1 a2 k
 obtain ⟨ih0, ih1⟩ := Qae.mono_l k
 unfold Qae.f
 repeat' first
   | (with_reducible exact ih0 _ _ _ _ _)
   | (with_reducible exact ih1 _ _ _ _ _)
   | (with_reducible exact LeO.refl _)
   | (with_reducible exact LeO.none _)
   | (with_reducible refine LeO.ite ?_ ?_)
   | (with_reducible refine LeO.bind ?_ (fun _ => ?_))
   | exact ih0 _ _ _ _ _
   | exact ih1 _ _ _ _ _
   | exact LeO.none _
   | refine LeO.ite ?_ ?_
   | refine LeO.bind ?_ (fun _ => ?_)
set_option maxHeartbeats 8000000 in
set_option maxRecDepth 100000 in
theorem Qae.calls (k : Nat) (q0 : Int) (q2 : Int) (q1 : ByteArray) (r : Int) (w : World) (h : Qae.f k q0 q2 q1 = some r) :
  Calls Try.prog 61 #[.agg #[.int .i64 q0, .int .i64 q2, .string q1]] w fun e w' => e = .returned (.int .i64 r) ∧ Below w.heap.size w w' := by
 have hu41 := Try.underlying41
 have HB := Qaa.mk (Below.refl w.heap.size w)
 have H : (if q0 = 0 then (if q2 = 0 then (if q1.toList = ([] : List UInt8) then (some 0) else (some 3)) else (some 3)) else (if q0 = 1 then (Qae.j0 k q0 (q0 == 1) q0 q2 q1) else (Qae.j0 k q0 (q0 == 2) q0 q2 q1))) = some r := h
 clear h
 by_cases c2 : q0 = 0
 ·
  rw [if_pos c2] at H
  have Q5 : (q0 == 0) = true := beq_iff_eq.mpr c2
  have Q6 : (q0 != 0) = false := bne_eq_false_iff_eq.mpr c2
  clear c2
  by_cases c3 : q2 = 0
  ·
   rw [if_pos c3] at H
   have Q7 : (q2 == 0) = true := beq_iff_eq.mpr c3
   have Q8 : (q2 != 0) = false := bne_eq_false_iff_eq.mpr c3
   clear c3
   by_cases c4 : q1.toList = ([] : List UInt8)
   ·
    rw [if_pos c4] at H
    have Q9 : (q1.toList == ([] : List UInt8)) = true := beq_iff_eq.mpr c4
    have Qa : (q1.toList != ([] : List UInt8)) = false := bne_eq_false_iff_eq.mpr c4
    clear c4
    obtain rfl := Option.some.inj H
    go_enter Try.func61, Try.ntmps61
    go_wp2_with (first | ((with_reducible refine gate_dst (N := 1) rfl ?_); refine bx 1 #[.int .i64 q0, .int .i64 q2, .string q1] 41 ?_; intro q4 hg w5 hbox hb; have q3 := Qaa.mk (hbox); have z5 := Qaa.mk ((by rw [hg]; exact (below_size (bl HB)) : w.heap.size ≤ q4)); have z6 := Qaa.mk ((by rw [hg]; exact (below_size (bl HB)) : w.heap.size ≤ q4)); replace HB := bs HB hb; clear hb hbox hg; obtain ⟨z8, z9, y5, y6, y7, y8⟩ := cf3 q3))
    go_ret
    exact ⟨by first | rfl | (simp [errW_none, errW_some] <;> rfl) | (simp [*, errW_none, errW_some] <;> rfl), bl HB⟩
   ·
    rw [if_neg c4] at H
    have Q9 : (q1.toList == ([] : List UInt8)) = false := beq_eq_false_iff_ne.mpr c4
    have Qa : (q1.toList != ([] : List UInt8)) = true := bne_iff_ne.mpr c4
    obtain rfl := Option.some.inj H
    go_enter Try.func61, Try.ntmps61
    go_wp2_with (first | ((with_reducible refine gate_dst (N := 1) rfl ?_); refine bx 1 #[.int .i64 q0, .int .i64 q2, .string q1] 41 ?_; intro q4 hg w7 hbox hb; have q3 := Qaa.mk (hbox); have z5 := Qaa.mk ((by rw [hg]; exact (below_size (bl HB)) : w.heap.size ≤ q4)); have z6 := Qaa.mk ((by rw [hg]; exact (below_size (bl HB)) : w.heap.size ≤ q4)); replace HB := bs HB hb; clear hb hbox hg; obtain ⟨y9, Q0, Q1, Q2, Q3, Q4⟩ := cf3 q3))
    go_ret
    exact ⟨by first | rfl | (simp [errW_none, errW_some] <;> rfl) | (simp [*, errW_none, errW_some] <;> rfl), bl HB⟩
  ·
   rw [if_neg c3] at H
   have Q7 : (q2 == 0) = false := beq_eq_false_iff_ne.mpr c3
   have Q8 : (q2 != 0) = true := bne_iff_ne.mpr c3
   obtain rfl := Option.some.inj H
   go_enter Try.func61, Try.ntmps61
   go_wp2_with (first | ((with_reducible refine gate_dst (N := 1) rfl ?_); refine bx 1 #[.int .i64 q0, .int .i64 q2, .string q1] 41 ?_; intro q4 hg w9 hbox hb; have q3 := Qaa.mk (hbox); have z5 := Qaa.mk ((by rw [hg]; exact (below_size (bl HB)) : w.heap.size ≤ q4)); have z6 := Qaa.mk ((by rw [hg]; exact (below_size (bl HB)) : w.heap.size ≤ q4)); replace HB := bs HB hb; clear hb hbox hg; obtain ⟨j2, j3, j4, j5, j6, j7⟩ := cf3 q3))
   go_ret
   exact ⟨by first | rfl | (simp [errW_none, errW_some] <;> rfl) | (simp [*, errW_none, errW_some] <;> rfl), bl HB⟩
 ·
  rw [if_neg c2] at H
  have Q5 : (q0 == 0) = false := beq_eq_false_iff_ne.mpr c2
  have Q6 : (q0 != 0) = true := bne_iff_ne.mpr c2
  have Qb := Qaa.mk H
  clear H
  go_enter Try.func61, Try.ntmps61
  go_upto_if 16 with (first | ((with_reducible refine gate_dst (N := 1) rfl ?_); refine bx 1 #[.int .i64 q0, .int .i64 q2, .string q1] 41 ?_; intro q4 hg w12 hbox hb; have q3 := Qaa.mk (hbox); have z5 := Qaa.mk ((by rw [hg]; exact (below_size (bl HB)) : w.heap.size ≤ q4)); have z6 := Qaa.mk ((by rw [hg]; exact (below_size (bl HB)) : w.heap.size ≤ q4)); replace HB := bs HB hb; clear hb hbox hg; obtain ⟨j8, j9, z0, z1, z2, z3⟩ := cf3 q3))
  (try simp only [Act.put, List.setIfInBounds_toArray, List.set_cons_zero, List.set_cons_succ])
  go_cut [16] (fun v16 wc => ∃ (kq : Nat) (x16_10 : Bool), v16 = .bool x16_10 ∧ Qaa (Qae.j0 kq q0 x16_10 q0 q2 q1 = some r) ∧ Qaa (kq ≤ k) ∧ Qaa (wc.heap[q4]? = some (.cells #[.int .i64 q0, .int .i64 q2, .string q1] 41 (0, 0))) ∧ Qaa (Below w.heap.size w wc))
  case first =>
   have H := Qb.out
   clear Qb
   by_cases c14 : q0 = 1
   ·
    rw [if_pos c14] at H
    have q7 : (q0 == 1) = true := beq_iff_eq.mpr c14
    have z7 : (q0 != 1) = false := bne_eq_false_iff_eq.mpr c14
    clear c14
    (first | rw [q7] | (simp only [i64_w, i32_w]; rw [q7]) | skip)
    have H' := Qaa.mk H
    clear H
    go_wp2
    go_meet
    case rel => exact ⟨_, ((q0 == 1)), (by first | rfl | (simp; done) | (simp [*]; done)), H', ⟨by first | omega | exact Nat.le_refl _⟩, ⟨by apply blk_u; exact q3.out⟩, ⟨bl HB⟩⟩
   ·
    rw [if_neg c14] at H
    have q7 : (q0 == 1) = false := beq_eq_false_iff_ne.mpr c14
    have z7 : (q0 != 1) = true := bne_iff_ne.mpr c14
    (first | rw [q7] | (simp only [i64_w, i32_w]; rw [q7]) | skip)
    have H' := Qaa.mk H
    clear H
    go_wp2
    go_meet
    case rel => exact ⟨_, ((q0 == 2)), (by first | rfl | (simp; done) | (simp [*]; done)), H', ⟨by first | omega | exact Nat.le_refl _⟩, ⟨by apply blk_u; exact q3.out⟩, ⟨bl HB⟩⟩
  case rest =>
   clear Qb
   try clear c1
   try clear c2
   try clear Q5
   try clear Q6
   try clear p2
   try clear c3
   try clear Q7
   try clear Q8
   try clear c4
   try clear Q9
   try clear Qa
   try clear c6
   try clear c14
   try clear q7
   try clear z7
   try clear j2
   try clear j3
   try clear j4
   try clear j8
   try clear j9
   try clear z0
   try clear z8
   try clear z9
   try clear y5
   try clear y9
   try clear Q0
   try clear Q1
   try clear j5
   try clear j6
   try clear j7
   try clear z1
   try clear z2
   try clear z3
   try clear y6
   try clear y7
   try clear y8
   try clear Q2
   try clear Q3
   try clear Q4
   obtain ⟨kq, x16_10, rfl, HA, HJ10, q3, HB⟩ := hcut
   cases kq with
   | zero => exact absurd HA.out (by simp [Qae.j0])
   | succ kj10 =>
    have H := HA.out
    clear HA
    simp only [Qae.j0] at H
    by_cases c15 : x16_10 = true
    ·
     subst c15
     have H1 : (if q1.toList = ([] : List UInt8) then (if q0 = 1 then ((Qaz.f q2 0 1).bind fun q9 => (some q9)) else ((Qaz.f q2 (-1000000000000000) 1000000000000000).bind fun j1 => (some j1))) else (some 3)) = some r := by rw [if_pos rfl] at H; exact H
     clear H
     have H := H1
     clear H1
     by_cases c16 : q1.toList = ([] : List UInt8)
     ·
      rw [if_pos c16] at H
      have Qc : (q1.toList == ([] : List UInt8)) = true := beq_iff_eq.mpr c16
      have Qd : (q1.toList != ([] : List UInt8)) = false := bne_eq_false_iff_eq.mpr c16
      clear c16
      by_cases c17 : q0 = 1
      ·
       rw [if_pos c17] at H
       have Qe : (q0 == 1) = true := beq_iff_eq.mpr c17
       have Qf : (q0 != 1) = false := bne_eq_false_iff_eq.mpr c17
       clear c17
       replace H := Option.bind_eq_some_iff.mp H
       obtain ⟨q9, Zg, H⟩ := H
       replace H : (some q9) = some r := H
       have A18 := Qaa.mk Zg
       clear Zg
       obtain rfl := Option.some.inj H
       obtain ⟨Qm, Qn, Qo, Qp, Qq, Qr⟩ := cf3 q3
       go_wp2_with (first | ((with_reducible refine gate_callee (f := 62) rfl ?_); refine gL (some 27) Try.func62 #[.int .i64 q2, .int .i64 0, .int .i64 1] ?_; (with_reducible refine (Qaz.calls q2 0 1 q9 _ A18.out).mono ?_); rintro e w' ⟨rfl, ⟨nd, rfl⟩⟩; refine ⟨_, rfl, ?_⟩))
       go_ret
       exact ⟨by first | rfl | (simp [errW_none, errW_some] <;> rfl) | (simp [*, errW_none, errW_some] <;> rfl), bl HB⟩
      ·
       rw [if_neg c17] at H
       have Qe : (q0 == 1) = false := beq_eq_false_iff_ne.mpr c17
       have Qf : (q0 != 1) = true := bne_iff_ne.mpr c17
       replace H := Option.bind_eq_some_iff.mp H
       obtain ⟨j1, Zh, H⟩ := H
       replace H : (some j1) = some r := H
       have A20 := Qaa.mk Zh
       clear Zh
       obtain rfl := Option.some.inj H
       obtain ⟨Qs, Qt, Qu, Qv, Qw, Qx⟩ := cf3 q3
       go_wp2_with (first | ((with_reducible refine gate_callee (f := 62) rfl ?_); refine gL (some 30) Try.func62 #[.int .i64 q2, .int .i64 (-1000000000000000), .int .i64 1000000000000000] ?_; (with_reducible refine (Qaz.calls q2 (-1000000000000000) 1000000000000000 j1 _ A20.out).mono ?_); rintro e w' ⟨rfl, ⟨nd, rfl⟩⟩; refine ⟨_, rfl, ?_⟩))
       go_ret
       exact ⟨by first | rfl | (simp [errW_none, errW_some] <;> rfl) | (simp [*, errW_none, errW_some] <;> rfl), bl HB⟩
     ·
      rw [if_neg c16] at H
      have Qc : (q1.toList == ([] : List UInt8)) = false := beq_eq_false_iff_ne.mpr c16
      have Qd : (q1.toList != ([] : List UInt8)) = true := bne_iff_ne.mpr c16
      obtain rfl := Option.some.inj H
      obtain ⟨Qy, Qz, Z0, Z1, Z2, Z3⟩ := cf3 q3
      go_wp2
      go_ret
      exact ⟨by first | rfl | (simp [errW_none, errW_some] <;> rfl) | (simp [*, errW_none, errW_some] <;> rfl), bl HB⟩
    ·
     replace c15 := Bool.eq_false_iff.mpr c15
     subst c15
     have H1 : (if q0 = 3 then (if q2 = 0 then (if (q1.size : Int) > 200 then (some 2) else (Qae.l0 kj10 (q1.size : Int) 0 q0 q2 q1)) else (some 3)) else (some 4)) = some r := by rw [if_neg (show ¬ (false = true) by decide)] at H; exact H
     clear H
     have H := H1
     clear H1
     by_cases c23 : q0 = 3
     ·
      rw [if_pos c23] at H
      have Qg : (q0 == 3) = true := beq_iff_eq.mpr c23
      have Qh : (q0 != 3) = false := bne_eq_false_iff_eq.mpr c23
      clear c23
      by_cases c24 : q2 = 0
      ·
       rw [if_pos c24] at H
       have Qi : (q2 == 0) = true := beq_iff_eq.mpr c24
       have Qj : (q2 != 0) = false := bne_eq_false_iff_eq.mpr c24
       clear c24
       by_cases c25 : (q1.size : Int) > 200
       ·
        rw [if_pos c25] at H
        have Qk : decide (200 < (q1.size : Int)) = true := decide_eq_true c25
        have Ql : decide (200 < q1.size) = true := decide_eq_true (by omega)
        clear c25
        obtain rfl := Option.some.inj H
        obtain ⟨Z4, Z5, Z6, Z7, Z8, Z9⟩ := cf3 q3
        go_wp2
        go_ret
        exact ⟨by first | rfl | (simp [errW_none, errW_some] <;> rfl) | (simp [*, errW_none, errW_some] <;> rfl), bl HB⟩
       ·
        rw [if_neg c25] at H
        have Qk : decide (200 < (q1.size : Int)) = false := decide_eq_false c25
        have Ql : decide (200 < q1.size) = false := decide_eq_false (by omega)
        clear c25
        have H' := Qaa.mk H
        clear H
        obtain ⟨Za, Zb, Zc, Zd, Ze, Zf⟩ := cf3 q3
        go_wp2
        go_loopg [43] kj10 (fun kq v43 w' => ∃ (x43_2 : Int), v43 = .int .i64 x43_2 ∧ Qaa (Qae.l0 kq (q1.size : Int) x43_2 q0 q2 q1 = some r) ∧ Qaa (kq ≤ kj10) ∧ Qaa (w'.heap[q4]? = some (.cells #[.int .i64 q0, .int .i64 q2, .string q1] 41 (0, 0))) ∧ Qaa (Below w.heap.size w w'))
        case atStart => exact ⟨(0), (by first | rfl | (simp; done) | (simp [*]; done)), H', ⟨Nat.le_refl _⟩, ⟨by apply blk_u; exact q3.out⟩, ⟨bl HB⟩⟩
        case round =>
         clear H'
         try clear c1
         try clear c2
         try clear Q5
         try clear Q6
         try clear p2
         try clear c3
         try clear Q7
         try clear Q8
         try clear c4
         try clear Q9
         try clear Qa
         try clear c6
         try clear c14
         try clear q7
         try clear z7
         try clear c15
         try clear c16
         try clear Qc
         try clear Qd
         try clear c17
         try clear Qe
         try clear Qf
         try clear c23
         try clear Qg
         try clear Qh
         try clear c24
         try clear Qi
         try clear Qj
         try clear c25
         try clear Qk
         try clear Ql
         try clear j2
         try clear j3
         try clear j4
         try clear j8
         try clear j9
         try clear z0
         try clear Qm
         try clear Qn
         try clear Qo
         try clear Qs
         try clear Qt
         try clear Qu
         try clear Qy
         try clear Qz
         try clear Z0
         try clear Z4
         try clear Z5
         try clear Z6
         try clear Za
         try clear Zb
         try clear Zc
         try clear z8
         try clear z9
         try clear y5
         try clear y9
         try clear Q0
         try clear Q1
         try clear j5
         try clear j6
         try clear j7
         try clear z1
         try clear z2
         try clear z3
         try clear Qp
         try clear Qq
         try clear Qr
         try clear Qv
         try clear Qw
         try clear Qx
         try clear Z1
         try clear Z2
         try clear Z3
         try clear Z7
         try clear Z8
         try clear Z9
         try clear Zd
         try clear Ze
         try clear Zf
         try clear y6
         try clear y7
         try clear y8
         try clear Q2
         try clear Q3
         try clear Q4
         try clear p2
         obtain ⟨x43_2, rfl, HA, HK2, q3, HB⟩ := hrel
         cases gk with
         | zero => exact absurd HA.out (by simp [Qae.l0])
         | succ k2 =>
          have H := HA.out
          clear HA
          simp only [Qae.l0] at H
          by_cases c28 : x43_2 < (q1.size : Int)
          ·
           rw [if_pos c28] at H
           have Zj : decide (x43_2 < (q1.size : Int)) = true := decide_eq_true c28
           clear c28
           by_cases c29 : 0 ≤ x43_2
           ·
            rw [if_pos c29] at H
            have J2 : decide (0 ≤ x43_2) = true := decide_eq_true c29
            clear c29
            by_cases c30 : x43_2 < (q1.size : Int)
            ·
             rw [if_pos c30] at H
             have J3 : decide (x43_2 < (q1.size : Int)) = true := decide_eq_true c30
             clear c30
             replace H := Option.bind_eq_some_iff.mp H
             obtain ⟨z4, Zi, H⟩ := H
             replace H : (if z4 = true then (Qae.l0 k2 (q1.size : Int) (wrap64 (x43_2 + 1)) q0 q2 q1) else (some 3)) = some r := H
             have A32 := Qaa.mk Zi
             clear Zi
             by_cases c33 : z4 = true
             ·
              subst c33
              have H1 : (Qae.l0 k2 (q1.size : Int) (wrap64 (x43_2 + 1)) q0 q2 q1) = some r := by rw [if_pos rfl] at H; exact H
              clear H
              have H := H1
              clear H1
              have H' := Qaa.mk H
              clear H
              obtain ⟨Zk, Zl, Zm, Zn, Zo, Zp⟩ := cf3 q3
              have p31 : 0 ≤ (x43_2 : Int) := of_decide_eq_true (by first | (with_reducible assumption) | assumption)
              have q31 : x43_2 < (q1.size : Int) := of_decide_eq_true (by first | (with_reducible assumption) | assumption)
              have hx31 := bt_at q1 x43_2
              replace p31 := eq_true p31
              replace q31 := eq_true q31
              go_wp2_with (first | ((with_reducible refine gate_callee (f := 25) rfl ?_); refine gL (some 51) Try.func25 #[.int .i64 (wrap64 (bt q1 x43_2)), .int .i64 32, .int .i64 126] ?_; (with_reducible refine (Qau.calls (wrap64 (bt q1 x43_2)) 32 126 true _ A32.out).mono ?_); rintro e w' ⟨rfl, ⟨nd, rfl⟩⟩; refine ⟨_, rfl, ?_⟩))
              go_roundg k2
              case measure => have := HJ10.out; have := HK2.out; omega
              case rel => exact ⟨(wrap64 (x43_2 + 1)), (by first | rfl | (simp; done) | (simp [*]; done)), H', ⟨by have := HJ10.out; have := HK2.out; omega⟩, ⟨by apply blk_u; exact q3.out⟩, ⟨bl HB⟩⟩
             ·
              replace c33 := Bool.eq_false_iff.mpr c33
              subst c33
              have H1 : (some 3) = some r := by rw [if_neg (show ¬ (false = true) by decide)] at H; exact H
              clear H
              have H := H1
              clear H1
              obtain rfl := Option.some.inj H
              obtain ⟨Zq, Zr, Zs, Zt, Zu, Zv⟩ := cf3 q3
              have p31 : 0 ≤ (x43_2 : Int) := of_decide_eq_true (by first | (with_reducible assumption) | assumption)
              have q31 : x43_2 < (q1.size : Int) := of_decide_eq_true (by first | (with_reducible assumption) | assumption)
              have hx31 := bt_at q1 x43_2
              replace p31 := eq_true p31
              replace q31 := eq_true q31
              go_wp2_with (first | ((with_reducible refine gate_callee (f := 25) rfl ?_); refine gL (some 51) Try.func25 #[.int .i64 (wrap64 (bt q1 x43_2)), .int .i64 32, .int .i64 126] ?_; (with_reducible refine (Qau.calls (wrap64 (bt q1 x43_2)) 32 126 false _ A32.out).mono ?_); rintro e w' ⟨rfl, ⟨nd, rfl⟩⟩; refine ⟨_, rfl, ?_⟩))
              go_ret
              exact ⟨by first | rfl | (simp [errW_none, errW_some] <;> rfl) | (simp [*, errW_none, errW_some] <;> rfl), bl HB⟩
            ·
             rw [if_neg c30] at H
             exact absurd H (by simp)
           ·
            rw [if_neg c29] at H
            exact absurd H (by simp)
          ·
           rw [if_neg c28] at H
           have Zj : decide (x43_2 < (q1.size : Int)) = false := decide_eq_false c28
           clear c28
           obtain rfl := Option.some.inj H
           go_wp2
           go_ret
           exact ⟨by first | rfl | (simp [errW_none, errW_some] <;> rfl) | (simp [*, errW_none, errW_some] <;> rfl), bl HB⟩
      ·
       rw [if_neg c24] at H
       have Qi : (q2 == 0) = false := beq_eq_false_iff_ne.mpr c24
       have Qj : (q2 != 0) = true := bne_iff_ne.mpr c24
       obtain rfl := Option.some.inj H
       obtain ⟨Zw, Zx, Zy, Zz, J0, J1⟩ := cf3 q3
       go_wp2
       go_ret
       exact ⟨by first | rfl | (simp [errW_none, errW_some] <;> rfl) | (simp [*, errW_none, errW_some] <;> rfl), bl HB⟩
     ·
      rw [if_neg c23] at H
      have Qg : (q0 == 3) = false := beq_eq_false_iff_ne.mpr c23
      have Qh : (q0 != 3) = true := bne_iff_ne.mpr c23
      obtain rfl := Option.some.inj H
      go_wp2
      go_ret
      exact ⟨by first | rfl | (simp [errW_none, errW_some] <;> rfl) | (simp [*, errW_none, errW_some] <;> rfl), bl HB⟩
end Go.Proofs.Ytphnmaobpefoiaa.XW
end
section
namespace Go.Proofs.Ytphnmaobpefoiaa.XW
open Go.RowKit Go.Proofs.YtphnmaobpefoiaaXW Go.Proofs.YtphnmaobpefoiaaW.PrintWords Go.Proofs.YtphnmaobpefoiaaW.PrintLast Go.Proofs.YtphnmaobpefoiaaW.PrintMore
attribute [local go_sem] max2_int min2_int max_two min_two max_three min_three max_four min_four sleq
set_option linter.unusedVariables false
set_option linter.unusedSimpArgs false
def Qah.l0 : Nat → List ByteArray → Int → Int → Option (Int)
 | 0, _, _, _ => none
 | k + 1, x6, x7, x8 => if x8 < x7 then (if 0 ≤ x8 then (if x8 < (x6.length : Int) then ((Qbc.f (rdOf ByteArray.empty x6 x8)).bind fun q5 => ((Qae.f k q5.1 q5.2.1 q5.2.2).bind fun q0 => (if q0 = 0 then (Qah.l0 k x6 x7 (wrap64 (x8 + 1))) else (some q0)))) else (none)) else (none)) else (some 0)
def Qah.f (k : Nat) (l0 : List ByteArray) : Option (Int) := Qah.l0 k l0 (l0.length : Int) 0
theorem Qah.mono_l : ∀ k, (∀ y0 y1 y2, LeO (Qah.l0 k y0 y1 y2) (Qah.l0 (k + 1) y0 y1 y2))
 | 0 => fun _ _ _ r h => by simp [Qah.l0] at h
 | k + 1 => by
  have ih0 := Qah.mono_l k
  ·
   intro y0 y1 y2
   unfold Qah.l0
   repeat' first
   | (with_reducible exact ih0 _ _ _)
   | (with_reducible exact Qae.mono _ _ _ _)
   | (with_reducible exact LeO.refl _)
   | (with_reducible exact LeO.none _)
   | (with_reducible refine LeO.ite ?_ ?_)
   | (with_reducible refine LeO.bind ?_ (fun _ => ?_))
   | exact ih0 _ _ _
   | exact Qae.mono _ _ _ _
   | exact LeO.none _
   | refine LeO.ite ?_ ?_
   | refine LeO.bind ?_ (fun _ => ?_)
theorem Qah.mono : ∀ a0 k, LeO (Qah.f k a0) (Qah.f (k + 1) a0) := by
 intro a0 k
 have ih0 := Qah.mono_l k
 unfold Qah.f
 repeat' first
   | (with_reducible exact ih0 _ _ _)
   | (with_reducible exact Qae.mono _ _ _ _)
   | (with_reducible exact LeO.refl _)
   | (with_reducible exact LeO.none _)
   | (with_reducible refine LeO.ite ?_ ?_)
   | (with_reducible refine LeO.bind ?_ (fun _ => ?_))
   | exact ih0 _ _ _
   | exact Qae.mono _ _ _ _
   | exact LeO.none _
   | refine LeO.ite ?_ ?_
   | refine LeO.bind ?_ (fun _ => ?_)
set_option maxHeartbeats 8000000 in
set_option maxRecDepth 100000 in
theorem Qah.calls (k : Nat) (A0 : Option Addr) (c0 : Nat) (l0 : List ByteArray) (r : Int) (w : World) (hr0 : Kd.C Kd.string w A0 l0.length l0) (hc0 : l0.length ≤ c0) (h : Qah.f k l0 = some r) :
  Calls Try.prog 46 #[.slice A0 l0.length c0] w fun e w' => e = .returned (.int .i64 r) ∧ Below w.heap.size w w' := by
 have q6 := Qaa.mk hr0
 have j2 := Qaa.mk hc0
 clear hr0 hc0
 have HB := Qaa.mk (Below.refl w.heap.size w)
 have H : (Qah.l0 k l0 (l0.length : Int) 0) = some r := h
 clear h
 have H' := Qaa.mk H
 clear H
 go_enter Try.func46, Try.ntmps46
 go_wp2
 go_loopg [8] k (fun kq v8 w' => ∃ (x8_1 : Int), v8 = .int .i64 x8_1 ∧ Qaa (Qah.l0 kq l0 (l0.length : Int) x8_1 = some r) ∧ Qaa (kq ≤ k) ∧ Qaa (Below w.heap.size w w'))
 case atStart => exact ⟨(0), (by first | rfl | (simp; done) | (simp [*]; done)), H', ⟨Nat.le_refl _⟩, ⟨bl HB⟩⟩
 case round =>
  clear H'
  obtain ⟨x8_1, rfl, HA, HK1, HB⟩ := hrel
  cases gk with
  | zero => exact absurd HA.out (by simp [Qah.l0])
  | succ k1 =>
   have H := HA.out
   clear HA
   simp only [Qah.l0] at H
   by_cases c2 : x8_1 < (l0.length : Int)
   ·
    rw [if_pos c2] at H
    have q7 : decide (x8_1 < (l0.length : Int)) = true := decide_eq_true c2
    clear c2
    by_cases c3 : 0 ≤ x8_1
    ·
     rw [if_pos c3] at H
     have j0 : decide (0 ≤ x8_1) = true := decide_eq_true c3
     clear c3
     by_cases c4 : x8_1 < (l0.length : Int)
     ·
      rw [if_pos c4] at H
      have j1 : decide (x8_1 < (l0.length : Int)) = true := decide_eq_true c4
      clear c4
      replace H := Option.bind_eq_some_iff.mp H
      obtain ⟨⟨q2, q3, q4⟩, A50, H⟩ := H
      replace H : ((Qae.f k1 q2 q3 q4).bind fun q0 => (if q0 = 0 then (Qah.l0 k1 l0 (l0.length : Int) (wrap64 (x8_1 + 1))) else (some q0))) = some r := H
      have A5 := Qaa.mk A50
      clear A50
      replace H := Option.bind_eq_some_iff.mp H
      obtain ⟨q0, A60, H⟩ := H
      replace H : (if q0 = 0 then (Qah.l0 k1 l0 (l0.length : Int) (wrap64 (x8_1 + 1))) else (some q0)) = some r := H
      have A6 := Qaa.mk A60
      clear A60
      by_cases c7 : q0 = 0
      ·
       rw [if_pos c7] at H
       have q8 : (q0 == 0) = true := beq_iff_eq.mpr c7
       have q9 : (q0 != 0) = false := bne_eq_false_iff_eq.mpr c7
       clear c7
       have H' := Qaa.mk H
       clear H
       have p111 : 0 ≤ (x8_1 : Int) := of_decide_eq_true (by first | (with_reducible assumption) | assumption)
       have q111 : x8_1 < (l0.length : Int) := of_decide_eq_true (by first | (with_reducible assumption) | assumption)
       obtain ⟨ad111, e111, q1⟩ := Kd.at_string q6.out x8_1 p111 q111
       cases e111
       replace q1 := (HB.out.cell (World.block_lt_of_cell? w _ q1)).trans q1
       replace p111 := eq_true p111
       replace q111 := eq_true q111
       go_wp2_with (first | ((with_reducible refine gate_callee (f := 49) rfl ?_); refine gL (some 13) Try.func49 #[.string (rdOf ByteArray.empty l0 x8_1)] ?_; (with_reducible refine (Qbc.calls (rdOf ByteArray.empty l0 x8_1) q2 q3 q4 _ A5.out).mono ?_); rintro e w8 ⟨rfl, hb⟩; refine ⟨_, rfl, ?_⟩; replace HB := bs HB hb; (try clear hb)) | ((with_reducible refine gate_callee (f := 61) rfl ?_); refine gL (some 14) Try.func61 #[.agg #[.int .i64 q2, .int .i64 q3, .string q4]] ?_; (with_reducible refine (Qae.calls k1 q2 q3 q4 q0 _ A6.out).mono ?_); rintro e w9 ⟨rfl, hb⟩; refine ⟨_, rfl, ?_⟩; replace HB := bs HB hb; (try clear hb)))
       go_roundg k1
       case measure => have := HK1.out; omega
       case rel => exact ⟨(wrap64 (x8_1 + 1)), (by first | rfl | (simp; done) | (simp [*]; done)), H', ⟨by have := HK1.out; omega⟩, ⟨bl HB⟩⟩
      ·
       rw [if_neg c7] at H
       have q8 : (q0 == 0) = false := beq_eq_false_iff_ne.mpr c7
       have q9 : (q0 != 0) = true := bne_iff_ne.mpr c7
       obtain rfl := Option.some.inj H
       have p111 : 0 ≤ (x8_1 : Int) := of_decide_eq_true (by first | (with_reducible assumption) | assumption)
       have q111 : x8_1 < (l0.length : Int) := of_decide_eq_true (by first | (with_reducible assumption) | assumption)
       obtain ⟨ad111, e111, q1⟩ := Kd.at_string q6.out x8_1 p111 q111
       cases e111
       replace q1 := (HB.out.cell (World.block_lt_of_cell? w _ q1)).trans q1
       replace p111 := eq_true p111
       replace q111 := eq_true q111
       go_wp2_with (first | ((with_reducible refine gate_callee (f := 49) rfl ?_); refine gL (some 13) Try.func49 #[.string (rdOf ByteArray.empty l0 x8_1)] ?_; (with_reducible refine (Qbc.calls (rdOf ByteArray.empty l0 x8_1) q2 q3 q4 _ A5.out).mono ?_); rintro e w10 ⟨rfl, hb⟩; refine ⟨_, rfl, ?_⟩; replace HB := bs HB hb; (try clear hb)) | ((with_reducible refine gate_callee (f := 61) rfl ?_); refine gL (some 14) Try.func61 #[.agg #[.int .i64 q2, .int .i64 q3, .string q4]] ?_; (with_reducible refine (Qae.calls k1 q2 q3 q4 q0 _ A6.out).mono ?_); rintro e w11 ⟨rfl, hb⟩; refine ⟨_, rfl, ?_⟩; replace HB := bs HB hb; (try clear hb)))
       go_ret
       exact ⟨by first | rfl | (simp [errW_none, errW_some] <;> rfl) | (simp [*, errW_none, errW_some] <;> rfl), bl HB⟩
     ·
      rw [if_neg c4] at H
      exact absurd H (by simp)
    ·
     rw [if_neg c3] at H
     exact absurd H (by simp)
   ·
    rw [if_neg c2] at H
    have q7 : decide (x8_1 < (l0.length : Int)) = false := decide_eq_false c2
    clear c2
    obtain rfl := Option.some.inj H
    go_wp2
    go_ret
    exact ⟨by first | rfl | (simp [errW_none, errW_some] <;> rfl) | (simp [*, errW_none, errW_some] <;> rfl), bl HB⟩
end Go.Proofs.Ytphnmaobpefoiaa.XW
end
section
namespace Go.Proofs.Ytphnmaobpefoiaa.XW
open Go.RowKit Go.Proofs.YtphnmaobpefoiaaXW Go.Proofs.YtphnmaobpefoiaaW.PrintWords Go.Proofs.YtphnmaobpefoiaaW.PrintLast Go.Proofs.YtphnmaobpefoiaaW.PrintMore
attribute [local go_sem] max2_int min2_int max_two min_two max_three min_three max_four min_four sleq
set_option linter.unusedVariables false
set_option linter.unusedSimpArgs false
def Qax.f (q6 : Int) (q2 : List Bool) (q3 : List Int) (q4 : List ByteArray) (q0 : List ByteArray) (q1 : List Int) : Option (Bool) := if (q0.length : Int) > 0 then (some true) else (some (decide ((q1.length : Int) > 0)))
set_option maxHeartbeats 8000000 in
set_option maxRecDepth 100000 in
theorem Qax.calls (q6 : Int) (q7 : Option Addr) (q8 : Nat) (q2 : List Bool) (q9 : Option Addr) (j0 : Nat) (q3 : List Int) (j1 : Option Addr) (j2 : Nat) (q4 : List ByteArray) (j3 : Option Addr) (j4 : Nat) (q0 : List ByteArray) (j5 : Option Addr) (j6 : Nat) (q1 : List Int) (r : Bool) (w : World) (j8 : Kd.C Kd.bool w q7 q2.length q2) (j9 : q2.length ≤ q8) (z0 : Kd.C (Kd.int .i64) w q9 q3.length q3) (z1 : q3.length ≤ j0) (z2 : Kd.C Kd.string w j1 q4.length q4) (z3 : q4.length ≤ j2) (z4 : Kd.C Kd.string w j3 q0.length q0) (z5 : q0.length ≤ j4) (z6 : Kd.C (Kd.int .i64) w j5 q1.length q1) (z7 : q1.length ≤ j6) (h : Qax.f q6 q2 q3 q4 q0 q1 = some r) :
  Calls Try.prog 36 #[.agg #[.int .i64 q6, .slice q7 q2.length q8, .slice q9 q3.length j0, .slice j1 q4.length j2, .slice j3 q0.length j4, .slice j5 q1.length j6]] w fun e w' => e = .returned (.bool r) ∧ Below w.heap.size w w' := by
 have hu39 := Try.underlying39
 have Qg := Qaa.mk j8
 have Qh := Qaa.mk j9
 clear j8 j9
 have Qi := Qaa.mk z0
 have Qj := Qaa.mk z1
 clear z0 z1
 have Qk := Qaa.mk z2
 have Ql := Qaa.mk z3
 clear z2 z3
 have Qm := Qaa.mk z4
 have Qn := Qaa.mk z5
 clear z4 z5
 have Qo := Qaa.mk z6
 have Qp := Qaa.mk z7
 clear z6 z7
 have HB := Qaa.mk (Below.refl w.heap.size w)
 have H : (if (q0.length : Int) > 0 then (some true) else (some (decide ((q1.length : Int) > 0)))) = some r := h
 clear h
 by_cases c2 : (q0.length : Int) > 0
 ·
  rw [if_pos c2] at H
  have y0 : decide (0 < (q0.length : Int)) = true := decide_eq_true c2
  have y1 : decide (0 < q0.length) = true := decide_eq_true (by omega)
  clear c2
  obtain rfl := Option.some.inj H
  go_enter Try.func36, Try.ntmps36
  go_wp2_with (first | ((with_reducible refine gate_dst (N := 1) rfl ?_); (try (refine gate_guard (by rfl) ?_; dsimp only)); refine bx 1 #[.int .i64 q6, .slice q7 q2.length q8, .slice q9 q3.length j0, .slice j1 q4.length j2, .slice j3 q0.length j4, .slice j5 q1.length j6] 39 ?_; intro q5 hg w3 hbox hb; have j7 := Qaa.mk (hbox); have z8 := Qaa.mk ((by rw [hg]; exact (below_size (bl HB)) : w.heap.size ≤ q5)); have z9 := Qaa.mk ((by rw [hg]; exact (below_size (bl HB)) : w.heap.size ≤ q5)); replace HB := bs HB hb; clear hb hbox hg; obtain ⟨y2, y3, y4, y5, y6, y7, y8, y9, Q0, Q1, Q2, Q3⟩ := cf6 j7))
  go_ret
  exact ⟨by first | rfl | (simp [errW_none, errW_some] <;> rfl) | (simp [*, errW_none, errW_some] <;> rfl), bl HB⟩
 ·
  rw [if_neg c2] at H
  have y0 : decide (0 < (q0.length : Int)) = false := decide_eq_false c2
  have y1 : decide (0 < q0.length) = false := decide_eq_false (by omega)
  clear c2
  obtain rfl := Option.some.inj H
  go_enter Try.func36, Try.ntmps36
  go_wp2_with (first | ((with_reducible refine gate_dst (N := 1) rfl ?_); (try (refine gate_guard (by rfl) ?_; dsimp only)); refine bx 1 #[.int .i64 q6, .slice q7 q2.length q8, .slice q9 q3.length j0, .slice j1 q4.length j2, .slice j3 q0.length j4, .slice j5 q1.length j6] 39 ?_; intro q5 hg w5 hbox hb; have j7 := Qaa.mk (hbox); have z8 := Qaa.mk ((by rw [hg]; exact (below_size (bl HB)) : w.heap.size ≤ q5)); have z9 := Qaa.mk ((by rw [hg]; exact (below_size (bl HB)) : w.heap.size ≤ q5)); replace HB := bs HB hb; clear hb hbox hg; obtain ⟨Q4, Q5, Q6, Q7, Q8, Q9, Qa, Qb, Qc, Qd, Qe, Qf⟩ := cf6 j7))
  go_ret
  exact ⟨by first | rfl | (simp [errW_none, errW_some] <;> rfl) | (simp [*, errW_none, errW_some] <;> rfl), bl HB⟩
end Go.Proofs.Ytphnmaobpefoiaa.XW
end
section
namespace Go.Proofs.Ytphnmaobpefoiaa.XW
open Go.RowKit Go.Proofs.YtphnmaobpefoiaaXW Go.Proofs.YtphnmaobpefoiaaW.PrintWords Go.Proofs.YtphnmaobpefoiaaW.PrintLast Go.Proofs.YtphnmaobpefoiaaW.PrintMore
attribute [local go_sem] max2_int min2_int max_two min_two max_three min_three max_four min_four sleq
set_option linter.unusedVariables false
set_option linter.unusedSimpArgs false
def Qay.f (q7 : Int) (q0 : List Bool) (q1 : List Int) (q2 : List ByteArray) (q3 : List ByteArray) (q4 : List Int) (a1 : Int) : Option (Bool) := if (q0.length : Int) > 0 then (if 0 ≤ a1 then (if a1 < (q0.length : Int) then (some (rdOf false q0 a1)) else (none)) else (none)) else (some false)
set_option maxHeartbeats 8000000 in
set_option maxRecDepth 100000 in
theorem Qay.calls (q7 : Int) (q8 : Option Addr) (q9 : Nat) (q0 : List Bool) (j0 : Option Addr) (j1 : Nat) (q1 : List Int) (j2 : Option Addr) (j3 : Nat) (q2 : List ByteArray) (j4 : Option Addr) (j5 : Nat) (q3 : List ByteArray) (j6 : Option Addr) (j7 : Nat) (q4 : List Int) (a1 : Int) (r : Bool) (w : World) (j9 : Kd.C Kd.bool w q8 q0.length q0) (z0 : q0.length ≤ q9) (z1 : Kd.C (Kd.int .i64) w j0 q1.length q1) (z2 : q1.length ≤ j1) (z3 : Kd.C Kd.string w j2 q2.length q2) (z4 : q2.length ≤ j3) (z5 : Kd.C Kd.string w j4 q3.length q3) (z6 : q3.length ≤ j5) (z7 : Kd.C (Kd.int .i64) w j6 q4.length q4) (z8 : q4.length ≤ j7) (h : Qay.f q7 q0 q1 q2 q3 q4 a1 = some r) :
  Calls Try.prog 48 #[.agg #[.int .i64 q7, .slice q8 q0.length q9, .slice j0 q1.length j1, .slice j2 q2.length j3, .slice j4 q3.length j5, .slice j6 q4.length j7], .int .i64 a1] w fun e w' => e = .returned (.bool r) ∧ Below w.heap.size w w' := by
 have hu39 := Try.underlying39
 have z9 := Qaa.mk j9
 have Qi := Qaa.mk z0
 clear j9 z0
 have Qj := Qaa.mk z1
 have Qk := Qaa.mk z2
 clear z1 z2
 have Ql := Qaa.mk z3
 have Qm := Qaa.mk z4
 clear z3 z4
 have Qn := Qaa.mk z5
 have Qo := Qaa.mk z6
 clear z5 z6
 have Qp := Qaa.mk z7
 have Qq := Qaa.mk z8
 clear z7 z8
 have HB := Qaa.mk (Below.refl w.heap.size w)
 have H : (if (q0.length : Int) > 0 then (if 0 ≤ a1 then (if a1 < (q0.length : Int) then (some (rdOf false q0 a1)) else (none)) else (none)) else (some false)) = some r := h
 clear h
 by_cases c3 : (q0.length : Int) > 0
 ·
  rw [if_pos c3] at H
  have y2 : decide (0 < (q0.length : Int)) = true := decide_eq_true c3
  have y3 : decide (0 < q0.length) = true := decide_eq_true (by omega)
  clear c3
  by_cases c4 : 0 ≤ a1
  ·
   rw [if_pos c4] at H
   have Qr : decide (0 ≤ a1) = true := decide_eq_true c4
   clear c4
   by_cases c5 : a1 < (q0.length : Int)
   ·
    rw [if_pos c5] at H
    have Qs : decide (a1 < (q0.length : Int)) = true := decide_eq_true c5
    clear c5
    obtain rfl := Option.some.inj H
    go_enter Try.func48, Try.ntmps48
    go_wp2_with (first | ((with_reducible refine gate_dst (N := 2) rfl ?_); refine bx 2 #[.int .i64 q7, .slice q8 q0.length q9, .slice j0 q1.length j1, .slice j2 q2.length j3, .slice j4 q3.length j5, .slice j6 q4.length j7] 39 ?_; intro q5 hg w6 hbox hb; have j8 := Qaa.mk (hbox); have y0 := Qaa.mk ((by rw [hg]; exact (below_size (bl HB)) : w.heap.size ≤ q5)); have y1 := Qaa.mk ((by rw [hg]; exact (below_size (bl HB)) : w.heap.size ≤ q5)); replace HB := bs HB hb; clear hb hbox hg; obtain ⟨y4, y5, y6, y7, y8, y9, Q0, Q1, Q2, Q3, Q4, Q5⟩ := cf6 j8; have p118 : 0 ≤ (a1 : Int) := of_decide_eq_true (by first | (with_reducible assumption) | assumption); have q118 : a1 < (q0.length : Int) := of_decide_eq_true (by first | (with_reducible assumption) | assumption); obtain ⟨ad118, e118, q6⟩ := Kd.at_bool z9.out a1 p118 q118; cases e118; replace q6 := (HB.out.cell (World.block_lt_of_cell? w _ q6)).trans q6; replace p118 := eq_true p118; replace q118 := eq_true q118))
    go_ret
    exact ⟨by first | rfl | (simp [errW_none, errW_some] <;> rfl) | (simp [*, errW_none, errW_some] <;> rfl), bl HB⟩
   ·
    rw [if_neg c5] at H
    exact absurd H (by simp)
  ·
   rw [if_neg c4] at H
   exact absurd H (by simp)
 ·
  rw [if_neg c3] at H
  have y2 : decide (0 < (q0.length : Int)) = false := decide_eq_false c3
  have y3 : decide (0 < q0.length) = false := decide_eq_false (by omega)
  clear c3
  obtain rfl := Option.some.inj H
  go_enter Try.func48, Try.ntmps48
  go_wp2_with (first | ((with_reducible refine gate_dst (N := 2) rfl ?_); refine bx 2 #[.int .i64 q7, .slice q8 q0.length q9, .slice j0 q1.length j1, .slice j2 q2.length j3, .slice j4 q3.length j5, .slice j6 q4.length j7] 39 ?_; intro q5 hg w8 hbox hb; have j8 := Qaa.mk (hbox); have y0 := Qaa.mk ((by rw [hg]; exact (below_size (bl HB)) : w.heap.size ≤ q5)); have y1 := Qaa.mk ((by rw [hg]; exact (below_size (bl HB)) : w.heap.size ≤ q5)); replace HB := bs HB hb; clear hb hbox hg; obtain ⟨Q6, Q7, Q8, Q9, Qa, Qb, Qc, Qd, Qe, Qf, Qg, Qh⟩ := cf6 j8))
  go_ret
  exact ⟨by first | rfl | (simp [errW_none, errW_some] <;> rfl) | (simp [*, errW_none, errW_some] <;> rfl), bl HB⟩
end Go.Proofs.Ytphnmaobpefoiaa.XW
end
section
namespace Go.Proofs.Ytphnmaobpefoiaa.XW
open Go.RowKit Go.Proofs.YtphnmaobpefoiaaXW Go.Proofs.YtphnmaobpefoiaaW.PrintWords Go.Proofs.YtphnmaobpefoiaaW.PrintLast Go.Proofs.YtphnmaobpefoiaaW.PrintMore
attribute [local go_sem] max2_int min2_int max_two min_two max_three min_three max_four min_four sleq
set_option linter.unusedVariables false
set_option linter.unusedSimpArgs false
mutual
def Qag.j0 : Nat → Int → Bool → Bool → Int → List Bool → List Int → List ByteArray → List ByteArray → List Int → Option (Int)
 | 0, _, _, _, _, _, _, _, _, _ => none
 | k + 1, x1, x5, x44, Qe, Zx, Q9, Zy, Qf, Qa => if x44 = true then (some 3) else (if x5 = true then (some 0) else (if 0 ≤ x1 then (if x1 < (Qa.length : Int) then ((Qaz.f (rd Qa x1) 0 (wrap64 ((Qf.length : Int) - 1))).bind fun Q5 => (some Q5)) else (none)) else (none)))
def Qag.j1 : Nat → Int → Bool → Bool → Int → List Bool → List Int → List ByteArray → List ByteArray → List Int → Option (Int)
 | 0, _, _, _, _, _, _, _, _, _ => none
 | k + 1, x1, x5, x21, Qe, Zx, Q9, Zy, Qf, Qa => if x21 = true then (some 3) else (if x5 = true then (some 0) else (if 0 ≤ x1 then (if x1 < (Q9.length : Int) then ((Qae.f k Qe (rd Q9 x1) (⟨#[]⟩ : ByteArray)).bind fun Q6 => (some Q6)) else (none)) else (none)))
end
def Qag.f (k : Nat) (q5 : Int) (q7 : List Bool) (q3 : List Int) (q4 : List ByteArray) (q6 : List ByteArray) (q2 : List Int) (a1 : Int) : Option (Int) := (Qay.f q5 q7 q3 q4 q6 q2 a1).bind fun q8 => (if q5 = 3 then ((Qax.f q5 q7 q3 q4 q6 q2).bind fun Q7 => (if Q7 = true then (if q8 = true then (if 0 ≤ a1 then (if a1 < (q2.length : Int) then (Qag.j0 k a1 q8 ((rd q2 a1) != 0) q5 q7 q3 q4 q6 q2) else (none)) else (none)) else (Qag.j0 k a1 q8 false q5 q7 q3 q4 q6 q2)) else (if q8 = true then (if 0 ≤ a1 then (if a1 < (q4.length : Int) then (if (rdOf ByteArray.empty q4 a1).toList = ([] : List UInt8) then (some 0) else (some 3)) else (none)) else (none)) else (some 0)))) else (if q8 = true then (if 0 ≤ a1 then (if a1 < (q3.length : Int) then (Qag.j1 k a1 q8 ((rd q3 a1) != 0) q5 q7 q3 q4 q6 q2) else (none)) else (none)) else (Qag.j1 k a1 q8 false q5 q7 q3 q4 q6 q2)))
theorem Qag.mono_l : ∀ k, (∀ y0 y1 y2 y3 y4 y5 y6 y7 y8, LeO (Qag.j0 k y0 y1 y2 y3 y4 y5 y6 y7 y8) (Qag.j0 (k + 1) y0 y1 y2 y3 y4 y5 y6 y7 y8)) ∧ (∀ y0 y1 y2 y3 y4 y5 y6 y7 y8, LeO (Qag.j1 k y0 y1 y2 y3 y4 y5 y6 y7 y8) (Qag.j1 (k + 1) y0 y1 y2 y3 y4 y5 y6 y7 y8))
 | 0 => ⟨fun _ _ _ _ _ _ _ _ _ r h => by simp [Qag.j0] at h, fun _ _ _ _ _ _ _ _ _ r h => by simp [Qag.j1] at h⟩
 | k + 1 => by
  obtain ⟨ih0, ih1⟩ := Qag.mono_l k
  refine ⟨?_, ?_⟩
  ·
   intro y0 y1 y2 y3 y4 y5 y6 y7 y8
   unfold Qag.j0
   repeat' first
   | (with_reducible exact ih0 _ _ _ _ _ _ _ _ _)
   | (with_reducible exact ih1 _ _ _ _ _ _ _ _ _)
   | (with_reducible exact Qae.mono _ _ _ _)
   | (with_reducible exact LeO.refl _)
   | (with_reducible exact LeO.none _)
   | (with_reducible refine LeO.ite ?_ ?_)
   | (with_reducible refine LeO.bind ?_ (fun _ => ?_))
   | exact ih0 _ _ _ _ _ _ _ _ _
   | exact ih1 _ _ _ _ _ _ _ _ _
   | exact Qae.mono _ _ _ _
   | exact LeO.none _
   | refine LeO.ite ?_ ?_
   | refine LeO.bind ?_ (fun _ => ?_)
  ·
   intro y0 y1 y2 y3 y4 y5 y6 y7 y8
   unfold Qag.j1
   repeat' first
   | (with_reducible exact ih0 _ _ _ _ _ _ _ _ _)
   | (with_reducible exact ih1 _ _ _ _ _ _ _ _ _)
   | (with_reducible exact Qae.mono _ _ _ _)
   | (with_reducible exact LeO.refl _)
   | (with_reducible exact LeO.none _)
   | (with_reducible refine LeO.ite ?_ ?_)
   | (with_reducible refine LeO.bind ?_ (fun _ => ?_))
   | exact ih0 _ _ _ _ _ _ _ _ _
   | exact ih1 _ _ _ _ _ _ _ _ _
   | exact Qae.mono _ _ _ _
   | exact LeO.none _
   | refine LeO.ite ?_ ?_
   | refine LeO.bind ?_ (fun _ => ?_)
theorem Qag.mono : ∀ a0 a1 a2 a3 a4 a5 a6 k, LeO (Qag.f k a0 a1 a2 a3 a4 a5 a6) (Qag.f (k + 1) a0 a1 a2 a3 a4 a5 a6) := by
 intro a0 a1 a2 a3 a4 a5 a6 k
 obtain ⟨ih0, ih1⟩ := Qag.mono_l k
 unfold Qag.f
 repeat' first
   | (with_reducible exact ih0 _ _ _ _ _ _ _ _ _)
   | (with_reducible exact ih1 _ _ _ _ _ _ _ _ _)
   | (with_reducible exact Qae.mono _ _ _ _)
   | (with_reducible exact LeO.refl _)
   | (with_reducible exact LeO.none _)
   | (with_reducible refine LeO.ite ?_ ?_)
   | (with_reducible refine LeO.bind ?_ (fun _ => ?_))
   | exact ih0 _ _ _ _ _ _ _ _ _
   | exact ih1 _ _ _ _ _ _ _ _ _
   | exact Qae.mono _ _ _ _
   | exact LeO.none _
   | refine LeO.ite ?_ ?_
   | refine LeO.bind ?_ (fun _ => ?_)
def Qag.T6 : Bool × List (List Nat × List Nat) := (true, [([], []), ([0], [0]), ([], []), ([2], [2]), ([], []), ([3, 4], [3, 4]), ([5], [5]), ([1, 6], [1, 6]), ([7], [7]), ([8, 8, 0, 1, 2, 3, 4, 5, 6, 7, 8], [8])])
def Qag.B6 : List Nat := [0, 1, 0, 4, 0, 28, 60, 127, 255, 511]
theorem Qag.tab6 : rtab .any (opsOf Try.f47 6) = Qag.T6 := by kernel_rfl
theorem Qag.bits6 : waitsOk Qag.T6.2 Qag.B6 = true := by kernel_rfl
def Qag.T11 : Bool × List (List Nat × List Nat) := (true, [([], []), ([0], [0]), ([], []), ([1, 2], [1, 2]), ([3], [3]), ([], []), ([5], [5]), ([6], [6]), ([7], [7]), ([4, 8], [4, 8]), ([9, 9, 0, 1, 2, 3, 4, 5, 6, 7, 8, 9], [9])])
def Qag.B11 : List Nat := [0, 1, 0, 7, 15, 0, 32, 96, 224, 511, 1023]
theorem Qag.tab11 : rtab .any (opsOf Try.f47 11) = Qag.T11 := by kernel_rfl
theorem Qag.bits11 : waitsOk Qag.T11.2 Qag.B11 = true := by kernel_rfl
set_option maxHeartbeats 8000000 in
set_option maxRecDepth 100000 in
theorem Qag.calls (k : Nat) (q5 : Int) (j2 : Option Addr) (j3 : Nat) (q7 : List Bool) (z0 : Option Addr) (j4 : Nat) (q3 : List Int) (j5 : Option Addr) (j6 : Nat) (q4 : List ByteArray) (j7 : Option Addr) (j8 : Nat) (q6 : List ByteArray) (z1 : Option Addr) (j9 : Nat) (q2 : List Int) (a1 : Int) (r : Int) (w : World) (Zk : Kd.C Kd.bool w j2 q7.length q7) (Zl : q7.length ≤ j3) (Zm : Kd.C (Kd.int .i64) w z0 q3.length q3) (Zn : q3.length ≤ j4) (Zo : Kd.C Kd.string w j5 q4.length q4) (Zp : q4.length ≤ j6) (Zq : Kd.C Kd.string w j7 q6.length q6) (Zr : q6.length ≤ j8) (Zs : Kd.C (Kd.int .i64) w z1 q2.length q2) (Zt : q2.length ≤ j9) (h : Qag.f k q5 q7 q3 q4 q6 q2 a1 = some r) :
  Calls Try.prog 47 #[.agg #[.int .i64 q5, .slice j2 q7.length j3, .slice z0 q3.length j4, .slice j5 q4.length j6, .slice j7 q6.length j8, .slice z1 q2.length j9], .int .i64 a1] w fun e w' => e = .returned (.int .i64 r) ∧ Below w.heap.size w w' := by
 have hu39 := Try.underlying39
 have hu41 := Try.underlying41
 have z6 := Qaa.mk Zk
 have z7 := Qaa.mk Zl
 clear Zk Zl
 have z3 := Qaa.mk Zm
 have z8 := Qaa.mk Zn
 clear Zm Zn
 have z4 := Qaa.mk Zo
 have z9 := Qaa.mk Zp
 clear Zo Zp
 have y9 := Qaa.mk Zq
 have Q0 := Qaa.mk Zr
 clear Zq Zr
 have z5 := Qaa.mk Zs
 have Q1 := Qaa.mk Zt
 clear Zs Zt
 have HB := Qaa.mk (Below.refl w.heap.size w)
 have H : ((Qay.f q5 q7 q3 q4 q6 q2 a1).bind fun q8 => (if q5 = 3 then ((Qax.f q5 q7 q3 q4 q6 q2).bind fun Q7 => (if Q7 = true then (if q8 = true then (if 0 ≤ a1 then (if a1 < (q2.length : Int) then (Qag.j0 k a1 q8 ((rd q2 a1) != 0) q5 q7 q3 q4 q6 q2) else (none)) else (none)) else (Qag.j0 k a1 q8 false q5 q7 q3 q4 q6 q2)) else (if q8 = true then (if 0 ≤ a1 then (if a1 < (q4.length : Int) then (if (rdOf ByteArray.empty q4 a1).toList = ([] : List UInt8) then (some 0) else (some 3)) else (none)) else (none)) else (some 0)))) else (if q8 = true then (if 0 ≤ a1 then (if a1 < (q3.length : Int) then (Qag.j1 k a1 q8 ((rd q3 a1) != 0) q5 q7 q3 q4 q6 q2) else (none)) else (none)) else (Qag.j1 k a1 q8 false q5 q7 q3 q4 q6 q2)))) = some r := h
 clear h
 replace H := Option.bind_eq_some_iff.mp H
 obtain ⟨q8, A30, H⟩ := H
 replace H : (if q5 = 3 then ((Qax.f q5 q7 q3 q4 q6 q2).bind fun Q7 => (if Q7 = true then (if q8 = true then (if 0 ≤ a1 then (if a1 < (q2.length : Int) then (Qag.j0 k a1 q8 ((rd q2 a1) != 0) q5 q7 q3 q4 q6 q2) else (none)) else (none)) else (Qag.j0 k a1 q8 false q5 q7 q3 q4 q6 q2)) else (if q8 = true then (if 0 ≤ a1 then (if a1 < (q4.length : Int) then (if (rdOf ByteArray.empty q4 a1).toList = ([] : List UInt8) then (some 0) else (some 3)) else (none)) else (none)) else (some 0)))) else (if q8 = true then (if 0 ≤ a1 then (if a1 < (q3.length : Int) then (Qag.j1 k a1 q8 ((rd q3 a1) != 0) q5 q7 q3 q4 q6 q2) else (none)) else (none)) else (Qag.j1 k a1 q8 false q5 q7 q3 q4 q6 q2))) = some r := H
 have A3 := Qaa.mk A30
 clear A30
 by_cases c4 : q5 = 3
 ·
  rw [if_pos c4] at H
  have Zh : (q5 == 3) = true := beq_iff_eq.mpr c4
  have Zi : (q5 != 3) = false := bne_eq_false_iff_eq.mpr c4
  clear c4
  replace H := Option.bind_eq_some_iff.mp H
  obtain ⟨Q7, A50, H⟩ := H
  replace H : (if Q7 = true then (if q8 = true then (if 0 ≤ a1 then (if a1 < (q2.length : Int) then (Qag.j0 k a1 q8 ((rd q2 a1) != 0) q5 q7 q3 q4 q6 q2) else (none)) else (none)) else (Qag.j0 k a1 q8 false q5 q7 q3 q4 q6 q2)) else (if q8 = true then (if 0 ≤ a1 then (if a1 < (q4.length : Int) then (if (rdOf ByteArray.empty q4 a1).toList = ([] : List UInt8) then (some 0) else (some 3)) else (none)) else (none)) else (some 0))) = some r := H
  have A5 := Qaa.mk A50
  clear A50
  by_cases c6 : Q7 = true
  ·
   subst c6
   have H1 : (if q8 = true then (if 0 ≤ a1 then (if a1 < (q2.length : Int) then (Qag.j0 k a1 q8 ((rd q2 a1) != 0) q5 q7 q3 q4 q6 q2) else (none)) else (none)) else (Qag.j0 k a1 q8 false q5 q7 q3 q4 q6 q2)) = some r := by rw [if_pos rfl] at H; exact H
   clear H
   have H := H1
   clear H1
   have Wn := Qaa.mk H
   clear H
   go_enter Try.func47, Try.ntmps47
   go_upto_region 8 with (first | ((with_reducible refine gate_dst (N := 2) rfl ?_); refine bx 2 #[.int .i64 q5, .slice j2 q7.length j3, .slice z0 q3.length j4, .slice j5 q4.length j6, .slice j7 q6.length j8, .slice z1 q2.length j9] 39 ?_; intro q9 hg w8 hbox hb; have q0 := Qaa.mk (hbox); have Qb := Qaa.mk ((by rw [hg]; exact (below_size (bl HB)) : w.heap.size ≤ q9)); have Qc := Qaa.mk ((by rw [hg]; exact (below_size (bl HB)) : w.heap.size ≤ q9)); replace HB := bs HB hb; clear hb hbox hg; obtain ⟨Z5, Z6, Z7, Z8, Z9, Za, Zb, Zc, Zd, Ze, Zf, Zg⟩ := cf6 q0) | ((with_reducible refine gate_callee (f := 48) rfl ?_); refine gL (some 8) Try.func48 #[.agg #[.int .i64 q5, .slice j2 q7.length j3, .slice z0 q3.length j4, .slice j5 q4.length j6, .slice j7 q6.length j8, .slice z1 q2.length j9], .int .i64 a1] ?_; (with_reducible refine (Qay.calls q5 _ _ q7 _ _ q3 _ _ q4 _ _ q6 _ _ q2 a1 q8 _ ?side1 ?side2 ?side3 ?side4 ?side5 ?side6 ?side7 ?side8 ?side9 ?side10 A3.out).mono ?_); (case side1 => exact Cb z6 HB); (case side2 => exact z7.out); (case side3 => exact Cb z3 HB); (case side4 => exact z8.out); (case side5 => exact Cb z4 HB); (case side6 => exact z9.out); (case side7 => exact Cb y9 HB); (case side8 => exact Q0.out); (case side9 => exact Cb z5 HB); (case side10 => exact Q1.out); rintro e w10 ⟨rfl, hb⟩; refine ⟨_, rfl, ?_⟩; replace q0 := Bb q0 hb; replace HB := bs HB hb; (try clear hb); obtain ⟨Qg, Qh, Qi, Qj, Qk, Ql, Qm, Qn, Qo, Qp, Qq, Qr⟩ := cf6 q0) | ((with_reducible refine gate_callee (f := 36) rfl ?_); refine gL (some 35) Try.func36 #[.agg #[.int .i64 q5, .slice j2 q7.length j3, .slice z0 q3.length j4, .slice j5 q4.length j6, .slice j7 q6.length j8, .slice z1 q2.length j9]] ?_; (with_reducible refine (Qax.calls q5 _ _ q7 _ _ q3 _ _ q4 _ _ q6 _ _ q2 true _ ?side1 ?side2 ?side3 ?side4 ?side5 ?side6 ?side7 ?side8 ?side9 ?side10 A5.out).mono ?_); (case side1 => exact Cb z6 HB); (case side2 => exact z7.out); (case side3 => exact Cb z3 HB); (case side4 => exact z8.out); (case side5 => exact Cb z4 HB); (case side6 => exact z9.out); (case side7 => exact Cb y9 HB); (case side8 => exact Q0.out); (case side9 => exact Cb z5 HB); (case side10 => exact Q1.out); rintro e w12 ⟨rfl, hb⟩; refine ⟨_, rfl, ?_⟩; replace q0 := Bb q0 hb; replace HB := bs HB hb; (try clear hb)))
   (try simp only [Act.put, List.setIfInBounds_toArray, List.set_cons_zero, List.set_cons_succ])
   go_cut [44] (fun v44 wc => ∃ (kq : Nat) (x44_6 : Bool), v44 = .bool x44_6 ∧ Qaa (Qag.j0 kq a1 q8 x44_6 q5 q7 q3 q4 q6 q2 = some r) ∧ Qaa (kq ≤ k) ∧ Qaa (wc.heap[q9]? = some (.cells #[.int .i64 q5, (.slice j2 q7.length j3), (.slice z0 q3.length j4), (.slice j5 q4.length j6), (.slice j7 q6.length j8), (.slice z1 q2.length j9)] 39 (0, 0))) ∧ Qaa (Below w.heap.size w wc))
   case first =>
    have H := Wn.out
    clear Wn
    by_cases c13 : q8 = true
    ·
     subst c13
     have H1 : (if 0 ≤ a1 then (if a1 < (q2.length : Int) then (Qag.j0 k a1 true ((rd q2 a1) != 0) q5 q7 q3 q4 q6 q2) else (none)) else (none)) = some r := by rw [if_pos rfl] at H; exact H
     clear H
     have H := H1
     clear H1
     by_cases c14 : 0 ≤ a1
     ·
      rw [if_pos c14] at H
      have Qd : decide (0 ≤ a1) = true := decide_eq_true c14
      clear c14
      (first | rw [Qd] | (simp only [i64_w, i32_w]; rw [Qd]) | skip)
      by_cases c15 : a1 < (q2.length : Int)
      ·
       rw [if_pos c15] at H
       have Zu : decide (a1 < (q2.length : Int)) = true := decide_eq_true c15
       clear c15
       have H' := Qaa.mk H
       clear H
       obtain ⟨Qs, Qt, Qu, Qv, Qw, Qx, Qy, Qz, Z0, Z1, Z2, Z3⟩ := cf6 q0
       have p122 : 0 ≤ (a1 : Int) := of_decide_eq_true (by first | (with_reducible assumption) | assumption)
       have q122 : a1 < (q2.length : Int) := of_decide_eq_true (by first | (with_reducible assumption) | assumption)
       obtain ⟨ad122, e122, Q3⟩ := Kd.at_int z5.out a1 p122 q122
       cases e122
       replace Q3 := (HB.out.cell (World.block_lt_of_cell? w _ Q3)).trans Q3
       replace p122 := eq_true p122
       replace q122 := eq_true q122
       go_wp2
       go_meet
       case rel => exact ⟨_, (((rd q2 a1) != 0)), (by first | rfl | (simp; done) | (simp [*]; done)), H', ⟨by first | omega | exact Nat.le_refl _⟩, ⟨by apply blk_u; exact q0.out⟩, ⟨bl HB⟩⟩
      ·
       rw [if_neg c15] at H
       exact absurd H (by simp)
     ·
      rw [if_neg c14] at H
      exact absurd H (by simp)
    ·
     replace c13 := Bool.eq_false_iff.mpr c13
     subst c13
     have H1 : (Qag.j0 k a1 false false q5 q7 q3 q4 q6 q2) = some r := by rw [if_neg (show ¬ (false = true) by decide)] at H; exact H
     clear H
     have H := H1
     clear H1
     have H' := Qaa.mk H
     clear H
     go_wp2
     go_meet
     case rel => exact ⟨_, (false), (by first | rfl | (simp; done) | (simp [*]; done)), H', ⟨by first | omega | exact Nat.le_refl _⟩, ⟨by apply blk_u; exact q0.out⟩, ⟨bl HB⟩⟩
   case rest =>
    clear Wn
    try clear c1
    try clear p1
    try clear q1
    try clear hx1
    try clear p2
    try clear c3
    try clear c4
    try clear Zh
    try clear Zi
    try clear c6
    try clear p12
    try clear q12
    try clear hx12
    try clear c13
    try clear c14
    try clear Qd
    try clear c15
    try clear Zu
    try clear Qg
    try clear Qh
    try clear Qi
    try clear Qj
    try clear Qk
    try clear Ql
    try clear Qs
    try clear Qt
    try clear Qu
    try clear Qv
    try clear Qw
    try clear Qx
    try clear Z5
    try clear Z6
    try clear Z7
    try clear Z8
    try clear Z9
    try clear Za
    try clear Qm
    try clear Qn
    try clear Qo
    try clear Qp
    try clear Qq
    try clear Qr
    try clear Qy
    try clear Qz
    try clear Z0
    try clear Z1
    try clear Z2
    try clear Z3
    try clear Zb
    try clear Zc
    try clear Zd
    try clear Ze
    try clear Zf
    try clear Zg
    try clear Q3
    try clear p122
    try clear q122
    obtain ⟨kq, x44_6, rfl, HA, HJ6, q0, HB⟩ := hcut
    cases kq with
    | zero => exact absurd HA.out (by simp [Qag.j0])
    | succ kj6 =>
     have H := HA.out
     clear HA
     simp only [Qag.j0] at H
     by_cases c17 : x44_6 = true
     ·
      subst c17
      have H1 : (some 3) = some r := by rw [if_pos rfl] at H; exact H
      clear H
      have H := H1
      clear H1
      obtain rfl := Option.some.inj H
      go_wp2
      go_ret
      exact ⟨by first | rfl | (simp [errW_none, errW_some] <;> rfl) | (simp [*, errW_none, errW_some] <;> rfl), bl HB⟩
     ·
      replace c17 := Bool.eq_false_iff.mpr c17
      subst c17
      have H1 : (if q8 = true then (some 0) else (if 0 ≤ a1 then (if a1 < (q2.length : Int) then ((Qaz.f (rd q2 a1) 0 (wrap64 ((q6.length : Int) - 1))).bind fun Q5 => (some Q5)) else (none)) else (none))) = some r := by rw [if_neg (show ¬ (false = true) by decide)] at H; exact H
      clear H
      have H := H1
      clear H1
      by_cases c18 : q8 = true
      ·
       subst c18
       have H1 : (some 0) = some r := by rw [if_pos rfl] at H; exact H
       clear H
       have H := H1
       clear H1
       obtain rfl := Option.some.inj H
       go_wp2
       go_ret
       exact ⟨by first | rfl | (simp [errW_none, errW_some] <;> rfl) | (simp [*, errW_none, errW_some] <;> rfl), bl HB⟩
      ·
       replace c18 := Bool.eq_false_iff.mpr c18
       subst c18
       have H1 : (if 0 ≤ a1 then (if a1 < (q2.length : Int) then ((Qaz.f (rd q2 a1) 0 (wrap64 ((q6.length : Int) - 1))).bind fun Q5 => (some Q5)) else (none)) else (none)) = some r := by rw [if_neg (show ¬ (false = true) by decide)] at H; exact H
       clear H
       have H := H1
       clear H1
       by_cases c19 : 0 ≤ a1
       ·
        rw [if_pos c19] at H
        have Wq : decide (0 ≤ a1) = true := decide_eq_true c19
        clear c19
        by_cases c20 : a1 < (q2.length : Int)
        ·
         rw [if_pos c20] at H
         have Wr : decide (a1 < (q2.length : Int)) = true := decide_eq_true c20
         clear c20
         replace H := Option.bind_eq_some_iff.mp H
         obtain ⟨Q5, Wo, H⟩ := H
         replace H : (some Q5) = some r := H
         have A21 := Qaa.mk Wo
         clear Wo
         obtain rfl := Option.some.inj H
         try go_wp2
         replace q0 := Qaa.mk (blk_drew q0.out)
         replace HB := Qaa.mk (below_drew1 HB.out)
         have p123 : 0 ≤ (a1 : Int) := of_decide_eq_true (by first | (with_reducible assumption) | assumption)
         have q123 : a1 < (q2.length : Int) := of_decide_eq_true (by first | (with_reducible assumption) | assumption)
         obtain ⟨ad123, e123, Q2⟩ := Kd.at_int z5.out a1 p123 q123
         have hw123_0 := Q2
         cases e123
         replace Q2 := (HB.out.cell (World.block_lt_of_cell? w _ Q2)).trans Q2
         replace p123 := eq_true p123
         replace q123 := eq_true q123
         refine start_ (n := 11) (S := fun w' => w'.cell? ⟨q9, 0, none⟩ = some (.int .i64 q5) ∧ w'.cell? ⟨q9, 1, none⟩ = some (.slice j2 q7.length j3) ∧ w'.cell? ⟨q9, 2, none⟩ = some (.slice z0 q3.length j4) ∧ w'.cell? ⟨q9, 3, none⟩ = some (.slice j5 q4.length j6) ∧ w'.cell? ⟨q9, 4, none⟩ = some (.slice j7 q6.length j8) ∧ w'.cell? ⟨q9, 5, none⟩ = some (.slice (some ad123) q2.length j9) ∧ w'.cell? (ad123.add (a1).toNat) = some (.int .i64 (rd q2 a1))) (ds := []) #[false, false, false, false, false, false, false, false, false, false, false] (by kernel_rfl) rfl rfl ⟨(blk_cell q0.out 0).trans rfl, (blk_cell q0.out 1).trans rfl, (blk_cell q0.out 2).trans rfl, (blk_cell q0.out 3).trans rfl, (blk_cell q0.out 4).trans rfl, (blk_cell q0.out 5).trans rfl, ((HB.out.cell (World.block_lt_of_cell? w _ hw123_0)).trans hw123_0)⟩ (fun hHeld => ?_); refine with_tabW Qag.tab11 Qag.bits11 (fun HT_ HW_ => ?_)
         generalize wc.drew = w22 at q0 HB Q2 hHeld ⊢
         refine pure_ (i := 0) (N := some 47) (v := ?_) (a' := ?_) #[true, false, false, false, false, false, false, false, false, false, false] rfl rfl (any_of HT_.out (by kernel_rfl)) (fun _ _ _ h => h) (Or.inl ⟨by rfl, ?_⟩) ?_ ?_
         rotate_left
         ·
          intro w'
          go_simp
          with_reducible rfl
         rotate_left
         ·
          simp only [Act.put, List.setIfInBounds_toArray, List.set_cons_zero, List.set_cons_succ, i64_w, i32_w]
          rfl
         refine pure_ (i := 2) (N := some 49) (v := ?_) (a' := ?_) #[true, false, true, false, false, false, false, false, false, false, false] rfl rfl (any_of HT_.out (by kernel_rfl)) (fun _ _ _ h => h) (Or.inl ⟨by rfl, ?_⟩) ?_ ?_
         rotate_left
         ·
          intro w'
          go_simp
          with_reducible rfl
         rotate_left
         ·
          simp only [Act.put, List.setIfInBounds_toArray, List.set_cons_zero, List.set_cons_succ, i64_w, i32_w]
          rfl
         refine pure_ (i := 5) (N := some 52) (v := ?_) (a' := ?_) #[true, false, true, false, false, true, false, false, false, false, false] rfl rfl (any_of HT_.out (by kernel_rfl)) (fun _ _ _ h => h) (Or.inl ⟨by rfl, ?_⟩) ?_ ?_
         rotate_left
         ·
          intro w'
          go_simp
          with_reducible rfl
         rotate_left
         ·
          simp only [Act.put, List.setIfInBounds_toArray, List.set_cons_zero, List.set_cons_succ, i64_w, i32_w]
          rfl
         refine take_ (i := 1) (N := some 48) (v := ?_) (a' := ?_) #[true, true, true, false, false, true, false, false, false, false, false] rfl rfl (take_ofW HT_.out HW_.out (by kernel_rfl)) (fun _ _ _ h => h) (Or.inl ⟨by rfl, ?_⟩) hHeld ?_ ?_
         rotate_left
         ·
          rintro w' ⟨s0, s1, s2, s3, s4, s5, s6⟩
          go_simp
          with_reducible rfl
         rotate_left
         ·
          simp only [Act.put, List.setIfInBounds_toArray, List.set_cons_zero, List.set_cons_succ, i64_w, i32_w]
          rfl
         refine pure_ (i := 3) (N := some 50) (v := ?_) (a' := ?_) #[true, true, true, true, false, true, false, false, false, false, false] rfl rfl (any_of HT_.out (by kernel_rfl)) (fun _ _ _ h => h) (Or.inl ⟨by rfl, ?_⟩) ?_ ?_
         rotate_left
         ·
          intro w'
          go_simp
          with_reducible rfl
         rotate_left
         ·
          simp only [Act.put, List.setIfInBounds_toArray, List.set_cons_zero, List.set_cons_succ, i64_w, i32_w]
          rfl
         refine take_ (i := 4) (N := some 51) (v := ?_) (a' := ?_) #[true, true, true, true, true, true, false, false, false, false, false] rfl rfl (take_ofW HT_.out HW_.out (by kernel_rfl)) (fun _ _ _ h => h) (Or.inl ⟨by rfl, ?_⟩) hHeld ?_ ?_
         rotate_left
         ·
          rintro w' ⟨s0, s1, s2, s3, s4, s5, s6⟩
          go_simp
          with_reducible rfl
         rotate_left
         ·
          simp only [Act.put, List.setIfInBounds_toArray, List.set_cons_zero, List.set_cons_succ, i64_w, i32_w]
          rfl
         refine take_ (i := 6) (N := some 53) (v := ?_) (a' := ?_) #[true, true, true, true, true, true, true, false, false, false, false] rfl rfl (take_ofW HT_.out HW_.out (by kernel_rfl)) (fun _ _ _ h => h) (Or.inl ⟨by rfl, ?_⟩) hHeld ?_ ?_
         rotate_left
         ·
          rintro w' ⟨s0, s1, s2, s3, s4, s5, s6⟩
          go_simp
          with_reducible rfl
         rotate_left
         ·
          simp only [Act.put, List.setIfInBounds_toArray, List.set_cons_zero, List.set_cons_succ, i64_w, i32_w]
          rfl
         refine pure_ (i := 7) (N := some 54) (v := ?_) (a' := ?_) #[true, true, true, true, true, true, true, true, false, false, false] rfl rfl (any_of HT_.out (by kernel_rfl)) (fun _ _ _ h => h) (Or.inl ⟨by rfl, ?_⟩) ?_ ?_
         rotate_left
         ·
          intro w'
          go_simp
          with_reducible rfl
         rotate_left
         ·
          simp only [Act.put, List.setIfInBounds_toArray, List.set_cons_zero, List.set_cons_succ, i64_w, i32_w]
          rfl
         refine pure_ (i := 8) (N := some 55) (v := ?_) (a' := ?_) #[true, true, true, true, true, true, true, true, true, false, false] rfl rfl (any_of HT_.out (by kernel_rfl)) (fun _ _ _ h => h) (Or.inl ⟨by rfl, ?_⟩) ?_ ?_
         rotate_left
         ·
          intro w'
          go_simp
          with_reducible rfl
         rotate_left
         ·
          simp only [Act.put, List.setIfInBounds_toArray, List.set_cons_zero, List.set_cons_succ, i64_w, i32_w]
          rfl
         refine one_ (i := 9) (N := some 56) #[true, true, true, true, true, true, true, true, true, true, false] rfl rfl (one_of HT_.out (by kernel_rfl)) (by decide) (fun K hK => ?_)
         refine goes_ Try.func62 (by kernel_rfl) rfl #[.int .i64 (rd q2 a1), .int .i64 0, .int .i64 (wrap64 ((q6.length : Int) - 1))] (by rfl) rfl rfl (by (try simp only [List.map_toArray, List.map_cons, List.map_nil]); first | done | rfl | (simp only [List.length_drop, List.length_take]; rfl)) ?_
         with_reducible refine (Qaz.calls (rd q2 a1) 0 (wrap64 ((q6.length : Int) - 1)) Q5 _ A21.out).mono ?_
         rintro e w' ⟨rfl, ⟨nd, rfl⟩⟩
         refine ⟨_, rfl, ?_⟩
         refine hK.out _ _ ⟨(blk_cell q0.out 0).trans rfl, (blk_cell q0.out 1).trans rfl, (blk_cell q0.out 2).trans rfl, (blk_cell q0.out 3).trans rfl, (blk_cell q0.out 4).trans rfl, (blk_cell q0.out 5).trans rfl, ((HB.out.cell (World.block_lt_of_cell? w _ hw123_0)).trans hw123_0)⟩ (fun hHeld => ?_)
         clear hK K
         refine norm_ (a' := ?_) ?_ ?_
         rotate_left
         ·
          show Act.put _ (some 56) _ = _
          simp only [Act.put, List.setIfInBounds_toArray, List.set_cons_zero, List.set_cons_succ, i64_w, i32_w]
          rfl
         refine pure_ (i := 10) (N := some 4) (v := ?_) (a' := ?_) #[true, true, true, true, true, true, true, true, true, true, true] rfl rfl (any_of HT_.out (by kernel_rfl)) (fun _ _ _ h => h) (Or.inl ⟨by rfl, ?_⟩) ?_ ?_
         rotate_left
         ·
          intro w'
          go_simp
          with_reducible rfl
         rotate_left
         ·
          simp only [Act.put, List.setIfInBounds_toArray, List.set_cons_zero, List.set_cons_succ, i64_w, i32_w]
          rfl
         refine done_ (done_of HT_.out (by kernel_rfl)) ?_
         try go_wp2
         go_ret
         exact ⟨by first | rfl | (simp [errW_none, errW_some] <;> rfl) | (simp [*, errW_none, errW_some] <;> rfl), bl HB⟩
        ·
         rw [if_neg c20] at H
         exact absurd H (by simp)
       ·
        rw [if_neg c19] at H
        exact absurd H (by simp)
  ·
   replace c6 := Bool.eq_false_iff.mpr c6
   subst c6
   have H1 : (if q8 = true then (if 0 ≤ a1 then (if a1 < (q4.length : Int) then (if (rdOf ByteArray.empty q4 a1).toList = ([] : List UInt8) then (some 0) else (some 3)) else (none)) else (none)) else (some 0)) = some r := by rw [if_neg (show ¬ (false = true) by decide)] at H; exact H
   clear H
   have H := H1
   clear H1
   by_cases c23 : q8 = true
   ·
    subst c23
    have H1 : (if 0 ≤ a1 then (if a1 < (q4.length : Int) then (if (rdOf ByteArray.empty q4 a1).toList = ([] : List UInt8) then (some 0) else (some 3)) else (none)) else (none)) = some r := by rw [if_pos rfl] at H; exact H
    clear H
    have H := H1
    clear H1
    by_cases c24 : 0 ≤ a1
    ·
     rw [if_pos c24] at H
     have Ws : decide (0 ≤ a1) = true := decide_eq_true c24
     clear c24
     by_cases c25 : a1 < (q4.length : Int)
     ·
      rw [if_pos c25] at H
      have Wt : decide (a1 < (q4.length : Int)) = true := decide_eq_true c25
      clear c25
      by_cases c26 : (rdOf ByteArray.empty q4 a1).toList = ([] : List UInt8)
      ·
       rw [if_pos c26] at H
       have Zv : ((rdOf ByteArray.empty q4 a1).toList == ([] : List UInt8)) = true := beq_iff_eq.mpr c26
       have Zw : ((rdOf ByteArray.empty q4 a1).toList != ([] : List UInt8)) = false := bne_eq_false_iff_eq.mpr c26
       clear c26
       obtain rfl := Option.some.inj H
       go_enter Try.func47, Try.ntmps47
       go_wp2_with (first | ((with_reducible refine gate_dst (N := 2) rfl ?_); refine bx 2 #[.int .i64 q5, .slice j2 q7.length j3, .slice z0 q3.length j4, .slice j5 q4.length j6, .slice j7 q6.length j8, .slice z1 q2.length j9] 39 ?_; intro q9 hg w27 hbox hb; have q0 := Qaa.mk (hbox); have Qb := Qaa.mk ((by rw [hg]; exact (below_size (bl HB)) : w.heap.size ≤ q9)); have Qc := Qaa.mk ((by rw [hg]; exact (below_size (bl HB)) : w.heap.size ≤ q9)); replace HB := bs HB hb; clear hb hbox hg; obtain ⟨Zz, J0, J1, J2, J3, J4, J5, J6, J7, J8, J9, Ja⟩ := cf6 q0) | ((with_reducible refine gate_callee (f := 48) rfl ?_); refine gL (some 8) Try.func48 #[.agg #[.int .i64 q5, .slice j2 q7.length j3, .slice z0 q3.length j4, .slice j5 q4.length j6, .slice j7 q6.length j8, .slice z1 q2.length j9], .int .i64 a1] ?_; (with_reducible refine (Qay.calls q5 _ _ q7 _ _ q3 _ _ q4 _ _ q6 _ _ q2 a1 true _ ?side1 ?side2 ?side3 ?side4 ?side5 ?side6 ?side7 ?side8 ?side9 ?side10 A3.out).mono ?_); (case side1 => exact Cb z6 HB); (case side2 => exact z7.out); (case side3 => exact Cb z3 HB); (case side4 => exact z8.out); (case side5 => exact Cb z4 HB); (case side6 => exact z9.out); (case side7 => exact Cb y9 HB); (case side8 => exact Q0.out); (case side9 => exact Cb z5 HB); (case side10 => exact Q1.out); rintro e w29 ⟨rfl, hb⟩; refine ⟨_, rfl, ?_⟩; replace q0 := Bb q0 hb; replace HB := bs HB hb; (try clear hb); obtain ⟨Jb, Jc, Jd, Je, Jf, Jg, Jh, Ji, Jj, Jk, Jl, Jm⟩ := cf6 q0) | ((with_reducible refine gate_callee (f := 36) rfl ?_); refine gL (some 35) Try.func36 #[.agg #[.int .i64 q5, .slice j2 q7.length j3, .slice z0 q3.length j4, .slice j5 q4.length j6, .slice j7 q6.length j8, .slice z1 q2.length j9]] ?_; (with_reducible refine (Qax.calls q5 _ _ q7 _ _ q3 _ _ q4 _ _ q6 _ _ q2 false _ ?side1 ?side2 ?side3 ?side4 ?side5 ?side6 ?side7 ?side8 ?side9 ?side10 A5.out).mono ?_); (case side1 => exact Cb z6 HB); (case side2 => exact z7.out); (case side3 => exact Cb z3 HB); (case side4 => exact z8.out); (case side5 => exact Cb z4 HB); (case side6 => exact z9.out); (case side7 => exact Cb y9 HB); (case side8 => exact Q0.out); (case side9 => exact Cb z5 HB); (case side10 => exact Q1.out); rintro e w31 ⟨rfl, hb⟩; refine ⟨_, rfl, ?_⟩; replace q0 := Bb q0 hb; replace HB := bs HB hb; (try clear hb); obtain ⟨Jn, Jo, Jp, Jq, Jr, Js, Jt, Ju, Jv, Jw, Jx, Jy⟩ := cf6 q0; have p125 : 0 ≤ (a1 : Int) := of_decide_eq_true (by first | (with_reducible assumption) | assumption); have q125 : a1 < (q4.length : Int) := of_decide_eq_true (by first | (with_reducible assumption) | assumption); obtain ⟨ad125, e125, z2⟩ := Kd.at_string z4.out a1 p125 q125; cases e125; replace z2 := (HB.out.cell (World.block_lt_of_cell? w _ z2)).trans z2; replace p125 := eq_true p125; replace q125 := eq_true q125))
       go_ret
       exact ⟨by first | rfl | (simp [errW_none, errW_some] <;> rfl) | (simp [*, errW_none, errW_some] <;> rfl), bl HB⟩
      ·
       rw [if_neg c26] at H
       have Zv : ((rdOf ByteArray.empty q4 a1).toList == ([] : List UInt8)) = false := beq_eq_false_iff_ne.mpr c26
       have Zw : ((rdOf ByteArray.empty q4 a1).toList != ([] : List UInt8)) = true := bne_iff_ne.mpr c26
       obtain rfl := Option.some.inj H
       go_enter Try.func47, Try.ntmps47
       go_wp2_with (first | ((with_reducible refine gate_dst (N := 2) rfl ?_); refine bx 2 #[.int .i64 q5, .slice j2 q7.length j3, .slice z0 q3.length j4, .slice j5 q4.length j6, .slice j7 q6.length j8, .slice z1 q2.length j9] 39 ?_; intro q9 hg w33 hbox hb; have q0 := Qaa.mk (hbox); have Qb := Qaa.mk ((by rw [hg]; exact (below_size (bl HB)) : w.heap.size ≤ q9)); have Qc := Qaa.mk ((by rw [hg]; exact (below_size (bl HB)) : w.heap.size ≤ q9)); replace HB := bs HB hb; clear hb hbox hg; obtain ⟨Jz, Y0, Y1, Y2, Y3, Y4, Y5, Y6, Y7, Y8, Y9, Ya⟩ := cf6 q0) | ((with_reducible refine gate_callee (f := 48) rfl ?_); refine gL (some 8) Try.func48 #[.agg #[.int .i64 q5, .slice j2 q7.length j3, .slice z0 q3.length j4, .slice j5 q4.length j6, .slice j7 q6.length j8, .slice z1 q2.length j9], .int .i64 a1] ?_; (with_reducible refine (Qay.calls q5 _ _ q7 _ _ q3 _ _ q4 _ _ q6 _ _ q2 a1 true _ ?side1 ?side2 ?side3 ?side4 ?side5 ?side6 ?side7 ?side8 ?side9 ?side10 A3.out).mono ?_); (case side1 => exact Cb z6 HB); (case side2 => exact z7.out); (case side3 => exact Cb z3 HB); (case side4 => exact z8.out); (case side5 => exact Cb z4 HB); (case side6 => exact z9.out); (case side7 => exact Cb y9 HB); (case side8 => exact Q0.out); (case side9 => exact Cb z5 HB); (case side10 => exact Q1.out); rintro e w35 ⟨rfl, hb⟩; refine ⟨_, rfl, ?_⟩; replace q0 := Bb q0 hb; replace HB := bs HB hb; (try clear hb); obtain ⟨Yb, Yc, Yd, Ye, Yf, Yg, Yh, Yi, Yj, Yk, Yl, Ym⟩ := cf6 q0) | ((with_reducible refine gate_callee (f := 36) rfl ?_); refine gL (some 35) Try.func36 #[.agg #[.int .i64 q5, .slice j2 q7.length j3, .slice z0 q3.length j4, .slice j5 q4.length j6, .slice j7 q6.length j8, .slice z1 q2.length j9]] ?_; (with_reducible refine (Qax.calls q5 _ _ q7 _ _ q3 _ _ q4 _ _ q6 _ _ q2 false _ ?side1 ?side2 ?side3 ?side4 ?side5 ?side6 ?side7 ?side8 ?side9 ?side10 A5.out).mono ?_); (case side1 => exact Cb z6 HB); (case side2 => exact z7.out); (case side3 => exact Cb z3 HB); (case side4 => exact z8.out); (case side5 => exact Cb z4 HB); (case side6 => exact z9.out); (case side7 => exact Cb y9 HB); (case side8 => exact Q0.out); (case side9 => exact Cb z5 HB); (case side10 => exact Q1.out); rintro e w37 ⟨rfl, hb⟩; refine ⟨_, rfl, ?_⟩; replace q0 := Bb q0 hb; replace HB := bs HB hb; (try clear hb); obtain ⟨Yn, Yo, Yp, Yq, Yr, Ys, Yt, Yu, Yv, Yw, Yx, Yy⟩ := cf6 q0; have p125 : 0 ≤ (a1 : Int) := of_decide_eq_true (by first | (with_reducible assumption) | assumption); have q125 : a1 < (q4.length : Int) := of_decide_eq_true (by first | (with_reducible assumption) | assumption); obtain ⟨ad125, e125, z2⟩ := Kd.at_string z4.out a1 p125 q125; cases e125; replace z2 := (HB.out.cell (World.block_lt_of_cell? w _ z2)).trans z2; replace p125 := eq_true p125; replace q125 := eq_true q125))
       go_ret
       exact ⟨by first | rfl | (simp [errW_none, errW_some] <;> rfl) | (simp [*, errW_none, errW_some] <;> rfl), bl HB⟩
     ·
      rw [if_neg c25] at H
      exact absurd H (by simp)
    ·
     rw [if_neg c24] at H
     exact absurd H (by simp)
   ·
    replace c23 := Bool.eq_false_iff.mpr c23
    subst c23
    have H1 : (some 0) = some r := by rw [if_neg (show ¬ (false = true) by decide)] at H; exact H
    clear H
    have H := H1
    clear H1
    obtain rfl := Option.some.inj H
    go_enter Try.func47, Try.ntmps47
    go_wp2_with (first | ((with_reducible refine gate_dst (N := 2) rfl ?_); refine bx 2 #[.int .i64 q5, .slice j2 q7.length j3, .slice z0 q3.length j4, .slice j5 q4.length j6, .slice j7 q6.length j8, .slice z1 q2.length j9] 39 ?_; intro q9 hg w39 hbox hb; have q0 := Qaa.mk (hbox); have Qb := Qaa.mk ((by rw [hg]; exact (below_size (bl HB)) : w.heap.size ≤ q9)); have Qc := Qaa.mk ((by rw [hg]; exact (below_size (bl HB)) : w.heap.size ≤ q9)); replace HB := bs HB hb; clear hb hbox hg; obtain ⟨Yz, X0, X1, X2, X3, X4, X5, X6, X7, X8, X9, Xa⟩ := cf6 q0) | ((with_reducible refine gate_callee (f := 48) rfl ?_); refine gL (some 8) Try.func48 #[.agg #[.int .i64 q5, .slice j2 q7.length j3, .slice z0 q3.length j4, .slice j5 q4.length j6, .slice j7 q6.length j8, .slice z1 q2.length j9], .int .i64 a1] ?_; (with_reducible refine (Qay.calls q5 _ _ q7 _ _ q3 _ _ q4 _ _ q6 _ _ q2 a1 false _ ?side1 ?side2 ?side3 ?side4 ?side5 ?side6 ?side7 ?side8 ?side9 ?side10 A3.out).mono ?_); (case side1 => exact Cb z6 HB); (case side2 => exact z7.out); (case side3 => exact Cb z3 HB); (case side4 => exact z8.out); (case side5 => exact Cb z4 HB); (case side6 => exact z9.out); (case side7 => exact Cb y9 HB); (case side8 => exact Q0.out); (case side9 => exact Cb z5 HB); (case side10 => exact Q1.out); rintro e w41 ⟨rfl, hb⟩; refine ⟨_, rfl, ?_⟩; replace q0 := Bb q0 hb; replace HB := bs HB hb; (try clear hb); obtain ⟨Xb, Xc, Xd, Xe, Xf, Xg, Xh, Xi, Xj, Xk, Xl, Xm⟩ := cf6 q0) | ((with_reducible refine gate_callee (f := 36) rfl ?_); refine gL (some 35) Try.func36 #[.agg #[.int .i64 q5, .slice j2 q7.length j3, .slice z0 q3.length j4, .slice j5 q4.length j6, .slice j7 q6.length j8, .slice z1 q2.length j9]] ?_; (with_reducible refine (Qax.calls q5 _ _ q7 _ _ q3 _ _ q4 _ _ q6 _ _ q2 false _ ?side1 ?side2 ?side3 ?side4 ?side5 ?side6 ?side7 ?side8 ?side9 ?side10 A5.out).mono ?_); (case side1 => exact Cb z6 HB); (case side2 => exact z7.out); (case side3 => exact Cb z3 HB); (case side4 => exact z8.out); (case side5 => exact Cb z4 HB); (case side6 => exact z9.out); (case side7 => exact Cb y9 HB); (case side8 => exact Q0.out); (case side9 => exact Cb z5 HB); (case side10 => exact Q1.out); rintro e w43 ⟨rfl, hb⟩; refine ⟨_, rfl, ?_⟩; replace q0 := Bb q0 hb; replace HB := bs HB hb; (try clear hb)))
    go_ret
    exact ⟨by first | rfl | (simp [errW_none, errW_some] <;> rfl) | (simp [*, errW_none, errW_some] <;> rfl), bl HB⟩
 ·
  rw [if_neg c4] at H
  have Zh : (q5 == 3) = false := beq_eq_false_iff_ne.mpr c4
  have Zi : (q5 != 3) = true := bne_iff_ne.mpr c4
  have Zj := Qaa.mk H
  clear H
  go_enter Try.func47, Try.ntmps47
  go_upto_region 3 with (first | ((with_reducible refine gate_dst (N := 2) rfl ?_); refine bx 2 #[.int .i64 q5, .slice j2 q7.length j3, .slice z0 q3.length j4, .slice j5 q4.length j6, .slice j7 q6.length j8, .slice z1 q2.length j9] 39 ?_; intro q9 hg w45 hbox hb; have q0 := Qaa.mk (hbox); have Qb := Qaa.mk ((by rw [hg]; exact (below_size (bl HB)) : w.heap.size ≤ q9)); have Qc := Qaa.mk ((by rw [hg]; exact (below_size (bl HB)) : w.heap.size ≤ q9)); replace HB := bs HB hb; clear hb hbox hg; obtain ⟨Xn, Xo, Xp, Xq, Xr, Xs, Xt, Xu, Xv, Xw, Xx, Xy⟩ := cf6 q0) | ((with_reducible refine gate_callee (f := 48) rfl ?_); refine gL (some 8) Try.func48 #[.agg #[.int .i64 q5, .slice j2 q7.length j3, .slice z0 q3.length j4, .slice j5 q4.length j6, .slice j7 q6.length j8, .slice z1 q2.length j9], .int .i64 a1] ?_; (with_reducible refine (Qay.calls q5 _ _ q7 _ _ q3 _ _ q4 _ _ q6 _ _ q2 a1 q8 _ ?side1 ?side2 ?side3 ?side4 ?side5 ?side6 ?side7 ?side8 ?side9 ?side10 A3.out).mono ?_); (case side1 => exact Cb z6 HB); (case side2 => exact z7.out); (case side3 => exact Cb z3 HB); (case side4 => exact z8.out); (case side5 => exact Cb z4 HB); (case side6 => exact z9.out); (case side7 => exact Cb y9 HB); (case side8 => exact Q0.out); (case side9 => exact Cb z5 HB); (case side10 => exact Q1.out); rintro e w47 ⟨rfl, hb⟩; refine ⟨_, rfl, ?_⟩; replace q0 := Bb q0 hb; replace HB := bs HB hb; (try clear hb); obtain ⟨Xz, W0, W1, W2, W3, W4, W5, W6, W7, W8, W9, Wa⟩ := cf6 q0))
  (try simp only [Act.put, List.setIfInBounds_toArray, List.set_cons_zero, List.set_cons_succ])
  go_cut [21] (fun v21 wc => ∃ (kq : Nat) (x21_43 : Bool), v21 = .bool x21_43 ∧ Qaa (Qag.j1 kq a1 q8 x21_43 q5 q7 q3 q4 q6 q2 = some r) ∧ Qaa (kq ≤ k) ∧ Qaa (wc.heap[q9]? = some (.cells #[.int .i64 q5, (.slice j2 q7.length j3), (.slice z0 q3.length j4), (.slice j5 q4.length j6), (.slice j7 q6.length j8), (.slice z1 q2.length j9)] 39 (0, 0))) ∧ Qaa (Below w.heap.size w wc))
  case first =>
   have H := Zj.out
   clear Zj
   by_cases c49 : q8 = true
   ·
    subst c49
    have H1 : (if 0 ≤ a1 then (if a1 < (q3.length : Int) then (Qag.j1 k a1 true ((rd q3 a1) != 0) q5 q7 q3 q4 q6 q2) else (none)) else (none)) = some r := by rw [if_pos rfl] at H; exact H
    clear H
    have H := H1
    clear H1
    by_cases c50 : 0 ≤ a1
    ·
     rw [if_pos c50] at H
     have Z4 : decide (0 ≤ a1) = true := decide_eq_true c50
     clear c50
     (first | rw [Z4] | (simp only [i64_w, i32_w]; rw [Z4]) | skip)
     by_cases c51 : a1 < (q3.length : Int)
     ·
      rw [if_pos c51] at H
      have Wu : decide (a1 < (q3.length : Int)) = true := decide_eq_true c51
      clear c51
      have H' := Qaa.mk H
      clear H
      obtain ⟨Wb, Wc, Wd, We, Wf, Wg, Wh, Wi, Wj, Wk, Wl, Wm⟩ := cf6 q0
      have p126 : 0 ≤ (a1 : Int) := of_decide_eq_true (by first | (with_reducible assumption) | assumption)
      have q126 : a1 < (q3.length : Int) := of_decide_eq_true (by first | (with_reducible assumption) | assumption)
      obtain ⟨ad126, e126, Q8⟩ := Kd.at_int z3.out a1 p126 q126
      cases e126
      replace Q8 := (HB.out.cell (World.block_lt_of_cell? w _ Q8)).trans Q8
      replace p126 := eq_true p126
      replace q126 := eq_true q126
      go_wp2
      go_meet
      case rel => exact ⟨_, (((rd q3 a1) != 0)), (by first | rfl | (simp; done) | (simp [*]; done)), H', ⟨by first | omega | exact Nat.le_refl _⟩, ⟨by apply blk_u; exact q0.out⟩, ⟨bl HB⟩⟩
     ·
      rw [if_neg c51] at H
      exact absurd H (by simp)
    ·
     rw [if_neg c50] at H
     exact absurd H (by simp)
   ·
    replace c49 := Bool.eq_false_iff.mpr c49
    subst c49
    have H1 : (Qag.j1 k a1 false false q5 q7 q3 q4 q6 q2) = some r := by rw [if_neg (show ¬ (false = true) by decide)] at H; exact H
    clear H
    have H := H1
    clear H1
    have H' := Qaa.mk H
    clear H
    go_wp2
    go_meet
    case rel => exact ⟨_, (false), (by first | rfl | (simp; done) | (simp [*]; done)), H', ⟨by first | omega | exact Nat.le_refl _⟩, ⟨by apply blk_u; exact q0.out⟩, ⟨bl HB⟩⟩
  case rest =>
   clear Zj
   try clear c1
   try clear p1
   try clear q1
   try clear hx1
   try clear c2
   try clear p2
   try clear c3
   try clear c4
   try clear Zh
   try clear Zi
   try clear c5
   try clear c6
   try clear p6
   try clear p12
   try clear q12
   try clear hx12
   try clear c13
   try clear c14
   try clear Qd
   try clear c15
   try clear Zu
   try clear c17
   try clear c18
   try clear c19
   try clear Wq
   try clear c20
   try clear Wr
   try clear c23
   try clear c24
   try clear Ws
   try clear c25
   try clear Wt
   try clear c26
   try clear Zv
   try clear Zw
   try clear c36
   try clear c47
   try clear c48
   try clear c49
   try clear c50
   try clear Z4
   try clear c51
   try clear Wu
   try clear Qg
   try clear Qh
   try clear Qi
   try clear Qj
   try clear Qk
   try clear Ql
   try clear Qs
   try clear Qt
   try clear Qu
   try clear Qv
   try clear Qw
   try clear Qx
   try clear Zz
   try clear J0
   try clear J1
   try clear J2
   try clear J3
   try clear J4
   try clear Jb
   try clear Jc
   try clear Jd
   try clear Je
   try clear Jf
   try clear Jg
   try clear Jn
   try clear Jo
   try clear Jp
   try clear Jq
   try clear Jr
   try clear Js
   try clear Jz
   try clear Y0
   try clear Y1
   try clear Y2
   try clear Y3
   try clear Y4
   try clear Yb
   try clear Yc
   try clear Yd
   try clear Ye
   try clear Yf
   try clear Yg
   try clear Yn
   try clear Yo
   try clear Yp
   try clear Yq
   try clear Yr
   try clear Ys
   try clear Yz
   try clear X0
   try clear X1
   try clear X2
   try clear X3
   try clear X4
   try clear Xb
   try clear Xc
   try clear Xd
   try clear Xe
   try clear Xf
   try clear Xg
   try clear Xn
   try clear Xo
   try clear Xp
   try clear Xq
   try clear Xr
   try clear Xs
   try clear Xz
   try clear W0
   try clear W1
   try clear W2
   try clear W3
   try clear W4
   try clear Wb
   try clear Wc
   try clear Wd
   try clear We
   try clear Wf
   try clear Wg
   try clear Z5
   try clear Z6
   try clear Z7
   try clear Z8
   try clear Z9
   try clear Za
   try clear Qm
   try clear Qn
   try clear Qo
   try clear Qp
   try clear Qq
   try clear Qr
   try clear Qy
   try clear Qz
   try clear Z0
   try clear Z1
   try clear Z2
   try clear Z3
   try clear J5
   try clear J6
   try clear J7
   try clear J8
   try clear J9
   try clear Ja
   try clear Jh
   try clear Ji
   try clear Jj
   try clear Jk
   try clear Jl
   try clear Jm
   try clear Jt
   try clear Ju
   try clear Jv
   try clear Jw
   try clear Jx
   try clear Jy
   try clear Y5
   try clear Y6
   try clear Y7
   try clear Y8
   try clear Y9
   try clear Ya
   try clear Yh
   try clear Yi
   try clear Yj
   try clear Yk
   try clear Yl
   try clear Ym
   try clear Yt
   try clear Yu
   try clear Yv
   try clear Yw
   try clear Yx
   try clear Yy
   try clear X5
   try clear X6
   try clear X7
   try clear X8
   try clear X9
   try clear Xa
   try clear Xh
   try clear Xi
   try clear Xj
   try clear Xk
   try clear Xl
   try clear Xm
   try clear Xt
   try clear Xu
   try clear Xv
   try clear Xw
   try clear Xx
   try clear Xy
   try clear W5
   try clear W6
   try clear W7
   try clear W8
   try clear W9
   try clear Wa
   try clear Wh
   try clear Wi
   try clear Wj
   try clear Wk
   try clear Wl
   try clear Wm
   try clear Zb
   try clear Zc
   try clear Zd
   try clear Ze
   try clear Zf
   try clear Zg
   try clear Q3
   try clear Q2
   try clear z2
   try clear Q8
   try clear p1
   try clear p12
   try clear p122
   try clear p123
   try clear p125
   try clear p126
   try clear p2
   try clear q1
   try clear q12
   try clear q122
   try clear q123
   try clear q125
   try clear q126
   obtain ⟨kq, x21_43, rfl, HA, HJ43, q0, HB⟩ := hcut
   cases kq with
   | zero => exact absurd HA.out (by simp [Qag.j1])
   | succ kj43 =>
    have H := HA.out
    clear HA
    simp only [Qag.j1] at H
    by_cases c53 : x21_43 = true
    ·
     subst c53
     have H1 : (some 3) = some r := by rw [if_pos rfl] at H; exact H
     clear H
     have H := H1
     clear H1
     obtain rfl := Option.some.inj H
     go_wp2
     go_ret
     exact ⟨by first | rfl | (simp [errW_none, errW_some] <;> rfl) | (simp [*, errW_none, errW_some] <;> rfl), bl HB⟩
    ·
     replace c53 := Bool.eq_false_iff.mpr c53
     subst c53
     have H1 : (if q8 = true then (some 0) else (if 0 ≤ a1 then (if a1 < (q3.length : Int) then ((Qae.f kj43 q5 (rd q3 a1) (⟨#[]⟩ : ByteArray)).bind fun Q6 => (some Q6)) else (none)) else (none))) = some r := by rw [if_neg (show ¬ (false = true) by decide)] at H; exact H
     clear H
     have H := H1
     clear H1
     by_cases c54 : q8 = true
     ·
      subst c54
      have H1 : (some 0) = some r := by rw [if_pos rfl] at H; exact H
      clear H
      have H := H1
      clear H1
      obtain rfl := Option.some.inj H
      go_wp2
      go_ret
      exact ⟨by first | rfl | (simp [errW_none, errW_some] <;> rfl) | (simp [*, errW_none, errW_some] <;> rfl), bl HB⟩
     ·
      replace c54 := Bool.eq_false_iff.mpr c54
      subst c54
      have H1 : (if 0 ≤ a1 then (if a1 < (q3.length : Int) then ((Qae.f kj43 q5 (rd q3 a1) (⟨#[]⟩ : ByteArray)).bind fun Q6 => (some Q6)) else (none)) else (none)) = some r := by rw [if_neg (show ¬ (false = true) by decide)] at H; exact H
      clear H
      have H := H1
      clear H1
      by_cases c55 : 0 ≤ a1
      ·
       rw [if_pos c55] at H
       have Wv : decide (0 ≤ a1) = true := decide_eq_true c55
       clear c55
       by_cases c56 : a1 < (q3.length : Int)
       ·
        rw [if_pos c56] at H
        have Ww : decide (a1 < (q3.length : Int)) = true := decide_eq_true c56
        clear c56
        replace H := Option.bind_eq_some_iff.mp H
        obtain ⟨Q6, Wp, H⟩ := H
        replace H : (some Q6) = some r := H
        have A57 := Qaa.mk Wp
        clear Wp
        obtain rfl := Option.some.inj H
        try go_wp2
        replace q0 := Qaa.mk (blk_drew q0.out)
        replace HB := Qaa.mk (below_drew1 HB.out)
        have p127 : 0 ≤ (a1 : Int) := of_decide_eq_true (by first | (with_reducible assumption) | assumption)
        have q127 : a1 < (q3.length : Int) := of_decide_eq_true (by first | (with_reducible assumption) | assumption)
        obtain ⟨ad127, e127, Q4⟩ := Kd.at_int z3.out a1 p127 q127
        have hw127_0 := Q4
        cases e127
        replace Q4 := (HB.out.cell (World.block_lt_of_cell? w _ Q4)).trans Q4
        replace p127 := eq_true p127
        replace q127 := eq_true q127
        refine start_ (n := 10) (S := fun w' => w'.cell? ⟨q9, 0, none⟩ = some (.int .i64 q5) ∧ w'.cell? ⟨q9, 1, none⟩ = some (.slice j2 q7.length j3) ∧ w'.cell? ⟨q9, 2, none⟩ = some (.slice (some ad127) q3.length j4) ∧ w'.cell? ⟨q9, 3, none⟩ = some (.slice j5 q4.length j6) ∧ w'.cell? ⟨q9, 4, none⟩ = some (.slice j7 q6.length j8) ∧ w'.cell? ⟨q9, 5, none⟩ = some (.slice z1 q2.length j9) ∧ w'.cell? (ad127.add (a1).toNat) = some (.int .i64 (rd q3 a1))) (ds := []) #[false, false, false, false, false, false, false, false, false, false] (by kernel_rfl) rfl rfl ⟨(blk_cell q0.out 0).trans rfl, (blk_cell q0.out 1).trans rfl, (blk_cell q0.out 2).trans rfl, (blk_cell q0.out 3).trans rfl, (blk_cell q0.out 4).trans rfl, (blk_cell q0.out 5).trans rfl, ((HB.out.cell (World.block_lt_of_cell? w _ hw127_0)).trans hw127_0)⟩ (fun hHeld => ?_); refine with_tabW Qag.tab6 Qag.bits6 (fun HT_ HW_ => ?_)
        generalize wc.drew = w58 at q0 HB Q4 hHeld ⊢
        refine pure_ (i := 0) (N := some 24) (v := ?_) (a' := ?_) #[true, false, false, false, false, false, false, false, false, false] rfl rfl (any_of HT_.out (by kernel_rfl)) (fun _ _ _ h => h) (Or.inl ⟨by rfl, ?_⟩) ?_ ?_
        rotate_left
        ·
         intro w'
         go_simp
         with_reducible rfl
        rotate_left
        ·
         simp only [Act.put, List.setIfInBounds_toArray, List.set_cons_zero, List.set_cons_succ, i64_w, i32_w]
         rfl
        refine pure_ (i := 2) (N := some 26) (v := ?_) (a' := ?_) #[true, false, true, false, false, false, false, false, false, false] rfl rfl (any_of HT_.out (by kernel_rfl)) (fun _ _ _ h => h) (Or.inl ⟨by rfl, ?_⟩) ?_ ?_
        rotate_left
        ·
         intro w'
         go_simp
         with_reducible rfl
        rotate_left
        ·
         simp only [Act.put, List.setIfInBounds_toArray, List.set_cons_zero, List.set_cons_succ, i64_w, i32_w]
         rfl
        refine pure_ (i := 4) (N := some 28) (v := ?_) (a' := ?_) #[true, false, true, false, true, false, false, false, false, false] rfl rfl (any_of HT_.out (by kernel_rfl)) (fun _ _ _ h => h) (Or.inl ⟨by rfl, ?_⟩) ?_ ?_
        rotate_left
        ·
         intro w'
         go_simp
         with_reducible rfl
        rotate_left
        ·
         simp only [Act.put, List.setIfInBounds_toArray, List.set_cons_zero, List.set_cons_succ, i64_w, i32_w]
         rfl
        refine take_ (i := 1) (N := some 25) (v := ?_) (a' := ?_) #[true, true, true, false, true, false, false, false, false, false] rfl rfl (take_ofW HT_.out HW_.out (by kernel_rfl)) (fun _ _ _ h => h) (Or.inl ⟨by rfl, ?_⟩) hHeld ?_ ?_
        rotate_left
        ·
         rintro w' ⟨s0, s1, s2, s3, s4, s5, s6⟩
         go_simp
         with_reducible rfl
        rotate_left
        ·
         simp only [Act.put, List.setIfInBounds_toArray, List.set_cons_zero, List.set_cons_succ, i64_w, i32_w]
         rfl
        refine take_ (i := 3) (N := some 27) (v := ?_) (a' := ?_) #[true, true, true, true, true, false, false, false, false, false] rfl rfl (take_ofW HT_.out HW_.out (by kernel_rfl)) (fun _ _ _ h => h) (Or.inl ⟨by rfl, ?_⟩) hHeld ?_ ?_
        rotate_left
        ·
         rintro w' ⟨s0, s1, s2, s3, s4, s5, s6⟩
         go_simp
         with_reducible rfl
        rotate_left
        ·
         simp only [Act.put, List.setIfInBounds_toArray, List.set_cons_zero, List.set_cons_succ, i64_w, i32_w]
         rfl
        refine pure_ (i := 5) (N := some 29) (v := ?_) (a' := ?_) #[true, true, true, true, true, true, false, false, false, false] rfl rfl (any_of HT_.out (by kernel_rfl)) (fun _ _ _ h => h) (Or.inl ⟨by rfl, ?_⟩) ?_ ?_
        rotate_left
        ·
         intro w'
         go_simp
         with_reducible rfl
        rotate_left
        ·
         simp only [Act.put, List.setIfInBounds_toArray, List.set_cons_zero, List.set_cons_succ, i64_w, i32_w]
         rfl
        refine take_ (i := 6) (N := some 30) (v := ?_) (a' := ?_) #[true, true, true, true, true, true, true, false, false, false] rfl rfl (take_ofW HT_.out HW_.out (by kernel_rfl)) (fun _ _ _ h => h) (Or.inl ⟨by rfl, ?_⟩) hHeld ?_ ?_
        rotate_left
        ·
         rintro w' ⟨s0, s1, s2, s3, s4, s5, s6⟩
         go_simp
         with_reducible rfl
        rotate_left
        ·
         simp only [Act.put, List.setIfInBounds_toArray, List.set_cons_zero, List.set_cons_succ, i64_w, i32_w]
         rfl
        refine pure_ (i := 7) (N := some 31) (v := ?_) (a' := ?_) #[true, true, true, true, true, true, true, true, false, false] rfl rfl (any_of HT_.out (by kernel_rfl)) (fun _ _ _ h => h) (Or.inl ⟨by rfl, ?_⟩) ?_ ?_
        rotate_left
        ·
         intro w'
         go_simp
         with_reducible rfl
        rotate_left
        ·
         simp only [Act.put, List.setIfInBounds_toArray, List.set_cons_zero, List.set_cons_succ, i64_w, i32_w]
         rfl
        refine one_ (i := 8) (N := some 32) #[true, true, true, true, true, true, true, true, true, false] rfl rfl (one_of HT_.out (by kernel_rfl)) (by decide) (fun K hK => ?_)
        refine goes_ Try.func61 (by kernel_rfl) rfl #[.agg #[.int .i64 q5, .int .i64 (rd q3 a1), .string (⟨#[]⟩ : ByteArray)]] (by rfl) rfl rfl (by (try simp only [List.map_toArray, List.map_cons, List.map_nil]); first | done | rfl | (simp only [List.length_drop, List.length_take]; rfl)) ?_
        with_reducible refine (Qae.calls kj43 q5 (rd q3 a1) (⟨#[]⟩ : ByteArray) Q6 _ A57.out).mono ?_
        rintro e w59 ⟨rfl, hb⟩
        refine ⟨_, rfl, ?_⟩
        replace q0 := Bb q0 hb
        replace HB := bs HB hb
        (try clear hb)
        (try clear hb2)
        (try clear hk)
        (try clear hi)
        refine hK.out _ _ ⟨(blk_cell q0.out 0).trans rfl, (blk_cell q0.out 1).trans rfl, (blk_cell q0.out 2).trans rfl, (blk_cell q0.out 3).trans rfl, (blk_cell q0.out 4).trans rfl, (blk_cell q0.out 5).trans rfl, ((HB.out.cell (World.block_lt_of_cell? w _ hw127_0)).trans hw127_0)⟩ (fun hHeld => ?_)
        clear hK K
        refine norm_ (a' := ?_) ?_ ?_
        rotate_left
        ·
         show Act.put _ (some 32) _ = _
         simp only [Act.put, List.setIfInBounds_toArray, List.set_cons_zero, List.set_cons_succ, i64_w, i32_w]
         rfl
        refine pure_ (i := 9) (N := some 4) (v := ?_) (a' := ?_) #[true, true, true, true, true, true, true, true, true, true] rfl rfl (any_of HT_.out (by kernel_rfl)) (fun _ _ _ h => h) (Or.inl ⟨by rfl, ?_⟩) ?_ ?_
        rotate_left
        ·
         intro w'
         go_simp
         with_reducible rfl
        rotate_left
        ·
         simp only [Act.put, List.setIfInBounds_toArray, List.set_cons_zero, List.set_cons_succ, i64_w, i32_w]
         rfl
        refine done_ (done_of HT_.out (by kernel_rfl)) ?_
        try go_wp2
        go_ret
        exact ⟨by first | rfl | (simp [errW_none, errW_some] <;> rfl) | (simp [*, errW_none, errW_some] <;> rfl), bl HB⟩
       ·
        rw [if_neg c56] at H
        exact absurd H (by simp)
      ·
       rw [if_neg c55] at H
       exact absurd H (by simp)
end Go.Proofs.Ytphnmaobpefoiaa.XW
end
section
namespace Go.Proofs.Ytphnmaobpefoiaa.XW
open Go.RowKit Go.Proofs.YtphnmaobpefoiaaXW Go.Proofs.YtphnmaobpefoiaaW.PrintWords Go.Proofs.YtphnmaobpefoiaaW.PrintLast Go.Proofs.YtphnmaobpefoiaaW.PrintMore
attribute [local go_sem] max2_int min2_int max_two min_two max_three min_three max_four min_four sleq
set_option linter.unusedVariables false
set_option linter.unusedSimpArgs false
mutual
def Qaf.l0 : Nat → Int → List ByteArray → Int → Int → Int → List Bool → List Int → List ByteArray → List ByteArray → List Int → Option (Int)
 | 0, _, _, _, _, _, _, _, _, _, _ => none
 | k + 1, x1, x38, x39, x40, z9, Q0, Q1, Q2, z5, Q3 => if x40 < x39 then (if 0 ≤ x40 then (if x40 < (x38.length : Int) then (if x40 > 0 then (if 0 ≤ (wrap64 (x40 - 1)) then (if (wrap64 (x40 - 1)) < (z5.length : Int) then (if ((Op.bytesLess ((rdOf ByteArray.empty z5 (wrap64 (x40 - 1))).toList) ((rdOf ByteArray.empty x38 x40).toList)) = true) then (Qaf.l0 k x1 x38 x39 (wrap64 (x40 + 1)) z9 Q0 Q1 Q2 z5 Q3) else (some 8)) else (none)) else (none)) else (Qaf.l0 k x1 x38 x39 (wrap64 (x40 + 1)) z9 Q0 Q1 Q2 z5 Q3)) else (none)) else (none)) else (Qaf.l1 k x1 0 z9 Q0 Q1 Q2 z5 Q3)
def Qaf.l1 : Nat → Int → Int → Int → List Bool → List Int → List ByteArray → List ByteArray → List Int → Option (Int)
 | 0, _, _, _, _, _, _, _, _ => none
 | k + 1, x58, x59, z9, Q0, Q1, Q2, z5, Q3 => if x59 < x58 then ((Qag.f k z9 Q0 Q1 Q2 z5 Q3 x59).bind fun z7 => (if z7 = 0 then (Qaf.l1 k x58 (wrap64 (x59 + 1)) z9 Q0 Q1 Q2 z5 Q3) else (some z7))) else (some 0)
end
def Qaf.f (k : Nat) (q4 : Int) (q5 : List Bool) (q6 : List Int) (q3 : List ByteArray) (q0 : List ByteArray) (q7 : List Int) (a1 : Int) : Option (Int) := (Qau.f a1 0 1000).bind fun Qf => (if Qf = true then ((Qau.f q4 1 3).bind fun Q6 => (if Q6 = true then ((Qab.f k q4 q5 q6 q3 q0 q7 a1).bind fun j0 => (if j0 = 0 then ((Qah.f k q0).bind fun q9 => (if q9 = 0 then ((Qah.f k q3).bind fun q8 => (if q8 = 0 then (Qaf.l0 k a1 q0 (q0.length : Int) 0 q4 q5 q6 q3 q0 q7) else (some q8))) else (some q9))) else (some j0))) else (some 4))) else (some 1))
theorem Qaf.mono_l : ∀ k, (∀ y0 y1 y2 y3 y4 y5 y6 y7 y8 y9, LeO (Qaf.l0 k y0 y1 y2 y3 y4 y5 y6 y7 y8 y9) (Qaf.l0 (k + 1) y0 y1 y2 y3 y4 y5 y6 y7 y8 y9)) ∧ (∀ y0 y1 y2 y3 y4 y5 y6 y7, LeO (Qaf.l1 k y0 y1 y2 y3 y4 y5 y6 y7) (Qaf.l1 (k + 1) y0 y1 y2 y3 y4 y5 y6 y7))
 | 0 => ⟨fun _ _ _ _ _ _ _ _ _ _ r h => by simp [Qaf.l0] at h, fun _ _ _ _ _ _ _ _ r h => by simp [Qaf.l1] at h⟩
 | k + 1 => by
  obtain ⟨ih0, ih1⟩ := Qaf.mono_l k
  refine ⟨?_, ?_⟩
  ·
   intro y0 y1 y2 y3 y4 y5 y6 y7 y8 y9
   unfold Qaf.l0
   repeat' first
   | (with_reducible exact ih0 _ _ _ _ _ _ _ _ _ _)
   | (with_reducible exact ih1 _ _ _ _ _ _ _ _)
   | (with_reducible exact Qab.mono _ _ _ _ _ _ _ _)
   | (with_reducible exact Qag.mono _ _ _ _ _ _ _ _)
   | (with_reducible exact Qah.mono _ _)
   | (with_reducible exact LeO.refl _)
   | (with_reducible exact LeO.none _)
   | (with_reducible refine LeO.ite ?_ ?_)
   | (with_reducible refine LeO.bind ?_ (fun _ => ?_))
   | exact ih0 _ _ _ _ _ _ _ _ _ _
   | exact ih1 _ _ _ _ _ _ _ _
   | exact Qab.mono _ _ _ _ _ _ _ _
   | exact Qag.mono _ _ _ _ _ _ _ _
   | exact Qah.mono _ _
   | exact LeO.none _
   | refine LeO.ite ?_ ?_
   | refine LeO.bind ?_ (fun _ => ?_)
  ·
   intro y0 y1 y2 y3 y4 y5 y6 y7
   unfold Qaf.l1
   repeat' first
   | (with_reducible exact ih0 _ _ _ _ _ _ _ _ _ _)
   | (with_reducible exact ih1 _ _ _ _ _ _ _ _)
   | (with_reducible exact Qab.mono _ _ _ _ _ _ _ _)
   | (with_reducible exact Qag.mono _ _ _ _ _ _ _ _)
   | (with_reducible exact Qah.mono _ _)
   | (with_reducible exact LeO.refl _)
   | (with_reducible exact LeO.none _)
   | (with_reducible refine LeO.ite ?_ ?_)
   | (with_reducible refine LeO.bind ?_ (fun _ => ?_))
   | exact ih0 _ _ _ _ _ _ _ _ _ _
   | exact ih1 _ _ _ _ _ _ _ _
   | exact Qab.mono _ _ _ _ _ _ _ _
   | exact Qag.mono _ _ _ _ _ _ _ _
   | exact Qah.mono _ _
   | exact LeO.none _
   | refine LeO.ite ?_ ?_
   | refine LeO.bind ?_ (fun _ => ?_)
theorem Qaf.mono : ∀ a0 a1 a2 a3 a4 a5 a6 k, LeO (Qaf.f k a0 a1 a2 a3 a4 a5 a6) (Qaf.f (k + 1) a0 a1 a2 a3 a4 a5 a6) := by
 intro a0 a1 a2 a3 a4 a5 a6 k
 obtain ⟨ih0, ih1⟩ := Qaf.mono_l k
 unfold Qaf.f
 repeat' first
   | (with_reducible exact ih0 _ _ _ _ _ _ _ _ _ _)
   | (with_reducible exact ih1 _ _ _ _ _ _ _ _)
   | (with_reducible exact Qab.mono _ _ _ _ _ _ _ _)
   | (with_reducible exact Qag.mono _ _ _ _ _ _ _ _)
   | (with_reducible exact Qah.mono _ _)
   | (with_reducible exact LeO.refl _)
   | (with_reducible exact LeO.none _)
   | (with_reducible refine LeO.ite ?_ ?_)
   | (with_reducible refine LeO.bind ?_ (fun _ => ?_))
   | exact ih0 _ _ _ _ _ _ _ _ _ _
   | exact ih1 _ _ _ _ _ _ _ _
   | exact Qab.mono _ _ _ _ _ _ _ _
   | exact Qag.mono _ _ _ _ _ _ _ _
   | exact Qah.mono _ _
   | exact LeO.none _
   | refine LeO.ite ?_ ?_
   | refine LeO.bind ?_ (fun _ => ?_)
set_option maxHeartbeats 8000000 in
set_option maxRecDepth 100000 in
theorem Qaf.calls (k : Nat) (q4 : Int) (j9 : Option Addr) (z0 : Nat) (q5 : List Bool) (z1 : Option Addr) (z2 : Nat) (q6 : List Int) (j5 : Option Addr) (j6 : Nat) (q3 : List ByteArray) (j3 : Option Addr) (j4 : Nat) (q0 : List ByteArray) (z3 : Option Addr) (z4 : Nat) (q7 : List Int) (a1 : Int) (r : Int) (w : World) (Zz : Kd.C Kd.bool w j9 q5.length q5) (J0 : q5.length ≤ z0) (J1 : Kd.C (Kd.int .i64) w z1 q6.length q6) (J2 : q6.length ≤ z2) (J3 : Kd.C Kd.string w j5 q3.length q3) (J4 : q3.length ≤ j6) (J5 : Kd.C Kd.string w j3 q0.length q0) (J6 : q0.length ≤ j4) (J7 : Kd.C (Kd.int .i64) w z3 q7.length q7) (J8 : q7.length ≤ z4) (h : Qaf.f k q4 q5 q6 q3 q0 q7 a1 = some r) :
  Calls Try.prog 23 #[.agg #[.int .i64 q4, .slice j9 q5.length z0, .slice z1 q6.length z2, .slice j5 q3.length j6, .slice j3 q0.length j4, .slice z3 q7.length z4], .int .i64 a1] w fun e w' => e = .returned (.int .i64 r) ∧ Below w.heap.size w w' := by
 have hu39 := Try.underlying39
 have Q7 := Qaa.mk Zz
 have Q8 := Qaa.mk J0
 clear Zz J0
 have Q9 := Qaa.mk J1
 have Qa := Qaa.mk J2
 clear J1 J2
 have Q4 := Qaa.mk J3
 have Q5 := Qaa.mk J4
 clear J3 J4
 have j7 := Qaa.mk J5
 have z8 := Qaa.mk J6
 clear J5 J6
 have Qb := Qaa.mk J7
 have Qc := Qaa.mk J8
 clear J7 J8
 have HB := Qaa.mk (Below.refl w.heap.size w)
 have H : ((Qau.f a1 0 1000).bind fun Qf => (if Qf = true then ((Qau.f q4 1 3).bind fun Q6 => (if Q6 = true then ((Qab.f k q4 q5 q6 q3 q0 q7 a1).bind fun j0 => (if j0 = 0 then ((Qah.f k q0).bind fun q9 => (if q9 = 0 then ((Qah.f k q3).bind fun q8 => (if q8 = 0 then (Qaf.l0 k a1 q0 (q0.length : Int) 0 q4 q5 q6 q3 q0 q7) else (some q8))) else (some q9))) else (some j0))) else (some 4))) else (some 1))) = some r := h
 clear h
 replace H := Option.bind_eq_some_iff.mp H
 obtain ⟨Qf, A30, H⟩ := H
 replace H : (if Qf = true then ((Qau.f q4 1 3).bind fun Q6 => (if Q6 = true then ((Qab.f k q4 q5 q6 q3 q0 q7 a1).bind fun j0 => (if j0 = 0 then ((Qah.f k q0).bind fun q9 => (if q9 = 0 then ((Qah.f k q3).bind fun q8 => (if q8 = 0 then (Qaf.l0 k a1 q0 (q0.length : Int) 0 q4 q5 q6 q3 q0 q7) else (some q8))) else (some q9))) else (some j0))) else (some 4))) else (some 1)) = some r := H
 have A3 := Qaa.mk A30
 clear A30
 by_cases c4 : Qf = true
 ·
  subst c4
  have H1 : ((Qau.f q4 1 3).bind fun Q6 => (if Q6 = true then ((Qab.f k q4 q5 q6 q3 q0 q7 a1).bind fun j0 => (if j0 = 0 then ((Qah.f k q0).bind fun q9 => (if q9 = 0 then ((Qah.f k q3).bind fun q8 => (if q8 = 0 then (Qaf.l0 k a1 q0 (q0.length : Int) 0 q4 q5 q6 q3 q0 q7) else (some q8))) else (some q9))) else (some j0))) else (some 4))) = some r := by rw [if_pos rfl] at H; exact H
  clear H
  have H := H1
  clear H1
  replace H := Option.bind_eq_some_iff.mp H
  obtain ⟨Q6, A50, H⟩ := H
  replace H : (if Q6 = true then ((Qab.f k q4 q5 q6 q3 q0 q7 a1).bind fun j0 => (if j0 = 0 then ((Qah.f k q0).bind fun q9 => (if q9 = 0 then ((Qah.f k q3).bind fun q8 => (if q8 = 0 then (Qaf.l0 k a1 q0 (q0.length : Int) 0 q4 q5 q6 q3 q0 q7) else (some q8))) else (some q9))) else (some j0))) else (some 4)) = some r := H
  have A5 := Qaa.mk A50
  clear A50
  by_cases c6 : Q6 = true
  ·
   subst c6
   have H1 : ((Qab.f k q4 q5 q6 q3 q0 q7 a1).bind fun j0 => (if j0 = 0 then ((Qah.f k q0).bind fun q9 => (if q9 = 0 then ((Qah.f k q3).bind fun q8 => (if q8 = 0 then (Qaf.l0 k a1 q0 (q0.length : Int) 0 q4 q5 q6 q3 q0 q7) else (some q8))) else (some q9))) else (some j0))) = some r := by rw [if_pos rfl] at H; exact H
   clear H
   have H := H1
   clear H1
   replace H := Option.bind_eq_some_iff.mp H
   obtain ⟨j0, A70, H⟩ := H
   replace H : (if j0 = 0 then ((Qah.f k q0).bind fun q9 => (if q9 = 0 then ((Qah.f k q3).bind fun q8 => (if q8 = 0 then (Qaf.l0 k a1 q0 (q0.length : Int) 0 q4 q5 q6 q3 q0 q7) else (some q8))) else (some q9))) else (some j0)) = some r := H
   have A7 := Qaa.mk A70
   clear A70
   by_cases c8 : j0 = 0
   ·
    rw [if_pos c8] at H
    have Zx : (j0 == 0) = true := beq_iff_eq.mpr c8
    have Zy : (j0 != 0) = false := bne_eq_false_iff_eq.mpr c8
    clear c8
    replace H := Option.bind_eq_some_iff.mp H
    obtain ⟨q9, A90, H⟩ := H
    replace H : (if q9 = 0 then ((Qah.f k q3).bind fun q8 => (if q8 = 0 then (Qaf.l0 k a1 q0 (q0.length : Int) 0 q4 q5 q6 q3 q0 q7) else (some q8))) else (some q9)) = some r := H
    have A9 := Qaa.mk A90
    clear A90
    by_cases c10 : q9 = 0
    ·
     rw [if_pos c10] at H
     have Zt : (q9 == 0) = true := beq_iff_eq.mpr c10
     have Zu : (q9 != 0) = false := bne_eq_false_iff_eq.mpr c10
     clear c10
     replace H := Option.bind_eq_some_iff.mp H
     obtain ⟨q8, Y0, H⟩ := H
     replace H : (if q8 = 0 then (Qaf.l0 k a1 q0 (q0.length : Int) 0 q4 q5 q6 q3 q0 q7) else (some q8)) = some r := H
     have A11 := Qaa.mk Y0
     clear Y0
     by_cases c12 : q8 = 0
     ·
      rw [if_pos c12] at H
      have Zv : (q8 == 0) = true := beq_iff_eq.mpr c12
      have Zw : (q8 != 0) = false := bne_eq_false_iff_eq.mpr c12
      clear c12
      have H' := Qaa.mk H
      clear H
      go_enter Try.func23, Try.ntmps23
      go_wp2_with (first | ((with_reducible refine gate_dst (N := 2) rfl ?_); refine bx 2 #[.int .i64 q4, .slice j9 q5.length z0, .slice z1 q6.length z2, .slice j5 q3.length j6, .slice j3 q0.length j4, .slice z3 q7.length z4] 39 ?_; intro j1 hg w13 hbox hb; have q2 := Qaa.mk (hbox); have Qd := Qaa.mk ((by rw [hg]; exact (below_size (bl HB)) : w.heap.size ≤ j1)); have Qe := Qaa.mk ((by rw [hg]; exact (below_size (bl HB)) : w.heap.size ≤ j1)); replace HB := bs HB hb; clear hb hbox hg) | ((with_reducible refine gate_callee (f := 25) rfl ?_); refine gL (some 13) Try.func25 #[.int .i64 a1, .int .i64 0, .int .i64 1000] ?_; (with_reducible refine (Qau.calls a1 0 1000 true _ A3.out).mono ?_); rintro e w' ⟨rfl, ⟨nd, rfl⟩⟩; refine ⟨_, rfl, ?_⟩; obtain ⟨Qh, Qi, Qj, Qk, Ql, Qm, Qn, Qo, Qp, Qq, Qr, Qs⟩ := cf6 q2) | ((with_reducible refine gate_callee (f := 25) rfl ?_); refine gL (some 17) Try.func25 #[.int .i64 q4, .int .i64 1, .int .i64 3] ?_; (with_reducible refine (Qau.calls q4 1 3 true _ A5.out).mono ?_); rintro e w' ⟨rfl, ⟨nd, rfl⟩⟩; refine ⟨_, rfl, ?_⟩) | ((with_reducible refine gate_callee (f := 45) rfl ?_); refine gL (some 21) Try.func45 #[.agg #[.int .i64 q4, .slice j9 q5.length z0, .slice z1 q6.length z2, .slice j5 q3.length j6, .slice j3 q0.length j4, .slice z3 q7.length z4], .int .i64 a1] ?_; (with_reducible refine (Qab.calls k q4 _ _ q5 _ _ q6 _ _ q3 _ _ q0 _ _ q7 a1 j0 _ ?side1 ?side2 ?side3 ?side4 ?side5 ?side6 ?side7 ?side8 ?side9 ?side10 A7.out).mono ?_); (case side1 => repeat (first | exact (Kd.C_below Q7.out (bl HB)) | (with_reducible refine Kd.C_alloc ?_ _) | (with_reducible refine Kd.C_drewN ?_ _) | (with_reducible refine Kd.C_drew ?_))); (case side2 => exact Q8.out); (case side3 => repeat (first | exact (Kd.C_below Q9.out (bl HB)) | (with_reducible refine Kd.C_alloc ?_ _) | (with_reducible refine Kd.C_drewN ?_ _) | (with_reducible refine Kd.C_drew ?_))); (case side4 => exact Qa.out); (case side5 => repeat (first | exact (Kd.C_below Q4.out (bl HB)) | (with_reducible refine Kd.C_alloc ?_ _) | (with_reducible refine Kd.C_drewN ?_ _) | (with_reducible refine Kd.C_drew ?_))); (case side6 => exact Q5.out); (case side7 => repeat (first | exact (Kd.C_below j7.out (bl HB)) | (with_reducible refine Kd.C_alloc ?_ _) | (with_reducible refine Kd.C_drewN ?_ _) | (with_reducible refine Kd.C_drew ?_))); (case side8 => exact z8.out); (case side9 => repeat (first | exact (Kd.C_below Qb.out (bl HB)) | (with_reducible refine Kd.C_alloc ?_ _) | (with_reducible refine Kd.C_drewN ?_ _) | (with_reducible refine Kd.C_drew ?_))); (case side10 => exact Qc.out); rintro e w15 ⟨rfl, hb⟩; refine ⟨_, rfl, ?_⟩; replace q2 := Bb q2 hb; replace HB := bs HB hb; (try clear hb); obtain ⟨Qt, Qu, Qv, Qw, Qx, Qy, Qz, Z0, Z1, Z2, Z3, Z4⟩ := cf6 q2) | ((with_reducible refine gate_callee (f := 46) rfl ?_); refine gL (some 27) Try.func46 #[.slice j3 q0.length j4] ?_; (with_reducible refine (Qah.calls k _ _ q0 q9 _ ?side1 ?side2 A9.out).mono ?_); (case side1 => exact Cb j7 HB); (case side2 => exact z8.out); rintro e w17 ⟨rfl, hb⟩; refine ⟨_, rfl, ?_⟩; replace q2 := Bb q2 hb; replace HB := bs HB hb; (try clear hb); obtain ⟨Z5, Z6, Z7, Z8, Z9, Za, Zb, Zc, Zd, Ze, Zf, Zg⟩ := cf6 q2) | ((with_reducible refine gate_callee (f := 46) rfl ?_); refine gL (some 33) Try.func46 #[.slice j5 q3.length j6] ?_; (with_reducible refine (Qah.calls k _ _ q3 q8 _ ?side1 ?side2 A11.out).mono ?_); (case side1 => exact Cb Q4 HB); (case side2 => exact Q5.out); rintro e w19 ⟨rfl, hb⟩; refine ⟨_, rfl, ?_⟩; replace q2 := Bb q2 hb; replace HB := bs HB hb; (try clear hb); obtain ⟨Zh, Zi, Zj, Zk, Zl, Zm, Zn, Zo, Zp, Zq, Zr, Zs⟩ := cf6 q2))
      go_loopg [40] k (fun kq v40 w' => ∃ (x40_1 : Int), v40 = .int .i64 x40_1 ∧ Qaa (Qaf.l0 kq a1 q0 (q0.length : Int) x40_1 q4 q5 q6 q3 q0 q7 = some r) ∧ Qaa (kq ≤ k) ∧ Qaa (w'.heap[j1]? = some (.cells #[.int .i64 q4, (.slice j9 q5.length z0), (.slice z1 q6.length z2), (.slice j5 q3.length j6), (.slice j3 q0.length j4), (.slice z3 q7.length z4)] 39 (0, 0))) ∧ Qaa (Below w.heap.size w w'))
      case atStart => exact ⟨(0), (by first | rfl | (simp; done) | (simp [*]; done)), H', ⟨Nat.le_refl _⟩, ⟨by apply blk_u; exact q2.out⟩, ⟨bl HB⟩⟩
      case round =>
       clear H'
       try clear c1
       try clear c2
       try clear p2
       try clear c4
       try clear c6
       try clear c8
       try clear Zx
       try clear Zy
       try clear c10
       try clear Zt
       try clear Zu
       try clear c12
       try clear Zv
       try clear Zw
       try clear Qh
       try clear Qi
       try clear Qj
       try clear Qk
       try clear Ql
       try clear Qm
       try clear Qt
       try clear Qu
       try clear Qv
       try clear Qw
       try clear Qx
       try clear Qy
       try clear Z5
       try clear Z6
       try clear Z7
       try clear Z8
       try clear Z9
       try clear Za
       try clear Zh
       try clear Zi
       try clear Zj
       try clear Zk
       try clear Zl
       try clear Zm
       try clear Qn
       try clear Qo
       try clear Qp
       try clear Qq
       try clear Qr
       try clear Qs
       try clear Qz
       try clear Z0
       try clear Z1
       try clear Z2
       try clear Z3
       try clear Z4
       try clear Zb
       try clear Zc
       try clear Zd
       try clear Ze
       try clear Zf
       try clear Zg
       try clear Zn
       try clear Zo
       try clear Zp
       try clear Zq
       try clear Zr
       try clear Zs
       obtain ⟨x40_1, rfl, HA, HK1, q2, HB⟩ := hrel
       cases gk with
       | zero => exact absurd HA.out (by simp [Qaf.l0])
       | succ k1 =>
        have H := HA.out
        clear HA
        simp only [Qaf.l0] at H
        by_cases c21 : x40_1 < (q0.length : Int)
        ·
         rw [if_pos c21] at H
         have J9 : decide (x40_1 < (q0.length : Int)) = true := decide_eq_true c21
         clear c21
         by_cases c22 : 0 ≤ x40_1
         ·
          rw [if_pos c22] at H
          have Y2 : decide (0 ≤ x40_1) = true := decide_eq_true c22
          clear c22
          by_cases c23 : x40_1 < (q0.length : Int)
          ·
           rw [if_pos c23] at H
           have Y3 : decide (x40_1 < (q0.length : Int)) = true := decide_eq_true c23
           clear c23
           by_cases c24 : x40_1 > 0
           ·
            rw [if_pos c24] at H
            have Ja : decide (0 < x40_1) = true := decide_eq_true c24
            clear c24
            obtain ⟨j8, Qg⟩ : ∃ j_ : Int, (wrap64 (x40_1 - 1)) = j_ := ⟨_, rfl⟩
            replace H : (if 0 ≤ (j8) then (if (j8) < (q0.length : Int) then (if ((Op.bytesLess ((rdOf ByteArray.empty q0 (j8)).toList) ((rdOf ByteArray.empty q0 x40_1).toList)) = true) then (Qaf.l0 k1 a1 q0 (q0.length : Int) (wrap64 (x40_1 + 1)) q4 q5 q6 q3 q0 q7) else (some 8)) else (none)) else (none)) = some r := by first | (rw [Qg] at H; exact H) | (simp only [Qg] at H ⊢; exact H)
            have hji25w : (IntKind.i64.wrap (x40_1 - 1)) = j8 := (i64_w _).trans Qg
            by_cases c26 : 0 ≤ (j8)
            ·
             rw [if_pos c26] at H
             have Y4 : decide (0 ≤ (j8)) = true := decide_eq_true c26
             clear c26
             by_cases c27 : (j8) < (q0.length : Int)
             ·
              rw [if_pos c27] at H
              have Y5 : decide ((j8) < (q0.length : Int)) = true := decide_eq_true c27
              clear c27
              by_cases c28 : ((Op.bytesLess ((rdOf ByteArray.empty q0 (j8)).toList) ((rdOf ByteArray.empty q0 x40_1).toList)) = true)
              ·
               rw [if_pos c28] at H
               have Jb : (Op.bytesLess ((rdOf ByteArray.empty q0 (j8)).toList) ((rdOf ByteArray.empty q0 x40_1).toList)) = true := c28
               clear c28
               have H' := Qaa.mk H
               clear H
               have p135 : 0 ≤ (x40_1 : Int) := of_decide_eq_true (by first | (with_reducible assumption) | assumption)
               have q135 : x40_1 < (q0.length : Int) := of_decide_eq_true (by first | (with_reducible assumption) | assumption)
               obtain ⟨ad135, e135, j2⟩ := Kd.at_string j7.out x40_1 p135 q135
               cases e135
               replace j2 := (HB.out.cell (World.block_lt_of_cell? w _ j2)).trans j2
               replace p135 := eq_true p135
               replace q135 := eq_true q135
               obtain ⟨Jc, Jd, Je, Jf, Jg, Jh, Ji, Jj, Jk, Jl, Jm, Jn⟩ := cf6 q2
               have p136 : 0 ≤ ((j8) : Int) := of_decide_eq_true (by first | (with_reducible assumption) | assumption)
               have q136 : (j8) < (q0.length : Int) := of_decide_eq_true (by first | (with_reducible assumption) | assumption)
               obtain ⟨ad136, e136, z6⟩ := Kd.at_string j7.out (j8) p136 q136
               obtain rfl : ad135 = ad136 := (by injection e136)
               replace z6 := (HB.out.cell (World.block_lt_of_cell? w _ z6)).trans z6
               replace p136 := eq_true p136
               replace q136 := eq_true q136
               go_wp2
               go_roundg k1
               case measure => have := HK1.out; omega
               case rel => exact ⟨(wrap64 (x40_1 + 1)), (by first | rfl | (simp; done) | (simp [*]; done)), H', ⟨by have := HK1.out; omega⟩, ⟨by apply blk_u; exact q2.out⟩, ⟨bl HB⟩⟩
              ·
               rw [if_neg c28] at H
               have Jb : (Op.bytesLess ((rdOf ByteArray.empty q0 (j8)).toList) ((rdOf ByteArray.empty q0 x40_1).toList)) = false := by simpa using c28
               clear c28
               obtain rfl := Option.some.inj H
               have p135 : 0 ≤ (x40_1 : Int) := of_decide_eq_true (by first | (with_reducible assumption) | assumption)
               have q135 : x40_1 < (q0.length : Int) := of_decide_eq_true (by first | (with_reducible assumption) | assumption)
               obtain ⟨ad135, e135, j2⟩ := Kd.at_string j7.out x40_1 p135 q135
               cases e135
               replace j2 := (HB.out.cell (World.block_lt_of_cell? w _ j2)).trans j2
               replace p135 := eq_true p135
               replace q135 := eq_true q135
               obtain ⟨Jo, Jp, Jq, Jr, Js, Jt, Ju, Jv, Jw, Jx, Jy, Jz⟩ := cf6 q2
               have p136 : 0 ≤ ((j8) : Int) := of_decide_eq_true (by first | (with_reducible assumption) | assumption)
               have q136 : (j8) < (q0.length : Int) := of_decide_eq_true (by first | (with_reducible assumption) | assumption)
               obtain ⟨ad136, e136, z6⟩ := Kd.at_string j7.out (j8) p136 q136
               obtain rfl : ad135 = ad136 := (by injection e136)
               replace z6 := (HB.out.cell (World.block_lt_of_cell? w _ z6)).trans z6
               replace p136 := eq_true p136
               replace q136 := eq_true q136
               go_wp2
               go_ret
               exact ⟨by first | rfl | (simp [errW_none, errW_some] <;> rfl) | (simp only [← Qg]; first | rfl | (simp [errW_none, errW_some] <;> rfl)) | (simp [*, errW_none, errW_some] <;> rfl), bl HB⟩
             ·
              rw [if_neg c27] at H
              exact absurd H (by simp)
            ·
             rw [if_neg c26] at H
             exact absurd H (by simp)
           ·
            rw [if_neg c24] at H
            have Ja : decide (0 < x40_1) = false := decide_eq_false c24
            clear c24
            have H' := Qaa.mk H
            clear H
            have p135 : 0 ≤ (x40_1 : Int) := of_decide_eq_true (by first | (with_reducible assumption) | assumption)
            have q135 : x40_1 < (q0.length : Int) := of_decide_eq_true (by first | (with_reducible assumption) | assumption)
            obtain ⟨ad135, e135, j2⟩ := Kd.at_string j7.out x40_1 p135 q135
            cases e135
            replace j2 := (HB.out.cell (World.block_lt_of_cell? w _ j2)).trans j2
            replace p135 := eq_true p135
            replace q135 := eq_true q135
            go_wp2
            go_roundg k1
            case measure => have := HK1.out; omega
            case rel => exact ⟨(wrap64 (x40_1 + 1)), (by first | rfl | (simp; done) | (simp [*]; done)), H', ⟨by have := HK1.out; omega⟩, ⟨by apply blk_u; exact q2.out⟩, ⟨bl HB⟩⟩
          ·
           rw [if_neg c23] at H
           exact absurd H (by simp)
         ·
          rw [if_neg c22] at H
          exact absurd H (by simp)
        ·
         rw [if_neg c21] at H
         have J9 : decide (x40_1 < (q0.length : Int)) = false := decide_eq_false c21
         clear c21
         have H' := Qaa.mk H
         clear H
         go_wp2
         go_loopg [59] k1 (fun kq v59 w' => ∃ (x59_2 : Int), v59 = .int .i64 x59_2 ∧ Qaa (Qaf.l1 kq a1 x59_2 q4 q5 q6 q3 q0 q7 = some r) ∧ Qaa (kq ≤ k1) ∧ Qaa (w'.heap[j1]? = some (.cells #[.int .i64 q4, (.slice j9 q5.length z0), (.slice z1 q6.length z2), (.slice j5 q3.length j6), (.slice j3 q0.length j4), (.slice z3 q7.length z4)] 39 (0, 0))) ∧ Qaa (Below w.heap.size w w'))
         case atStart => exact ⟨(0), (by first | rfl | (simp; done) | (simp [*]; done)), H', ⟨Nat.le_refl _⟩, ⟨by apply blk_u; exact q2.out⟩, ⟨bl HB⟩⟩
         case round =>
          clear H'
          try clear c1
          try clear p1
          try clear q1
          try clear hx1
          try clear c2
          try clear p2
          try clear c4
          try clear c6
          try clear p6
          try clear c8
          try clear Zx
          try clear Zy
          try clear c10
          try clear Zt
          try clear Zu
          try clear c12
          try clear Zv
          try clear Zw
          try clear p13
          try clear q13
          try clear hx13
          try clear c21
          try clear J9
          try clear c22
          try clear Y2
          try clear c23
          try clear Y3
          try clear c24
          try clear Ja
          try clear c25
          try clear c26
          try clear Y4
          try clear c27
          try clear Y5
          try clear c28
          try clear Jb
          try clear Qh
          try clear Qi
          try clear Qj
          try clear Qk
          try clear Ql
          try clear Qm
          try clear Qt
          try clear Qu
          try clear Qv
          try clear Qw
          try clear Qx
          try clear Qy
          try clear Z5
          try clear Z6
          try clear Z7
          try clear Z8
          try clear Z9
          try clear Za
          try clear Zh
          try clear Zi
          try clear Zj
          try clear Zk
          try clear Zl
          try clear Zm
          try clear Jc
          try clear Jd
          try clear Je
          try clear Jf
          try clear Jg
          try clear Jh
          try clear Jo
          try clear Jp
          try clear Jq
          try clear Jr
          try clear Js
          try clear Jt
          try clear Qn
          try clear Qo
          try clear Qp
          try clear Qq
          try clear Qr
          try clear Qs
          try clear Qz
          try clear Z0
          try clear Z1
          try clear Z2
          try clear Z3
          try clear Z4
          try clear Zb
          try clear Zc
          try clear Zd
          try clear Ze
          try clear Zf
          try clear Zg
          try clear Zn
          try clear Zo
          try clear Zp
          try clear Zq
          try clear Zr
          try clear Zs
          try clear Ji
          try clear Jj
          try clear Jk
          try clear Jl
          try clear Jm
          try clear Jn
          try clear Ju
          try clear Jv
          try clear Jw
          try clear Jx
          try clear Jy
          try clear Jz
          try clear j2
          try clear z6
          try clear p135
          try clear p136
          try clear p2
          try clear q135
          try clear q136
          obtain ⟨x59_2, rfl, HA, HK2, q2, HB⟩ := hrel
          cases gk with
          | zero => exact absurd HA.out (by simp [Qaf.l1])
          | succ k2 =>
           have H := HA.out
           clear HA
           simp only [Qaf.l1] at H
           by_cases c31 : x59_2 < a1
           ·
            rw [if_pos c31] at H
            have Y6 : decide (x59_2 < a1) = true := decide_eq_true c31
            clear c31
            replace H := Option.bind_eq_some_iff.mp H
            obtain ⟨z7, Y1, H⟩ := H
            replace H : (if z7 = 0 then (Qaf.l1 k2 a1 (wrap64 (x59_2 + 1)) q4 q5 q6 q3 q0 q7) else (some z7)) = some r := H
            have A32 := Qaa.mk Y1
            clear Y1
            by_cases c33 : z7 = 0
            ·
             rw [if_pos c33] at H
             have Y7 : (z7 == 0) = true := beq_iff_eq.mpr c33
             have Y8 : (z7 != 0) = false := bne_eq_false_iff_eq.mpr c33
             clear c33
             have H' := Qaa.mk H
             clear H
             obtain ⟨Y9, Ya, Yb, Yc, Yd, Ye, Yf, Yg, Yh, Yi, Yj, Yk⟩ := cf6 q2
             go_wp2_with (first | ((with_reducible refine gate_callee (f := 47) rfl ?_); refine gL (some 64) Try.func47 #[.agg #[.int .i64 q4, .slice j9 q5.length z0, .slice z1 q6.length z2, .slice j5 q3.length j6, .slice j3 q0.length j4, .slice z3 q7.length z4], .int .i64 x59_2] ?_; (with_reducible refine (Qag.calls k2 q4 _ _ q5 _ _ q6 _ _ q3 _ _ q0 _ _ q7 x59_2 z7 _ ?side1 ?side2 ?side3 ?side4 ?side5 ?side6 ?side7 ?side8 ?side9 ?side10 A32.out).mono ?_); (case side1 => exact Cb Q7 HB); (case side2 => exact Q8.out); (case side3 => exact Cb Q9 HB); (case side4 => exact Qa.out); (case side5 => exact Cb Q4 HB); (case side6 => exact Q5.out); (case side7 => exact Cb j7 HB); (case side8 => exact z8.out); (case side9 => exact Cb Qb HB); (case side10 => exact Qc.out); rintro e w35 ⟨rfl, hb⟩; refine ⟨_, rfl, ?_⟩; replace q2 := Bb q2 hb; replace HB := bs HB hb; (try clear hb)))
             go_roundg k2
             case measure => have := HK1.out; have := HK2.out; omega
             case rel => exact ⟨(wrap64 (x59_2 + 1)), (by first | rfl | (simp; done) | (simp [*]; done)), H', ⟨by have := HK1.out; have := HK2.out; omega⟩, ⟨by apply blk_u; exact q2.out⟩, ⟨bl HB⟩⟩
            ·
             rw [if_neg c33] at H
             have Y7 : (z7 == 0) = false := beq_eq_false_iff_ne.mpr c33
             have Y8 : (z7 != 0) = true := bne_iff_ne.mpr c33
             obtain rfl := Option.some.inj H
             obtain ⟨Yl, Ym, Yn, Yo, Yp, Yq, Yr, Ys, Yt, Yu, Yv, Yw⟩ := cf6 q2
             go_wp2_with (first | ((with_reducible refine gate_callee (f := 47) rfl ?_); refine gL (some 64) Try.func47 #[.agg #[.int .i64 q4, .slice j9 q5.length z0, .slice z1 q6.length z2, .slice j5 q3.length j6, .slice j3 q0.length j4, .slice z3 q7.length z4], .int .i64 x59_2] ?_; (with_reducible refine (Qag.calls k2 q4 _ _ q5 _ _ q6 _ _ q3 _ _ q0 _ _ q7 x59_2 z7 _ ?side1 ?side2 ?side3 ?side4 ?side5 ?side6 ?side7 ?side8 ?side9 ?side10 A32.out).mono ?_); (case side1 => exact Cb Q7 HB); (case side2 => exact Q8.out); (case side3 => exact Cb Q9 HB); (case side4 => exact Qa.out); (case side5 => exact Cb Q4 HB); (case side6 => exact Q5.out); (case side7 => exact Cb j7 HB); (case side8 => exact z8.out); (case side9 => exact Cb Qb HB); (case side10 => exact Qc.out); rintro e w37 ⟨rfl, hb⟩; refine ⟨_, rfl, ?_⟩; replace q2 := Bb q2 hb; replace HB := bs HB hb; (try clear hb)))
             go_ret
             exact ⟨by first | rfl | (simp [errW_none, errW_some] <;> rfl) | (simp [*, errW_none, errW_some] <;> rfl), bl HB⟩
           ·
            rw [if_neg c31] at H
            have Y6 : decide (x59_2 < a1) = false := decide_eq_false c31
            clear c31
            obtain rfl := Option.some.inj H
            go_wp2
            go_ret
            exact ⟨by first | rfl | (simp [errW_none, errW_some] <;> rfl) | (simp [*, errW_none, errW_some] <;> rfl), bl HB⟩
     ·
      rw [if_neg c12] at H
      have Zv : (q8 == 0) = false := beq_eq_false_iff_ne.mpr c12
      have Zw : (q8 != 0) = true := bne_iff_ne.mpr c12
      obtain rfl := Option.some.inj H
      go_enter Try.func23, Try.ntmps23
      go_wp2_with (first | ((with_reducible refine gate_dst (N := 2) rfl ?_); refine bx 2 #[.int .i64 q4, .slice j9 q5.length z0, .slice z1 q6.length z2, .slice j5 q3.length j6, .slice j3 q0.length j4, .slice z3 q7.length z4] 39 ?_; intro j1 hg w38 hbox hb; have q2 := Qaa.mk (hbox); have Qd := Qaa.mk ((by rw [hg]; exact (below_size (bl HB)) : w.heap.size ≤ j1)); have Qe := Qaa.mk ((by rw [hg]; exact (below_size (bl HB)) : w.heap.size ≤ j1)); replace HB := bs HB hb; clear hb hbox hg) | ((with_reducible refine gate_callee (f := 25) rfl ?_); refine gL (some 13) Try.func25 #[.int .i64 a1, .int .i64 0, .int .i64 1000] ?_; (with_reducible refine (Qau.calls a1 0 1000 true _ A3.out).mono ?_); rintro e w' ⟨rfl, ⟨nd, rfl⟩⟩; refine ⟨_, rfl, ?_⟩; obtain ⟨Yx, Yy, Yz, X0, X1, X2, X3, X4, X5, X6, X7, X8⟩ := cf6 q2) | ((with_reducible refine gate_callee (f := 25) rfl ?_); refine gL (some 17) Try.func25 #[.int .i64 q4, .int .i64 1, .int .i64 3] ?_; (with_reducible refine (Qau.calls q4 1 3 true _ A5.out).mono ?_); rintro e w' ⟨rfl, ⟨nd, rfl⟩⟩; refine ⟨_, rfl, ?_⟩) | ((with_reducible refine gate_callee (f := 45) rfl ?_); refine gL (some 21) Try.func45 #[.agg #[.int .i64 q4, .slice j9 q5.length z0, .slice z1 q6.length z2, .slice j5 q3.length j6, .slice j3 q0.length j4, .slice z3 q7.length z4], .int .i64 a1] ?_; (with_reducible refine (Qab.calls k q4 _ _ q5 _ _ q6 _ _ q3 _ _ q0 _ _ q7 a1 j0 _ ?side1 ?side2 ?side3 ?side4 ?side5 ?side6 ?side7 ?side8 ?side9 ?side10 A7.out).mono ?_); (case side1 => repeat (first | exact (Kd.C_below Q7.out (bl HB)) | (with_reducible refine Kd.C_alloc ?_ _) | (with_reducible refine Kd.C_drewN ?_ _) | (with_reducible refine Kd.C_drew ?_))); (case side2 => exact Q8.out); (case side3 => repeat (first | exact (Kd.C_below Q9.out (bl HB)) | (with_reducible refine Kd.C_alloc ?_ _) | (with_reducible refine Kd.C_drewN ?_ _) | (with_reducible refine Kd.C_drew ?_))); (case side4 => exact Qa.out); (case side5 => repeat (first | exact (Kd.C_below Q4.out (bl HB)) | (with_reducible refine Kd.C_alloc ?_ _) | (with_reducible refine Kd.C_drewN ?_ _) | (with_reducible refine Kd.C_drew ?_))); (case side6 => exact Q5.out); (case side7 => repeat (first | exact (Kd.C_below j7.out (bl HB)) | (with_reducible refine Kd.C_alloc ?_ _) | (with_reducible refine Kd.C_drewN ?_ _) | (with_reducible refine Kd.C_drew ?_))); (case side8 => exact z8.out); (case side9 => repeat (first | exact (Kd.C_below Qb.out (bl HB)) | (with_reducible refine Kd.C_alloc ?_ _) | (with_reducible refine Kd.C_drewN ?_ _) | (with_reducible refine Kd.C_drew ?_))); (case side10 => exact Qc.out); rintro e w40 ⟨rfl, hb⟩; refine ⟨_, rfl, ?_⟩; replace q2 := Bb q2 hb; replace HB := bs HB hb; (try clear hb); obtain ⟨X9, Xa, Xb, Xc, Xd, Xe, Xf, Xg, Xh, Xi, Xj, Xk⟩ := cf6 q2) | ((with_reducible refine gate_callee (f := 46) rfl ?_); refine gL (some 27) Try.func46 #[.slice j3 q0.length j4] ?_; (with_reducible refine (Qah.calls k _ _ q0 q9 _ ?side1 ?side2 A9.out).mono ?_); (case side1 => exact Cb j7 HB); (case side2 => exact z8.out); rintro e w42 ⟨rfl, hb⟩; refine ⟨_, rfl, ?_⟩; replace q2 := Bb q2 hb; replace HB := bs HB hb; (try clear hb); obtain ⟨Xl, Xm, Xn, Xo, Xp, Xq, Xr, Xs, Xt, Xu, Xv, Xw⟩ := cf6 q2) | ((with_reducible refine gate_callee (f := 46) rfl ?_); refine gL (some 33) Try.func46 #[.slice j5 q3.length j6] ?_; (with_reducible refine (Qah.calls k _ _ q3 q8 _ ?side1 ?side2 A11.out).mono ?_); (case side1 => exact Cb Q4 HB); (case side2 => exact Q5.out); rintro e w44 ⟨rfl, hb⟩; refine ⟨_, rfl, ?_⟩; replace q2 := Bb q2 hb; replace HB := bs HB hb; (try clear hb)))
      go_ret
      exact ⟨by first | rfl | (simp [errW_none, errW_some] <;> rfl) | (simp [*, errW_none, errW_some] <;> rfl), bl HB⟩
    ·
     rw [if_neg c10] at H
     have Zt : (q9 == 0) = false := beq_eq_false_iff_ne.mpr c10
     have Zu : (q9 != 0) = true := bne_iff_ne.mpr c10
     obtain rfl := Option.some.inj H
     go_enter Try.func23, Try.ntmps23
     go_wp2_with (first | ((with_reducible refine gate_dst (N := 2) rfl ?_); refine bx 2 #[.int .i64 q4, .slice j9 q5.length z0, .slice z1 q6.length z2, .slice j5 q3.length j6, .slice j3 q0.length j4, .slice z3 q7.length z4] 39 ?_; intro j1 hg w45 hbox hb; have q2 := Qaa.mk (hbox); have Qd := Qaa.mk ((by rw [hg]; exact (below_size (bl HB)) : w.heap.size ≤ j1)); have Qe := Qaa.mk ((by rw [hg]; exact (below_size (bl HB)) : w.heap.size ≤ j1)); replace HB := bs HB hb; clear hb hbox hg) | ((with_reducible refine gate_callee (f := 25) rfl ?_); refine gL (some 13) Try.func25 #[.int .i64 a1, .int .i64 0, .int .i64 1000] ?_; (with_reducible refine (Qau.calls a1 0 1000 true _ A3.out).mono ?_); rintro e w' ⟨rfl, ⟨nd, rfl⟩⟩; refine ⟨_, rfl, ?_⟩; obtain ⟨Xx, Xy, Xz, W0, W1, W2, W3, W4, W5, W6, W7, W8⟩ := cf6 q2) | ((with_reducible refine gate_callee (f := 25) rfl ?_); refine gL (some 17) Try.func25 #[.int .i64 q4, .int .i64 1, .int .i64 3] ?_; (with_reducible refine (Qau.calls q4 1 3 true _ A5.out).mono ?_); rintro e w' ⟨rfl, ⟨nd, rfl⟩⟩; refine ⟨_, rfl, ?_⟩) | ((with_reducible refine gate_callee (f := 45) rfl ?_); refine gL (some 21) Try.func45 #[.agg #[.int .i64 q4, .slice j9 q5.length z0, .slice z1 q6.length z2, .slice j5 q3.length j6, .slice j3 q0.length j4, .slice z3 q7.length z4], .int .i64 a1] ?_; (with_reducible refine (Qab.calls k q4 _ _ q5 _ _ q6 _ _ q3 _ _ q0 _ _ q7 a1 j0 _ ?side1 ?side2 ?side3 ?side4 ?side5 ?side6 ?side7 ?side8 ?side9 ?side10 A7.out).mono ?_); (case side1 => repeat (first | exact (Kd.C_below Q7.out (bl HB)) | (with_reducible refine Kd.C_alloc ?_ _) | (with_reducible refine Kd.C_drewN ?_ _) | (with_reducible refine Kd.C_drew ?_))); (case side2 => exact Q8.out); (case side3 => repeat (first | exact (Kd.C_below Q9.out (bl HB)) | (with_reducible refine Kd.C_alloc ?_ _) | (with_reducible refine Kd.C_drewN ?_ _) | (with_reducible refine Kd.C_drew ?_))); (case side4 => exact Qa.out); (case side5 => repeat (first | exact (Kd.C_below Q4.out (bl HB)) | (with_reducible refine Kd.C_alloc ?_ _) | (with_reducible refine Kd.C_drewN ?_ _) | (with_reducible refine Kd.C_drew ?_))); (case side6 => exact Q5.out); (case side7 => repeat (first | exact (Kd.C_below j7.out (bl HB)) | (with_reducible refine Kd.C_alloc ?_ _) | (with_reducible refine Kd.C_drewN ?_ _) | (with_reducible refine Kd.C_drew ?_))); (case side8 => exact z8.out); (case side9 => repeat (first | exact (Kd.C_below Qb.out (bl HB)) | (with_reducible refine Kd.C_alloc ?_ _) | (with_reducible refine Kd.C_drewN ?_ _) | (with_reducible refine Kd.C_drew ?_))); (case side10 => exact Qc.out); rintro e w47 ⟨rfl, hb⟩; refine ⟨_, rfl, ?_⟩; replace q2 := Bb q2 hb; replace HB := bs HB hb; (try clear hb); obtain ⟨W9, Wa, Wb, Wc, Wd, We, Wf, Wg, Wh, Wi, Wj, Wk⟩ := cf6 q2) | ((with_reducible refine gate_callee (f := 46) rfl ?_); refine gL (some 27) Try.func46 #[.slice j3 q0.length j4] ?_; (with_reducible refine (Qah.calls k _ _ q0 q9 _ ?side1 ?side2 A9.out).mono ?_); (case side1 => exact Cb j7 HB); (case side2 => exact z8.out); rintro e w49 ⟨rfl, hb⟩; refine ⟨_, rfl, ?_⟩; replace q2 := Bb q2 hb; replace HB := bs HB hb; (try clear hb)))
     go_ret
     exact ⟨by first | rfl | (simp [errW_none, errW_some] <;> rfl) | (simp [*, errW_none, errW_some] <;> rfl), bl HB⟩
   ·
    rw [if_neg c8] at H
    have Zx : (j0 == 0) = false := beq_eq_false_iff_ne.mpr c8
    have Zy : (j0 != 0) = true := bne_iff_ne.mpr c8
    obtain rfl := Option.some.inj H
    go_enter Try.func23, Try.ntmps23
    go_wp2_with (first | ((with_reducible refine gate_dst (N := 2) rfl ?_); refine bx 2 #[.int .i64 q4, .slice j9 q5.length z0, .slice z1 q6.length z2, .slice j5 q3.length j6, .slice j3 q0.length j4, .slice z3 q7.length z4] 39 ?_; intro j1 hg w50 hbox hb; have q2 := Qaa.mk (hbox); have Qd := Qaa.mk ((by rw [hg]; exact (below_size (bl HB)) : w.heap.size ≤ j1)); have Qe := Qaa.mk ((by rw [hg]; exact (below_size (bl HB)) : w.heap.size ≤ j1)); replace HB := bs HB hb; clear hb hbox hg) | ((with_reducible refine gate_callee (f := 25) rfl ?_); refine gL (some 13) Try.func25 #[.int .i64 a1, .int .i64 0, .int .i64 1000] ?_; (with_reducible refine (Qau.calls a1 0 1000 true _ A3.out).mono ?_); rintro e w' ⟨rfl, ⟨nd, rfl⟩⟩; refine ⟨_, rfl, ?_⟩; obtain ⟨Wl, Wm, Wn, Wo, Wp, Wq, Wr, Ws, Wt, Wu, Wv, Ww⟩ := cf6 q2) | ((with_reducible refine gate_callee (f := 25) rfl ?_); refine gL (some 17) Try.func25 #[.int .i64 q4, .int .i64 1, .int .i64 3] ?_; (with_reducible refine (Qau.calls q4 1 3 true _ A5.out).mono ?_); rintro e w' ⟨rfl, ⟨nd, rfl⟩⟩; refine ⟨_, rfl, ?_⟩) | ((with_reducible refine gate_callee (f := 45) rfl ?_); refine gL (some 21) Try.func45 #[.agg #[.int .i64 q4, .slice j9 q5.length z0, .slice z1 q6.length z2, .slice j5 q3.length j6, .slice j3 q0.length j4, .slice z3 q7.length z4], .int .i64 a1] ?_; (with_reducible refine (Qab.calls k q4 _ _ q5 _ _ q6 _ _ q3 _ _ q0 _ _ q7 a1 j0 _ ?side1 ?side2 ?side3 ?side4 ?side5 ?side6 ?side7 ?side8 ?side9 ?side10 A7.out).mono ?_); (case side1 => repeat (first | exact (Kd.C_below Q7.out (bl HB)) | (with_reducible refine Kd.C_alloc ?_ _) | (with_reducible refine Kd.C_drewN ?_ _) | (with_reducible refine Kd.C_drew ?_))); (case side2 => exact Q8.out); (case side3 => repeat (first | exact (Kd.C_below Q9.out (bl HB)) | (with_reducible refine Kd.C_alloc ?_ _) | (with_reducible refine Kd.C_drewN ?_ _) | (with_reducible refine Kd.C_drew ?_))); (case side4 => exact Qa.out); (case side5 => repeat (first | exact (Kd.C_below Q4.out (bl HB)) | (with_reducible refine Kd.C_alloc ?_ _) | (with_reducible refine Kd.C_drewN ?_ _) | (with_reducible refine Kd.C_drew ?_))); (case side6 => exact Q5.out); (case side7 => repeat (first | exact (Kd.C_below j7.out (bl HB)) | (with_reducible refine Kd.C_alloc ?_ _) | (with_reducible refine Kd.C_drewN ?_ _) | (with_reducible refine Kd.C_drew ?_))); (case side8 => exact z8.out); (case side9 => repeat (first | exact (Kd.C_below Qb.out (bl HB)) | (with_reducible refine Kd.C_alloc ?_ _) | (with_reducible refine Kd.C_drewN ?_ _) | (with_reducible refine Kd.C_drew ?_))); (case side10 => exact Qc.out); rintro e w52 ⟨rfl, hb⟩; refine ⟨_, rfl, ?_⟩; replace q2 := Bb q2 hb; replace HB := bs HB hb; (try clear hb)))
    go_ret
    exact ⟨by first | rfl | (simp [errW_none, errW_some] <;> rfl) | (simp [*, errW_none, errW_some] <;> rfl), bl HB⟩
  ·
   replace c6 := Bool.eq_false_iff.mpr c6
   subst c6
   have H1 : (some 4) = some r := by rw [if_neg (show ¬ (false = true) by decide)] at H; exact H
   clear H
   have H := H1
   clear H1
   obtain rfl := Option.some.inj H
   go_enter Try.func23, Try.ntmps23
   go_wp2_with (first | ((with_reducible refine gate_dst (N := 2) rfl ?_); refine bx 2 #[.int .i64 q4, .slice j9 q5.length z0, .slice z1 q6.length z2, .slice j5 q3.length j6, .slice j3 q0.length j4, .slice z3 q7.length z4] 39 ?_; intro j1 hg w53 hbox hb; have q2 := Qaa.mk (hbox); have Qd := Qaa.mk ((by rw [hg]; exact (below_size (bl HB)) : w.heap.size ≤ j1)); have Qe := Qaa.mk ((by rw [hg]; exact (below_size (bl HB)) : w.heap.size ≤ j1)); replace HB := bs HB hb; clear hb hbox hg) | ((with_reducible refine gate_callee (f := 25) rfl ?_); refine gL (some 13) Try.func25 #[.int .i64 a1, .int .i64 0, .int .i64 1000] ?_; (with_reducible refine (Qau.calls a1 0 1000 true _ A3.out).mono ?_); rintro e w' ⟨rfl, ⟨nd, rfl⟩⟩; refine ⟨_, rfl, ?_⟩; obtain ⟨Wx, Wy, Wz, V0, V1, V2, V3, V4, V5, V6, V7, V8⟩ := cf6 q2) | ((with_reducible refine gate_callee (f := 25) rfl ?_); refine gL (some 17) Try.func25 #[.int .i64 q4, .int .i64 1, .int .i64 3] ?_; (with_reducible refine (Qau.calls q4 1 3 false _ A5.out).mono ?_); rintro e w' ⟨rfl, ⟨nd, rfl⟩⟩; refine ⟨_, rfl, ?_⟩))
   go_ret
   exact ⟨by first | rfl | (simp [errW_none, errW_some] <;> rfl) | (simp [*, errW_none, errW_some] <;> rfl), bl HB⟩
 ·
  replace c4 := Bool.eq_false_iff.mpr c4
  subst c4
  have H1 : (some 1) = some r := by rw [if_neg (show ¬ (false = true) by decide)] at H; exact H
  clear H
  have H := H1
  clear H1
  obtain rfl := Option.some.inj H
  go_enter Try.func23, Try.ntmps23
  go_wp2_with (first | ((with_reducible refine gate_dst (N := 2) rfl ?_); refine bx 2 #[.int .i64 q4, .slice j9 q5.length z0, .slice z1 q6.length z2, .slice j5 q3.length j6, .slice j3 q0.length j4, .slice z3 q7.length z4] 39 ?_; intro j1 hg w55 hbox hb; have q2 := Qaa.mk (hbox); have Qd := Qaa.mk ((by rw [hg]; exact (below_size (bl HB)) : w.heap.size ≤ j1)); have Qe := Qaa.mk ((by rw [hg]; exact (below_size (bl HB)) : w.heap.size ≤ j1)); replace HB := bs HB hb; clear hb hbox hg) | ((with_reducible refine gate_callee (f := 25) rfl ?_); refine gL (some 13) Try.func25 #[.int .i64 a1, .int .i64 0, .int .i64 1000] ?_; (with_reducible refine (Qau.calls a1 0 1000 false _ A3.out).mono ?_); rintro e w' ⟨rfl, ⟨nd, rfl⟩⟩; refine ⟨_, rfl, ?_⟩))
  go_ret
  exact ⟨by first | rfl | (simp [errW_none, errW_some] <;> rfl) | (simp [*, errW_none, errW_some] <;> rfl), bl HB⟩
end Go.Proofs.Ytphnmaobpefoiaa.XW
end
section
namespace Go.Proofs.Ytphnmaobpefoiaa.XW
open Go.RowKit Go.Proofs.YtphnmaobpefoiaaXW Go.Proofs.YtphnmaobpefoiaaW.PrintWords Go.Proofs.YtphnmaobpefoiaaW.PrintLast Go.Proofs.YtphnmaobpefoiaaW.PrintMore
attribute [local go_sem] max2_int min2_int max_two min_two max_three min_three max_four min_four sleq
set_option linter.unusedVariables false
set_option linter.unusedSimpArgs false
def Qaw.l0 : Nat → List Int → Int → Int → Option (List Int)
 | 0, _, _, _ => none
 | k + 1, x3, x11, x12 => if x12 < x11 then (if x3.length < 17592186044416 then (Qaw.l0 k (x3 ++ [x12]) x11 (wrap64 (x12 + 1))) else (none)) else (some x3)
def Qaw.f (k : Nat) (q1 : Int) (q4 : List (S39)) (j0 : Bool) (q0 : List Int) : Option (List Int) := if j0 = true then (Qaw.l0 k ([] : List Int) q1 0) else (some q0)
set_option maxHeartbeats 8000000 in
set_option maxRecDepth 100000 in
theorem Qaw.calls (k : Nat) (q1 : Int) (j1 : Option Addr) (j2 : Nat) (q4 : List (S39)) (j0 : Bool) (q9 : Nat → Prop) (q7 : Option Addr) (q8 : Nat) (q0 : List Int) (r : List Int) (w : World) (j4 : Kd.C k39 w j1 q4.length q4) (j5 : q4.length ≤ j2) (hs0_3 : Kd.V (Kd.int .i64) 3 w w.heap.size (fun k_ => q9 k_) (.slice q7 q0.length q8) q0) (h : Qaw.f k q1 q4 j0 q0 = some r) :
  Calls Try.prog 22 #[.agg #[.int .i64 q1, .slice j1 q4.length j2, .bool j0, .slice q7 q0.length q8]] w fun e w' => ∃ v0_ : Value, e = .returned (v0_) ∧ Kd.V (Kd.int .i64) 3 w' w.heap.size (fun k_ => (q9 k_ ∨ w.heap.size ≤ k_)) v0_ r ∧ Below w.heap.size w w' := by
 have hu26 := Try.underlying26
 have y9 := Qaa.mk j4
 have Q0 := Qaa.mk j5
 clear j4 j5
 have q6 := Qaa.mk (show Kd.V (Kd.int .i64) 3 w w.heap.size (fun k_ => (q9 k_ ∨ w.heap.size ≤ k_)) (.slice q7 q0.length q8) q0 from Kd.V_mono hs0_3 (fun k_ hk => .inl hk))
 have HB := Qaa.mk (Below.refl w.heap.size w)
 have H : (if j0 = true then (Qaw.l0 k ([] : List Int) q1 0) else (some q0)) = some r := h
 clear h
 by_cases c2 : j0 = true
 ·
  subst c2
  have H1 : (Qaw.l0 k ([] : List Int) q1 0) = some r := by rw [if_pos rfl] at H; exact H
  clear H
  have H := H1
  clear H1
  have H' := Qaa.mk H
  clear H
  go_enter Try.func22, Try.ntmps22
  go_wp2_with (first | ((with_reducible refine gate_dst (N := 1) rfl ?_); refine bx 1 #[.int .i64 q1, .slice j1 q4.length j2, .bool true, .slice q7 q0.length q8] 26 ?_; intro q2 hg w3 hbox hb; have q3 := Qaa.mk (hbox); have z4 := Qaa.mk ((by rw [hg]; exact (below_size (bl HB)) : w.heap.size ≤ q2)); have z5 := Qaa.mk ((by rw [hg]; exact (below_size (bl HB)) : w.heap.size ≤ q2)); replace q6 := Qaa.mk (Kd.V_below (Kd.V_elderB (V_u q6.out) q2 (Nat.le_of_eq hg.symm)) hb); replace HB := bs HB hb; clear hb hbox hg; obtain ⟨j6, j7, j8, j9, z0, z1, z2, z3⟩ := cf4 q3))
  go_loopg [3, 12] k (fun kq v3 v12 w' => ∃ (x3_1 : List Int) (x12_1 : Int), v12 = .int .i64 x12_1 ∧ Qaa (Qaw.l0 kq x3_1 q1 x12_1 = some r) ∧ Qaa (kq ≤ k) ∧ Qaa (Kd.R (Kd.int .i64) 3 w' w.heap.size (fun k_ => (w.heap.size ≤ k_)) v3 x3_1) ∧ Qaa (Kd.V (Kd.int .i64) 3 w' w.heap.size (fun k_ => (q9 k_ ∨ w.heap.size ≤ k_) ∧ some k_ ≠ (v3 : Value).ownBlock ∧ k_ ≠ q2) (.slice q7 q0.length q8) q0) ∧ Qaa (w'.heap[q2]? = some (.cells #[.int .i64 q1, (.slice j1 q4.length j2), .bool true, (.slice q7 q0.length q8)] 26 (0, 0))) ∧ Qaa (Below w.heap.size w w'))
  case atStart => exact ⟨(([] : List Int)), (0), (by first | rfl | (simp; done) | (simp [*]; done)), H', ⟨Nat.le_refl _⟩, ⟨by first | exact Kd.R_nil _ _ _ _ _ | exact Kd.N_nil _ _ _ _ _ | exact Kd.V_nil _ _ _ _ _ | exact Kd.Q_nil _ _ _ _ _ | exact Kd.S_nil _ _ _ _ _⟩, ⟨by apply V_u; exact Kd.V_mono q6.out (fun _ hk => ⟨hk.1, ⟨(by simp [Value.ownBlock]), hk.2⟩⟩)⟩, ⟨by apply blk_u; exact q3.out⟩, ⟨bl HB⟩⟩
  case round =>
   clear H'
   try clear c2
   try clear p2
   try clear j6
   try clear j7
   try clear j8
   try clear j9
   try clear z0
   try clear z1
   try clear z2
   try clear z3
   obtain ⟨x3_1, x12_1, rfl, HA, HK1, j3, q5, q3, HB⟩ := hrel
   cases gk with
   | zero => exact absurd HA.out (by simp [Qaw.l0])
   | succ k1 =>
    have H := HA.out
    clear HA
    simp only [Qaw.l0] at H
    by_cases c5 : x12_1 < q1
    ·
     rw [if_pos c5] at H
     have z7 : decide (x12_1 < q1) = true := decide_eq_true c5
     clear c5
     by_cases c6 : x3_1.length < 17592186044416
     ·
      rw [if_pos c6] at H
      have LMc6 := Qaa.mk c6
      clear c6
      obtain ⟨y237, hy237⟩ : ∃ y_ : List Int, y_ = (x3_1 ++ [x12_1]) := ⟨_, rfl⟩
      replace H : (Qaw.l0 k1 y237 q1 (wrap64 (x12_1 + 1))) = some r := by first | (rw [hy237]; with_reducible exact H) | (have H2_ := (Option.bind_some _ _).symm.trans H; rw [hy237]; with_reducible exact H2_) | (have H2_ := (Option.bind_some _ _).symm.trans H; with_reducible exact H2_) | with_reducible exact H | (rw [hy237]; exact H) | exact H
      have Ny237 := Qaa.mk hy237
      clear hy237
      have H' := Qaa.mk H
      clear H
      go_wp2_with (first | ((with_reducible refine gate_builtin (b := .append) (xs := #[.tmp 15, .tmp 17]) rfl ?_); at_builtin; refine Kd.R_append (Kd.int .i64) (w0 := w) w.heap.size rfl (.tmp 15) (.tmp 17) 24 3 (.int .i64 0) 8 rfl Try.underlying24 info3 rfl (by decide) (by omega) u3 x3_1 x12_1 [.int .i64 x12_1] (fun k_ => (w.heap.size ≤ k_)) (fun _ => False) rfl rfl ?aP (fun _ hk => hk.elim) ?aF ?aO ?aB ?aS ?aL ?_; (case aP => exact rfl); (case aB => exact (bl HB)); (case aF => exact (fun k_ hk => (Nat.le_trans (below_size (bl HB)) hk))); (case aO => exact (R_u j3.out)); (case aS => exact (below_size (bl HB))); (case aL => have := LMc6.out; omega); intro Q1 w7 ho hb hg hat; rw [← Ny237.out] at ho; have z6 := Qaa.mk (ho); replace q5 := Qaa.mk (Kd.V_afterv (ok := (fun k_ => (q9 k_ ∨ w.heap.size ≤ k_) ∧ k_ ≠ q2)) (by apply V_u; exact Vm q5.out) hg hat); replace q3 := Qaa.mk (blk_grown (Ub q3) hg (Kd.R_ne j3.out q3.out (by decide))); replace HB := Qaa.mk (hb); clear j3; clear ho hb hg hat))
      go_roundg k1
      case measure => have := HK1.out; omega
      case rel => exact ⟨(y237), (wrap64 (x12_1 + 1)), (by first | rfl | (simp; done) | (simp [*]; done)), H', ⟨by have := HK1.out; omega⟩, ⟨by apply R_u; exact z6.out⟩, ⟨by apply V_u; exact Vm q5.out⟩, ⟨by apply blk_u; exact q3.out⟩, ⟨bl HB⟩⟩
     ·
      rw [if_neg c6] at H
      exact absurd H (by simp)
    ·
     rw [if_neg c5] at H
     have z7 : decide (x12_1 < q1) = false := decide_eq_false c5
     clear c5
     obtain rfl := Option.some.inj H
     go_wp2
     go_ret
     exact ⟨_, by first | rfl | (simp [errW_none, errW_some] <;> rfl) | (simp [*, errW_none, errW_some] <;> rfl), Kd.V_mono (Kd.R_V (R_u j3.out)) (fun k_ hk => by first | exact ⟨(.inr (hk.1)), hk.2⟩ | exact (.inr (hk))), bl HB⟩
 ·
  replace c2 := Bool.eq_false_iff.mpr c2
  subst c2
  have H1 : (some q0) = some r := by rw [if_neg (show ¬ (false = true) by decide)] at H; exact H
  clear H
  have H := H1
  clear H1
  obtain rfl := Option.some.inj H
  go_enter Try.func22, Try.ntmps22
  go_wp2_with (first | ((with_reducible refine gate_dst (N := 1) rfl ?_); refine bx 1 #[.int .i64 q1, .slice j1 q4.length j2, .bool false, .slice q7 q0.length q8] 26 ?_; intro q2 hg w8 hbox hb; have q3 := Qaa.mk (hbox); have z4 := Qaa.mk ((by rw [hg]; exact (below_size (bl HB)) : w.heap.size ≤ q2)); have z5 := Qaa.mk ((by rw [hg]; exact (below_size (bl HB)) : w.heap.size ≤ q2)); replace q6 := Qaa.mk (Kd.V_below (Kd.V_elderB (V_u q6.out) q2 (Nat.le_of_eq hg.symm)) hb); replace HB := bs HB hb; clear hb hbox hg; obtain ⟨z8, z9, y3, y4, y5, y6, y7, y8⟩ := cf4 q3))
  go_ret
  exact ⟨_, by first | rfl | (simp [errW_none, errW_some] <;> rfl) | (simp [*, errW_none, errW_some] <;> rfl), by apply V_u; exact Kd.V_mono q6.out (fun _ hk => hk.1), bl HB⟩
end Go.Proofs.Ytphnmaobpefoiaa.XW
end
section
namespace Go.Proofs.Ytphnmaobpefoiaa.XW
open Go.RowKit Go.Proofs.YtphnmaobpefoiaaXW Go.Proofs.YtphnmaobpefoiaaW.PrintWords Go.Proofs.YtphnmaobpefoiaaW.PrintLast Go.Proofs.YtphnmaobpefoiaaW.PrintMore
attribute [local go_sem] max2_int min2_int max_two min_two max_three min_three max_four min_four sleq
set_option linter.unusedVariables false
set_option linter.unusedSimpArgs false
theorem eqA41 (d : Nat) (w : World) (x0 y0 : Int) (x1 y1 : Int) (x2 y2 : ByteArray) :
  (Op.equalIn (d + 2) 41 (.agg #[.int .i64 x0, .int .i64 x1, .string x2]) (.agg #[.int .i64 y0, .int .i64 y1, .string y2])).run Try.prog w = .ok (x0 == y0 && (x1 == y1 && (x2.toList == y2.toList))) w := by
 refine eqA_of Try.underlying41 (by kernel_rfl) ?_
 refine eqf_cons (by rfl) (by go_simp; rfl) (by go_simp; rfl) (by go_simp) ?_
 refine eqf_cons (by rfl) (by go_simp; rfl) (by go_simp; rfl) (by go_simp) ?_
 exact eqf_last (by rfl) (by go_simp; rfl) (by go_simp; rfl) (by go_simp)
end Go.Proofs.Ytphnmaobpefoiaa.XW
end
section
namespace Go.Proofs.Ytphnmaobpefoiaa.XW
open Go.RowKit Go.Proofs.YtphnmaobpefoiaaXW Go.Proofs.YtphnmaobpefoiaaW.PrintWords Go.Proofs.YtphnmaobpefoiaaW.PrintLast Go.Proofs.YtphnmaobpefoiaaW.PrintMore
attribute [local go_sem] max2_int min2_int max_two min_two max_three min_three max_four min_four sleq
set_option linter.unusedVariables false
set_option linter.unusedSimpArgs false
def Qba.f (q7 : Int) (q4 : List Bool) (q1 : List Int) (q2 : List ByteArray) (q5 : List ByteArray) (q0 : List Int) : Option (Int) := if (q1.length : Int) < (q2.length : Int) then (if (q2.length : Int) < (q0.length : Int) then (some (q0.length : Int)) else (some (q2.length : Int))) else (if (q1.length : Int) < (q0.length : Int) then (some (q0.length : Int)) else (some (q1.length : Int)))
set_option maxHeartbeats 8000000 in
set_option maxRecDepth 100000 in
theorem Qba.calls (q7 : Int) (q8 : Option Addr) (q9 : Nat) (q4 : List Bool) (j0 : Option Addr) (j1 : Nat) (q1 : List Int) (j2 : Option Addr) (j3 : Nat) (q2 : List ByteArray) (j4 : Option Addr) (j5 : Nat) (q5 : List ByteArray) (j6 : Option Addr) (j7 : Nat) (q0 : List Int) (r : Int) (w : World) (z0 : Kd.C Kd.bool w q8 q4.length q4) (z1 : q4.length ≤ q9) (z2 : Kd.C (Kd.int .i64) w j0 q1.length q1) (z3 : q1.length ≤ j1) (z4 : Kd.C Kd.string w j2 q2.length q2) (z5 : q2.length ≤ j3) (z6 : Kd.C Kd.string w j4 q5.length q5) (z7 : q5.length ≤ j5) (z8 : Kd.C (Kd.int .i64) w j6 q0.length q0) (z9 : q0.length ≤ j7) (h : Qba.f q7 q4 q1 q2 q5 q0 = some r) :
  Calls Try.prog 24 #[.agg #[.int .i64 q7, .slice q8 q4.length q9, .slice j0 q1.length j1, .slice j2 q2.length j3, .slice j4 q5.length j5, .slice j6 q0.length j7]] w fun e w' => e = .returned (.int .i64 r) ∧ Below w.heap.size w w' := by
 have hu39 := Try.underlying39
 have Z8 := Qaa.mk z0
 have Z9 := Qaa.mk z1
 clear z0 z1
 have Za := Qaa.mk z2
 have Zb := Qaa.mk z3
 clear z2 z3
 have Zc := Qaa.mk z4
 have Zd := Qaa.mk z5
 clear z4 z5
 have Ze := Qaa.mk z6
 have Zf := Qaa.mk z7
 clear z6 z7
 have Zg := Qaa.mk z8
 have Zh := Qaa.mk z9
 clear z8 z9
 have HB := Qaa.mk (Below.refl w.heap.size w)
 have H : (if (q1.length : Int) < (q2.length : Int) then (if (q2.length : Int) < (q0.length : Int) then (some (q0.length : Int)) else (some (q2.length : Int))) else (if (q1.length : Int) < (q0.length : Int) then (some (q0.length : Int)) else (some (q1.length : Int)))) = some r := h
 clear h
 by_cases c2 : (q1.length : Int) < (q2.length : Int)
 ·
  rw [if_pos c2] at H
  have c2i := eq_true c2
  have y0 : decide ((q1.length : Int) < (q2.length : Int)) = true := decide_eq_true c2
  have y1 : decide (q1.length < q2.length) = true := decide_eq_true (Int.ofNat_lt.mp c2)
  clear c2
  by_cases c3 : (q2.length : Int) < (q0.length : Int)
  ·
   rw [if_pos c3] at H
   have c3i := eq_true c3
   have y2 : decide ((q2.length : Int) < (q0.length : Int)) = true := decide_eq_true c3
   have y3 : decide (q2.length < q0.length) = true := decide_eq_true (Int.ofNat_lt.mp c3)
   clear c3
   obtain rfl := Option.some.inj H
   go_enter Try.func24, Try.ntmps24
   go_wp2_with (first | ((with_reducible refine gate_dst (N := 1) rfl ?_); refine bx 1 #[.int .i64 q7, .slice q8 q4.length q9, .slice j0 q1.length j1, .slice j2 q2.length j3, .slice j4 q5.length j5, .slice j6 q0.length j7] 39 ?_; intro q3 hg w4 hbox hb; have q6 := Qaa.mk (hbox); have j8 := Qaa.mk ((by rw [hg]; exact (below_size (bl HB)) : w.heap.size ≤ q3)); have j9 := Qaa.mk ((by rw [hg]; exact (below_size (bl HB)) : w.heap.size ≤ q3)); replace HB := bs HB hb; clear hb hbox hg; obtain ⟨Qk, Ql, Qm, Qn, Qo, Qp, Qq, Qr, Qs, Qt, Qu, Qv⟩ := cf6 q6))
   go_ret
   exact ⟨by first | rfl | (simp [errW_none, errW_some] <;> rfl) | (simp [*, errW_none, errW_some] <;> rfl), bl HB⟩
  ·
   rw [if_neg c3] at H
   have c3i := eq_false c3
   have y2 : decide ((q2.length : Int) < (q0.length : Int)) = false := decide_eq_false c3
   have y3 : decide (q2.length < q0.length) = false := decide_eq_false (fun h => c3 (Int.ofNat_lt.mpr h))
   clear c3
   obtain rfl := Option.some.inj H
   go_enter Try.func24, Try.ntmps24
   go_wp2_with (first | ((with_reducible refine gate_dst (N := 1) rfl ?_); refine bx 1 #[.int .i64 q7, .slice q8 q4.length q9, .slice j0 q1.length j1, .slice j2 q2.length j3, .slice j4 q5.length j5, .slice j6 q0.length j7] 39 ?_; intro q3 hg w6 hbox hb; have q6 := Qaa.mk (hbox); have j8 := Qaa.mk ((by rw [hg]; exact (below_size (bl HB)) : w.heap.size ≤ q3)); have j9 := Qaa.mk ((by rw [hg]; exact (below_size (bl HB)) : w.heap.size ≤ q3)); replace HB := bs HB hb; clear hb hbox hg; obtain ⟨Qw, Qx, Qy, Qz, Z0, Z1, Z2, Z3, Z4, Z5, Z6, Z7⟩ := cf6 q6))
   go_ret
   exact ⟨by first | rfl | (simp [errW_none, errW_some] <;> rfl) | (simp [*, errW_none, errW_some] <;> rfl), bl HB⟩
 ·
  rw [if_neg c2] at H
  have c2i := eq_false c2
  have y0 : decide ((q1.length : Int) < (q2.length : Int)) = false := decide_eq_false c2
  have y1 : decide (q1.length < q2.length) = false := decide_eq_false (fun h => c2 (Int.ofNat_lt.mpr h))
  clear c2
  by_cases c8 : (q1.length : Int) < (q0.length : Int)
  ·
   rw [if_pos c8] at H
   have c8i := eq_true c8
   have y4 : decide ((q1.length : Int) < (q0.length : Int)) = true := decide_eq_true c8
   have y5 : decide (q1.length < q0.length) = true := decide_eq_true (Int.ofNat_lt.mp c8)
   clear c8
   obtain rfl := Option.some.inj H
   go_enter Try.func24, Try.ntmps24
   go_wp2_with (first | ((with_reducible refine gate_dst (N := 1) rfl ?_); refine bx 1 #[.int .i64 q7, .slice q8 q4.length q9, .slice j0 q1.length j1, .slice j2 q2.length j3, .slice j4 q5.length j5, .slice j6 q0.length j7] 39 ?_; intro q3 hg w9 hbox hb; have q6 := Qaa.mk (hbox); have j8 := Qaa.mk ((by rw [hg]; exact (below_size (bl HB)) : w.heap.size ≤ q3)); have j9 := Qaa.mk ((by rw [hg]; exact (below_size (bl HB)) : w.heap.size ≤ q3)); replace HB := bs HB hb; clear hb hbox hg; obtain ⟨y6, y7, y8, y9, Q0, Q1, Q2, Q3, Q4, Q5, Q6, Q7⟩ := cf6 q6))
   go_ret
   exact ⟨by first | rfl | (simp [errW_none, errW_some] <;> rfl) | (simp [*, errW_none, errW_some] <;> rfl), bl HB⟩
  ·
   rw [if_neg c8] at H
   have c8i := eq_false c8
   have y4 : decide ((q1.length : Int) < (q0.length : Int)) = false := decide_eq_false c8
   have y5 : decide (q1.length < q0.length) = false := decide_eq_false (fun h => c8 (Int.ofNat_lt.mpr h))
   clear c8
   obtain rfl := Option.some.inj H
   go_enter Try.func24, Try.ntmps24
   go_wp2_with (first | ((with_reducible refine gate_dst (N := 1) rfl ?_); refine bx 1 #[.int .i64 q7, .slice q8 q4.length q9, .slice j0 q1.length j1, .slice j2 q2.length j3, .slice j4 q5.length j5, .slice j6 q0.length j7] 39 ?_; intro q3 hg w11 hbox hb; have q6 := Qaa.mk (hbox); have j8 := Qaa.mk ((by rw [hg]; exact (below_size (bl HB)) : w.heap.size ≤ q3)); have j9 := Qaa.mk ((by rw [hg]; exact (below_size (bl HB)) : w.heap.size ≤ q3)); replace HB := bs HB hb; clear hb hbox hg; obtain ⟨Q8, Q9, Qa, Qb, Qc, Qd, Qe, Qf, Qg, Qh, Qi, Qj⟩ := cf6 q6))
   go_ret
   exact ⟨by first | rfl | (simp [errW_none, errW_some] <;> rfl) | (simp [*, errW_none, errW_some] <;> rfl), bl HB⟩
end Go.Proofs.Ytphnmaobpefoiaa.XW
end
section
namespace Go.Proofs.Ytphnmaobpefoiaa.XW
open Go.RowKit Go.Proofs.YtphnmaobpefoiaaXW Go.Proofs.YtphnmaobpefoiaaW.PrintWords Go.Proofs.YtphnmaobpefoiaaW.PrintLast Go.Proofs.YtphnmaobpefoiaaW.PrintMore
attribute [local go_sem] max2_int min2_int max_two min_two max_three min_three max_four min_four sleq
set_option linter.unusedVariables false
set_option linter.unusedSimpArgs false
def Qav.f (q9 : Int) (j2 : List Bool) (q8 : List Int) (q7 : List ByteArray) (q6 : List ByteArray) (q3 : List Int) (a1 : Int) : Option (Int × Int × ByteArray) := (Qay.f q9 j2 q8 q7 q6 q3 a1).bind fun y9 => (if y9 = true then (some (0, 0, (⟨#[]⟩ : ByteArray))) else (if q9 = 3 then ((Qax.f q9 j2 q8 q7 q6 q3).bind fun z5 => (if z5 = true then (if 0 ≤ a1 then (if a1 < (q3.length : Int) then (if 0 ≤ (rd q3 a1) then (if (rd q3 a1) < (q6.length : Int) then ((Qbc.f (rdOf ByteArray.empty q6 (rd q3 a1))).bind fun j3 => (some (j3.1, j3.2.1, j3.2.2))) else (none)) else (none)) else (none)) else (none)) else (if 0 ≤ a1 then (if a1 < (q7.length : Int) then ((Qbc.f (rdOf ByteArray.empty q7 a1)).bind fun j4 => (some (j4.1, j4.2.1, j4.2.2))) else (none)) else (none)))) else (if 0 ≤ a1 then (if a1 < (q8.length : Int) then (some (q9, rd q8 a1, (⟨#[]⟩ : ByteArray))) else (none)) else (none))))
def Qav.T4 : Bool × List (List Nat × List Nat) := (true, [([], []), ([0], [0]), ([], []), ([2], [2]), ([], []), ([3, 4], [3, 4]), ([5], [5]), ([1, 6], [1, 6]), ([7, 0, 1, 2, 3, 4, 5, 6, 7], [7])])
def Qav.B4 : List Nat := [0, 1, 0, 4, 0, 28, 60, 127, 255]
theorem Qav.tab4 : rtab .any (opsOf Try.f26 4) = Qav.T4 := by kernel_rfl
theorem Qav.bits4 : waitsOk Qav.T4.2 Qav.B4 = true := by kernel_rfl
def Qav.T6 : Bool × List (List Nat × List Nat) := (true, [([], []), ([0], [0]), ([], []), ([2], [2]), ([], []), ([3, 4], [3, 4]), ([5], [5]), ([1, 6], [1, 6]), ([7], [7]), ([8], [8]), ([9, 9, 0, 1, 2, 3, 4, 5, 6, 7, 8, 9], [9])])
def Qav.B6 : List Nat := [0, 1, 0, 4, 0, 28, 60, 127, 255, 511, 1023]
theorem Qav.tab6 : rtab .any (opsOf Try.f26 6) = Qav.T6 := by kernel_rfl
theorem Qav.bits6 : waitsOk Qav.T6.2 Qav.B6 = true := by kernel_rfl
set_option maxHeartbeats 8000000 in
set_option maxRecDepth 100000 in
theorem Qav.calls (q9 : Int) (j5 : Option Addr) (j6 : Nat) (j2 : List Bool) (z2 : Option Addr) (j7 : Nat) (q8 : List Int) (j8 : Option Addr) (j9 : Nat) (q7 : List ByteArray) (z3 : Option Addr) (z0 : Nat) (q6 : List ByteArray) (z4 : Option Addr) (z1 : Nat) (q3 : List Int) (a1 : Int) (r1 : Int) (r2 : Int) (r3 : ByteArray) (w : World) (Qa : Kd.C Kd.bool w j5 j2.length j2) (Qb : j2.length ≤ j6) (Qc : Kd.C (Kd.int .i64) w z2 q8.length q8) (Qd : q8.length ≤ j7) (Qe : Kd.C Kd.string w j8 q7.length q7) (Qf : q7.length ≤ j9) (Qg : Kd.C Kd.string w z3 q6.length q6) (Qh : q6.length ≤ z0) (Qi : Kd.C (Kd.int .i64) w z4 q3.length q3) (Qj : q3.length ≤ z1) (h : Qav.f q9 j2 q8 q7 q6 q3 a1 = some (r1, r2, r3)) :
  Calls Try.prog 26 #[.agg #[.int .i64 q9, .slice j5 j2.length j6, .slice z2 q8.length j7, .slice j8 q7.length j9, .slice z3 q6.length z0, .slice z4 q3.length z1], .int .i64 a1] w fun e w' => e = .returned (.agg #[.int .i64 r1, .int .i64 r2, .string r3]) ∧ Below w.heap.size w w' := by
 have hu39 := Try.underlying39
 have hu41 := Try.underlying41
 have y3 := Qaa.mk Qa
 have y4 := Qaa.mk Qb
 clear Qa Qb
 have z9 := Qaa.mk Qc
 have y5 := Qaa.mk Qd
 clear Qc Qd
 have y0 := Qaa.mk Qe
 have y6 := Qaa.mk Qf
 clear Qe Qf
 have y1 := Qaa.mk Qg
 have y7 := Qaa.mk Qh
 clear Qg Qh
 have y2 := Qaa.mk Qi
 have y8 := Qaa.mk Qj
 clear Qi Qj
 have HB := Qaa.mk (Below.refl w.heap.size w)
 have H : ((Qay.f q9 j2 q8 q7 q6 q3 a1).bind fun y9 => (if y9 = true then (some (0, 0, (⟨#[]⟩ : ByteArray))) else (if q9 = 3 then ((Qax.f q9 j2 q8 q7 q6 q3).bind fun z5 => (if z5 = true then (if 0 ≤ a1 then (if a1 < (q3.length : Int) then (if 0 ≤ (rd q3 a1) then (if (rd q3 a1) < (q6.length : Int) then ((Qbc.f (rdOf ByteArray.empty q6 (rd q3 a1))).bind fun j3 => (some (j3.1, j3.2.1, j3.2.2))) else (none)) else (none)) else (none)) else (none)) else (if 0 ≤ a1 then (if a1 < (q7.length : Int) then ((Qbc.f (rdOf ByteArray.empty q7 a1)).bind fun j4 => (some (j4.1, j4.2.1, j4.2.2))) else (none)) else (none)))) else (if 0 ≤ a1 then (if a1 < (q8.length : Int) then (some (q9, rd q8 a1, (⟨#[]⟩ : ByteArray))) else (none)) else (none))))) = some (r1, r2, r3) := h
 clear h
 replace H := Option.bind_eq_some_iff.mp H
 obtain ⟨y9, A30, H⟩ := H
 replace H : (if y9 = true then (some (0, 0, (⟨#[]⟩ : ByteArray))) else (if q9 = 3 then ((Qax.f q9 j2 q8 q7 q6 q3).bind fun z5 => (if z5 = true then (if 0 ≤ a1 then (if a1 < (q3.length : Int) then (if 0 ≤ (rd q3 a1) then (if (rd q3 a1) < (q6.length : Int) then ((Qbc.f (rdOf ByteArray.empty q6 (rd q3 a1))).bind fun j3 => (some (j3.1, j3.2.1, j3.2.2))) else (none)) else (none)) else (none)) else (none)) else (if 0 ≤ a1 then (if a1 < (q7.length : Int) then ((Qbc.f (rdOf ByteArray.empty q7 a1)).bind fun j4 => (some (j4.1, j4.2.1, j4.2.2))) else (none)) else (none)))) else (if 0 ≤ a1 then (if a1 < (q8.length : Int) then (some (q9, rd q8 a1, (⟨#[]⟩ : ByteArray))) else (none)) else (none)))) = some (r1, r2, r3) := H
 have A3 := Qaa.mk A30
 clear A30
 by_cases c4 : y9 = true
 ·
  subst c4
  have H1 : (some (0, 0, (⟨#[]⟩ : ByteArray))) = some (r1, r2, r3) := by rw [if_pos rfl] at H; exact H
  clear H
  have H := H1
  clear H1
  simp only [Option.some.injEq, Prod.mk.injEq] at H
  obtain ⟨rfl, rfl, rfl⟩ := H
  go_enter Try.func26, Try.ntmps26
  go_wp2_with (first | ((with_reducible refine gate_dst (N := 2) rfl ?_); refine bx 2 #[.int .i64 q9, .slice j5 j2.length j6, .slice z2 q8.length j7, .slice j8 q7.length j9, .slice z3 q6.length z0, .slice z4 q3.length z1] 39 ?_; intro j0 hg w5 hbox hb; have q2 := Qaa.mk (hbox); have Q3 := Qaa.mk ((by rw [hg]; exact (below_size (bl HB)) : w.heap.size ≤ j0)); have Q4 := Qaa.mk ((by rw [hg]; exact (below_size (bl HB)) : w.heap.size ≤ j0)); replace HB := bs HB hb; clear hb hbox hg) | ((with_reducible refine gate_dst (N := 4) rfl ?_); refine bx 4 #[.int .i64 0, .int .i64 0, .string (⟨#[]⟩ : ByteArray)] 41 ?_; intro q1 hg w6 hbox hb; have q4 := Qaa.mk (hbox); have q5 := Qaa.mk ((by rw [hg]; exact (below_size (bl HB)) : w.heap.size ≤ q1)); have Q5 := Qaa.mk ((by rw [hg]; exact (below_size (bl HB)) : w.heap.size ≤ q1)); have q0 := Qaa.mk ((by rw [hg]; exact Nat.ne_of_lt (blk_lt (Ub q2)) : j0 ≠ q1)); have j1 := Qaa.mk ((by rw [hg]; exact Nat.ne_of_gt (blk_lt (Ub q2)) : q1 ≠ j0)); replace q2 := Bb q2 hb; replace HB := bs HB hb; clear hb hbox hg; have X3 := q0.out; have X4 := j1.out; obtain ⟨Yd, Ye, Yf, Yg, Yh, Yi, Yj, Yk, Yl, Ym, Yn, Yo⟩ := cf6 q2) | ((with_reducible refine gate_callee (f := 48) rfl ?_); refine gL (some 8) Try.func48 #[.agg #[.int .i64 q9, .slice j5 j2.length j6, .slice z2 q8.length j7, .slice j8 q7.length j9, .slice z3 q6.length z0, .slice z4 q3.length z1], .int .i64 a1] ?_; (with_reducible refine (Qay.calls q9 _ _ j2 _ _ q8 _ _ q7 _ _ q6 _ _ q3 a1 true _ ?side1 ?side2 ?side3 ?side4 ?side5 ?side6 ?side7 ?side8 ?side9 ?side10 A3.out).mono ?_); (case side1 => exact Cb y3 HB); (case side2 => exact y4.out); (case side3 => exact Cb z9 HB); (case side4 => exact y5.out); (case side5 => exact Cb y0 HB); (case side6 => exact y6.out); (case side7 => exact Cb y1 HB); (case side8 => exact y7.out); (case side9 => exact Cb y2 HB); (case side10 => exact y8.out); rintro e w9 ⟨rfl, hb⟩; refine ⟨_, rfl, ?_⟩; replace q2 := Bb q2 hb; replace q4 := Bb q4 hb; replace HB := bs HB hb; (try clear hb); obtain ⟨Qp, Qq, Qr, Qs, Qt, Qu⟩ := cf3 q4))
  refine bodyPost_ret (results_cell_row rfl _ _ q1 41 #[.int .i64 0, .int .i64 0, .string (⟨#[]⟩ : ByteArray)] (0, 0) _ rfl (by apply blk_u; refine blk_put (cs := #[.int .i64 0, .int .i64 0, .string (⟨#[]⟩ : ByteArray)]) ?_ 2 _ rfl; apply blk_u; refine blk_put (cs := #[.int .i64 0, .int .i64 0, .string (⟨#[]⟩ : ByteArray)]) ?_ 1 _ rfl; apply blk_u; refine blk_put (cs := #[.int .i64 0, .int .i64 0, .string (⟨#[]⟩ : ByteArray)]) ?_ 0 _ rfl; apply blk_u; exact q4.out) Try.underlying41 rfl (by kernel_rfl)) rfl ?_
  exact ⟨by first | rfl | (simp [errW_none, errW_some] <;> rfl) | (simp [*, errW_none, errW_some] <;> rfl), bl HB⟩
 ·
  replace c4 := Bool.eq_false_iff.mpr c4
  subst c4
  have H1 : (if q9 = 3 then ((Qax.f q9 j2 q8 q7 q6 q3).bind fun z5 => (if z5 = true then (if 0 ≤ a1 then (if a1 < (q3.length : Int) then (if 0 ≤ (rd q3 a1) then (if (rd q3 a1) < (q6.length : Int) then ((Qbc.f (rdOf ByteArray.empty q6 (rd q3 a1))).bind fun j3 => (some (j3.1, j3.2.1, j3.2.2))) else (none)) else (none)) else (none)) else (none)) else (if 0 ≤ a1 then (if a1 < (q7.length : Int) then ((Qbc.f (rdOf ByteArray.empty q7 a1)).bind fun j4 => (some (j4.1, j4.2.1, j4.2.2))) else (none)) else (none)))) else (if 0 ≤ a1 then (if a1 < (q8.length : Int) then (some (q9, rd q8 a1, (⟨#[]⟩ : ByteArray))) else (none)) else (none))) = some (r1, r2, r3) := by rw [if_neg (show ¬ (false = true) by decide)] at H; exact H
  clear H
  have H := H1
  clear H1
  by_cases c11 : q9 = 3
  ·
   rw [if_pos c11] at H
   have Qn : (q9 == 3) = true := beq_iff_eq.mpr c11
   have Qo : (q9 != 3) = false := bne_eq_false_iff_eq.mpr c11
   clear c11
   replace H := Option.bind_eq_some_iff.mp H
   obtain ⟨z5, Qk, H⟩ := H
   replace H : (if z5 = true then (if 0 ≤ a1 then (if a1 < (q3.length : Int) then (if 0 ≤ (rd q3 a1) then (if (rd q3 a1) < (q6.length : Int) then ((Qbc.f (rdOf ByteArray.empty q6 (rd q3 a1))).bind fun j3 => (some (j3.1, j3.2.1, j3.2.2))) else (none)) else (none)) else (none)) else (none)) else (if 0 ≤ a1 then (if a1 < (q7.length : Int) then ((Qbc.f (rdOf ByteArray.empty q7 a1)).bind fun j4 => (some (j4.1, j4.2.1, j4.2.2))) else (none)) else (none))) = some (r1, r2, r3) := H
   have A12 := Qaa.mk Qk
   clear Qk
   by_cases c13 : z5 = true
   ·
    subst c13
    have H1 : (if 0 ≤ a1 then (if a1 < (q3.length : Int) then (if 0 ≤ (rd q3 a1) then (if (rd q3 a1) < (q6.length : Int) then ((Qbc.f (rdOf ByteArray.empty q6 (rd q3 a1))).bind fun j3 => (some (j3.1, j3.2.1, j3.2.2))) else (none)) else (none)) else (none)) else (none)) = some (r1, r2, r3) := by rw [if_pos rfl] at H; exact H
    clear H
    have H := H1
    clear H1
    by_cases c14 : 0 ≤ a1
    ·
     rw [if_pos c14] at H
     have Yp : decide (0 ≤ a1) = true := decide_eq_true c14
     clear c14
     by_cases c15 : a1 < (q3.length : Int)
     ·
      rw [if_pos c15] at H
      have Yq : decide (a1 < (q3.length : Int)) = true := decide_eq_true c15
      clear c15
      by_cases c16 : 0 ≤ (rd q3 a1)
      ·
       rw [if_pos c16] at H
       have Yr : decide (0 ≤ (rd q3 a1)) = true := decide_eq_true c16
       clear c16
       by_cases c17 : (rd q3 a1) < (q6.length : Int)
       ·
        rw [if_pos c17] at H
        have Ys : decide ((rd q3 a1) < (q6.length : Int)) = true := decide_eq_true c17
        clear c17
        replace H := Option.bind_eq_some_iff.mp H
        obtain ⟨⟨Q1, Q6, Q8⟩, Ql, H⟩ := H
        replace H : (some (Q1, Q6, Q8)) = some (r1, r2, r3) := H
        have A18 := Qaa.mk Ql
        clear Ql
        simp only [Option.some.injEq, Prod.mk.injEq] at H
        obtain ⟨rfl, rfl, rfl⟩ := H
        go_enter Try.func26, Try.ntmps26
        try go_wp2_with (first | ((with_reducible refine gate_dst (N := 2) rfl ?_); refine bx 2 #[.int .i64 q9, .slice j5 j2.length j6, .slice z2 q8.length j7, .slice j8 q7.length j9, .slice z3 q6.length z0, .slice z4 q3.length z1] 39 ?_; intro j0 hg w19 hbox hb; have q2 := Qaa.mk (hbox); have Q3 := Qaa.mk ((by rw [hg]; exact (below_size (bl HB)) : w.heap.size ≤ j0)); have Q4 := Qaa.mk ((by rw [hg]; exact (below_size (bl HB)) : w.heap.size ≤ j0)); replace HB := bs HB hb; clear hb hbox hg) | ((with_reducible refine gate_dst (N := 4) rfl ?_); refine bx 4 #[.int .i64 0, .int .i64 0, .string (⟨#[]⟩ : ByteArray)] 41 ?_; intro q1 hg w20 hbox hb; have q4 := Qaa.mk (hbox); have q5 := Qaa.mk ((by rw [hg]; exact (below_size (bl HB)) : w.heap.size ≤ q1)); have Q5 := Qaa.mk ((by rw [hg]; exact (below_size (bl HB)) : w.heap.size ≤ q1)); have q0 := Qaa.mk ((by rw [hg]; exact Nat.ne_of_lt (blk_lt (Ub q2)) : j0 ≠ q1)); have j1 := Qaa.mk ((by rw [hg]; exact Nat.ne_of_gt (blk_lt (Ub q2)) : q1 ≠ j0)); replace q2 := Bb q2 hb; replace HB := bs HB hb; clear hb hbox hg; have Yt := q0.out; have Yu := j1.out; obtain ⟨Qv, Qw, Qx, Qy, Qz, Z0, Z1, Z2, Z3, Z4, Z5, Z6⟩ := cf6 q2) | ((with_reducible refine gate_callee (f := 48) rfl ?_); refine gL (some 8) Try.func48 #[.agg #[.int .i64 q9, .slice j5 j2.length j6, .slice z2 q8.length j7, .slice j8 q7.length j9, .slice z3 q6.length z0, .slice z4 q3.length z1], .int .i64 a1] ?_; (with_reducible refine (Qay.calls q9 _ _ j2 _ _ q8 _ _ q7 _ _ q6 _ _ q3 a1 false _ ?side1 ?side2 ?side3 ?side4 ?side5 ?side6 ?side7 ?side8 ?side9 ?side10 A3.out).mono ?_); (case side1 => exact Cb y3 HB); (case side2 => exact y4.out); (case side3 => exact Cb z9 HB); (case side4 => exact y5.out); (case side5 => exact Cb y0 HB); (case side6 => exact y6.out); (case side7 => exact Cb y1 HB); (case side8 => exact y7.out); (case side9 => exact Cb y2 HB); (case side10 => exact y8.out); rintro e w23 ⟨rfl, hb⟩; refine ⟨_, rfl, ?_⟩; replace q2 := Bb q2 hb; replace q4 := Bb q4 hb; replace HB := bs HB hb; (try clear hb); obtain ⟨Z7, Z8, Z9, Za, Zb, Zc, Zd, Ze, Zf, Zg, Zh, Zi⟩ := cf6 q2) | ((with_reducible refine gate_callee (f := 36) rfl ?_); refine gL (some 24) Try.func36 #[.agg #[.int .i64 q9, .slice j5 j2.length j6, .slice z2 q8.length j7, .slice j8 q7.length j9, .slice z3 q6.length z0, .slice z4 q3.length z1]] ?_; (with_reducible refine (Qax.calls q9 _ _ j2 _ _ q8 _ _ q7 _ _ q6 _ _ q3 true _ ?side1 ?side2 ?side3 ?side4 ?side5 ?side6 ?side7 ?side8 ?side9 ?side10 A12.out).mono ?_); (case side1 => exact Cb y3 HB); (case side2 => exact y4.out); (case side3 => exact Cb z9 HB); (case side4 => exact y5.out); (case side5 => exact Cb y0 HB); (case side6 => exact y6.out); (case side7 => exact Cb y1 HB); (case side8 => exact y7.out); (case side9 => exact Cb y2 HB); (case side10 => exact y8.out); rintro e w25 ⟨rfl, hb⟩; refine ⟨_, rfl, ?_⟩; replace q2 := Bb q2 hb; replace q4 := Bb q4 hb; replace HB := bs HB hb; (try clear hb)))
        replace q2 := Qaa.mk (blk_drew q2.out)
        replace q4 := Qaa.mk (blk_drew q4.out)
        replace HB := Qaa.mk (below_drew1 HB.out)
        have p245 : 0 ≤ (a1 : Int) := of_decide_eq_true (by first | (with_reducible assumption) | assumption)
        have q245 : a1 < (q3.length : Int) := of_decide_eq_true (by first | (with_reducible assumption) | assumption)
        obtain ⟨ad245, e245, z6⟩ := Kd.at_int y2.out a1 p245 q245
        have hw245_0 := z6
        cases e245
        replace z6 := (HB.out.cell (World.block_lt_of_cell? w _ z6)).trans z6
        replace p245 := eq_true p245
        replace q245 := eq_true q245
        have p246 : 0 ≤ ((rd q3 a1) : Int) := of_decide_eq_true (by first | (with_reducible assumption) | assumption)
        have q246 : (rd q3 a1) < (q6.length : Int) := of_decide_eq_true (by first | (with_reducible assumption) | assumption)
        obtain ⟨ad246, e246, z7⟩ := Kd.at_string y1.out (rd q3 a1) p246 q246
        have hw246_0 := z7
        cases e246
        replace z7 := (HB.out.cell (World.block_lt_of_cell? w _ z7)).trans z7
        replace p246 := eq_true p246
        replace q246 := eq_true q246
        refine start_ (n := 11) (S := fun w' => w'.cell? ⟨j0, 0, none⟩ = some (.int .i64 q9) ∧ w'.cell? ⟨j0, 1, none⟩ = some (.slice j5 j2.length j6) ∧ w'.cell? ⟨j0, 2, none⟩ = some (.slice z2 q8.length j7) ∧ w'.cell? ⟨j0, 3, none⟩ = some (.slice j8 q7.length j9) ∧ w'.cell? ⟨j0, 4, none⟩ = some (.slice (some ad246) q6.length z0) ∧ w'.cell? ⟨j0, 5, none⟩ = some (.slice (some ad245) q3.length z1) ∧ w'.cell? (ad245.add (a1).toNat) = some (.int .i64 (rd q3 a1)) ∧ w'.cell? (ad246.add ((rd q3 a1)).toNat) = some (.string (rdOf ByteArray.empty q6 (rd q3 a1)))) (ds := []) #[false, false, false, false, false, false, false, false, false, false, false] (by kernel_rfl) rfl rfl ⟨(blk_cell q2.out 0).trans rfl, (blk_cell q2.out 1).trans rfl, (blk_cell q2.out 2).trans rfl, (blk_cell q2.out 3).trans rfl, (blk_cell q2.out 4).trans rfl, (blk_cell q2.out 5).trans rfl, ((HB.out.cell (World.block_lt_of_cell? w _ hw245_0)).trans hw245_0), ((HB.out.cell (World.block_lt_of_cell? w _ hw246_0)).trans hw246_0)⟩ (fun hHeld => ?_); refine with_tabW Qav.tab6 Qav.bits6 (fun HT_ HW_ => ?_)
        generalize w25.drew = w26 at q2 q4 HB z6 z7 hHeld ⊢
        refine pure_ (i := 0) (N := some 25) (v := ?_) (a' := ?_) #[true, false, false, false, false, false, false, false, false, false, false] rfl rfl (any_of HT_.out (by kernel_rfl)) (fun _ _ _ h => h) (Or.inl ⟨by rfl, ?_⟩) ?_ ?_
        rotate_left
        ·
         intro w'
         go_simp
         with_reducible rfl
        rotate_left
        ·
         simp only [Act.put, List.setIfInBounds_toArray, List.set_cons_zero, List.set_cons_succ, i64_w, i32_w]
         rfl
        refine pure_ (i := 2) (N := some 27) (v := ?_) (a' := ?_) #[true, false, true, false, false, false, false, false, false, false, false] rfl rfl (any_of HT_.out (by kernel_rfl)) (fun _ _ _ h => h) (Or.inl ⟨by rfl, ?_⟩) ?_ ?_
        rotate_left
        ·
         intro w'
         go_simp
         with_reducible rfl
        rotate_left
        ·
         simp only [Act.put, List.setIfInBounds_toArray, List.set_cons_zero, List.set_cons_succ, i64_w, i32_w]
         rfl
        refine pure_ (i := 4) (N := some 29) (v := ?_) (a' := ?_) #[true, false, true, false, true, false, false, false, false, false, false] rfl rfl (any_of HT_.out (by kernel_rfl)) (fun _ _ _ h => h) (Or.inl ⟨by rfl, ?_⟩) ?_ ?_
        rotate_left
        ·
         intro w'
         go_simp
         with_reducible rfl
        rotate_left
        ·
         simp only [Act.put, List.setIfInBounds_toArray, List.set_cons_zero, List.set_cons_succ, i64_w, i32_w]
         rfl
        refine take_ (i := 1) (N := some 26) (v := ?_) (a' := ?_) #[true, true, true, false, true, false, false, false, false, false, false] rfl rfl (take_ofW HT_.out HW_.out (by kernel_rfl)) (fun _ _ _ h => h) (Or.inl ⟨by rfl, ?_⟩) hHeld ?_ ?_
        rotate_left
        ·
         rintro w' ⟨s0, s1, s2, s3, s4, s5, s6, s7⟩
         go_simp
         with_reducible rfl
        rotate_left
        ·
         simp only [Act.put, List.setIfInBounds_toArray, List.set_cons_zero, List.set_cons_succ, i64_w, i32_w]
         rfl
        refine take_ (i := 3) (N := some 28) (v := ?_) (a' := ?_) #[true, true, true, true, true, false, false, false, false, false, false] rfl rfl (take_ofW HT_.out HW_.out (by kernel_rfl)) (fun _ _ _ h => h) (Or.inl ⟨by rfl, ?_⟩) hHeld ?_ ?_
        rotate_left
        ·
         rintro w' ⟨s0, s1, s2, s3, s4, s5, s6, s7⟩
         go_simp
         with_reducible rfl
        rotate_left
        ·
         simp only [Act.put, List.setIfInBounds_toArray, List.set_cons_zero, List.set_cons_succ, i64_w, i32_w]
         rfl
        refine pure_ (i := 5) (N := some 30) (v := ?_) (a' := ?_) #[true, true, true, true, true, true, false, false, false, false, false] rfl rfl (any_of HT_.out (by kernel_rfl)) (fun _ _ _ h => h) (Or.inl ⟨by rfl, ?_⟩) ?_ ?_
        rotate_left
        ·
         intro w'
         go_simp
         with_reducible rfl
        rotate_left
        ·
         simp only [Act.put, List.setIfInBounds_toArray, List.set_cons_zero, List.set_cons_succ, i64_w, i32_w]
         rfl
        refine take_ (i := 6) (N := some 31) (v := ?_) (a' := ?_) #[true, true, true, true, true, true, true, false, false, false, false] rfl rfl (take_ofW HT_.out HW_.out (by kernel_rfl)) (fun _ _ _ h => h) (Or.inl ⟨by rfl, ?_⟩) hHeld ?_ ?_
        rotate_left
        ·
         rintro w' ⟨s0, s1, s2, s3, s4, s5, s6, s7⟩
         go_simp
         with_reducible rfl
        rotate_left
        ·
         simp only [Act.put, List.setIfInBounds_toArray, List.set_cons_zero, List.set_cons_succ, i64_w, i32_w]
         rfl
        refine pure_ (i := 7) (N := some 32) (v := ?_) (a' := ?_) #[true, true, true, true, true, true, true, true, false, false, false] rfl rfl (any_of HT_.out (by kernel_rfl)) (fun _ _ _ h => h) (Or.inl ⟨by rfl, ?_⟩) ?_ ?_
        rotate_left
        ·
         intro w'
         go_simp
         with_reducible rfl
        rotate_left
        ·
         simp only [Act.put, List.setIfInBounds_toArray, List.set_cons_zero, List.set_cons_succ, i64_w, i32_w]
         rfl
        refine take_ (i := 8) (N := some 33) (v := ?_) (a' := ?_) #[true, true, true, true, true, true, true, true, true, false, false] rfl rfl (take_ofW HT_.out HW_.out (by kernel_rfl)) (fun _ _ _ h => h) (Or.inl ⟨by rfl, ?_⟩) hHeld ?_ ?_
        rotate_left
        ·
         rintro w' ⟨s0, s1, s2, s3, s4, s5, s6, s7⟩
         go_simp
         with_reducible rfl
        rotate_left
        ·
         simp only [Act.put, List.setIfInBounds_toArray, List.set_cons_zero, List.set_cons_succ, i64_w, i32_w]
         rfl
        refine one_ (i := 9) (N := some 34) #[true, true, true, true, true, true, true, true, true, true, false] rfl rfl (one_of HT_.out (by kernel_rfl)) (by decide) (fun K hK => ?_)
        refine goes_ Try.func49 (by kernel_rfl) rfl #[.string (rdOf ByteArray.empty q6 (rd q3 a1))] (by rfl) rfl rfl (by (try simp only [List.map_toArray, List.map_cons, List.map_nil]); first | done | rfl | (simp only [List.length_drop, List.length_take]; rfl)) ?_
        with_reducible refine (Qbc.calls (rdOf ByteArray.empty q6 (rd q3 a1)) Q1 Q6 Q8 _ A18.out).mono ?_
        rintro e w27 ⟨rfl, hb⟩
        refine ⟨_, rfl, ?_⟩
        replace q2 := Bb q2 hb
        replace q4 := Bb q4 hb
        replace HB := bs HB hb
        (try clear hb)
        (try clear hb2)
        (try clear hk)
        (try clear hi)
        refine hK.out _ _ ⟨(blk_cell q2.out 0).trans rfl, (blk_cell q2.out 1).trans rfl, (blk_cell q2.out 2).trans rfl, (blk_cell q2.out 3).trans rfl, (blk_cell q2.out 4).trans rfl, (blk_cell q2.out 5).trans rfl, ((HB.out.cell (World.block_lt_of_cell? w _ hw245_0)).trans hw245_0), ((HB.out.cell (World.block_lt_of_cell? w _ hw246_0)).trans hw246_0)⟩ (fun hHeld => ?_)
        clear hK K
        refine norm_ (a' := ?_) ?_ ?_
        rotate_left
        ·
         show Act.put _ (some 34) _ = _
         simp only [Act.put, List.setIfInBounds_toArray, List.set_cons_zero, List.set_cons_succ, i64_w, i32_w]
         rfl
        refine one_ (i := 10) (N := none) #[true, true, true, true, true, true, true, true, true, true, true] rfl rfl (one_of HT_.out (by kernel_rfl)) (by decide) (fun K hK => ?_)
        have hs28 : w27.cell? ⟨q1, 0, none⟩ = some (.int .i64 0) := (blk_cell q4.out 0).trans rfl
        have hfs28 := blk_frozen q4.out 0
        have hns28_0 := q0.out
        have hms28_0 := j1.out
        have hs29 : w27.cell? ⟨q1, 1, none⟩ = some (.int .i64 0) := (blk_cell q4.out 1).trans rfl
        have hfs29 := blk_frozen q4.out 1
        have hns29_0 := q0.out
        have hms29_0 := j1.out
        have hs30 : w27.cell? ⟨q1, 2, none⟩ = some (.string (⟨#[]⟩ : ByteArray)) := (blk_cell q4.out 2).trans rfl
        have hfs30 := blk_frozen q4.out 2
        have hns30_0 := q0.out
        have hms30_0 := j1.out
        refine skip_ (w1 := ?_) (by rfl) rfl ?_ ?_
        rotate_left
        ·
         go_simp
         rfl
        refine hK.out _ _ ⟨((cell_far (p := ⟨q1, _, none⟩) q0.out _).trans (((cell_far (p := ⟨q1, _, none⟩) q0.out _).trans (((cell_far (p := ⟨q1, _, none⟩) q0.out _).trans (hHeld.1)))))), ((cell_far (p := ⟨q1, _, none⟩) q0.out _).trans (((cell_far (p := ⟨q1, _, none⟩) q0.out _).trans (((cell_far (p := ⟨q1, _, none⟩) q0.out _).trans (hHeld.2.1)))))), ((cell_far (p := ⟨q1, _, none⟩) q0.out _).trans (((cell_far (p := ⟨q1, _, none⟩) q0.out _).trans (((cell_far (p := ⟨q1, _, none⟩) q0.out _).trans (hHeld.2.2.1)))))), ((cell_far (p := ⟨q1, _, none⟩) q0.out _).trans (((cell_far (p := ⟨q1, _, none⟩) q0.out _).trans (((cell_far (p := ⟨q1, _, none⟩) q0.out _).trans (hHeld.2.2.2.1)))))), ((cell_far (p := ⟨q1, _, none⟩) q0.out _).trans (((cell_far (p := ⟨q1, _, none⟩) q0.out _).trans (((cell_far (p := ⟨q1, _, none⟩) q0.out _).trans (hHeld.2.2.2.2.1)))))), ((cell_far (p := ⟨q1, _, none⟩) q0.out _).trans (((cell_far (p := ⟨q1, _, none⟩) q0.out _).trans (((cell_far (p := ⟨q1, _, none⟩) q0.out _).trans (hHeld.2.2.2.2.2.1)))))), ((cell_far (p := ⟨q1, _, none⟩) (by first | exact Nat.ne_of_lt (Nat.lt_of_lt_of_le (by have := World.block_lt_of_cell? _ _ hw245_0; first | rwa [add_block] at this | exact this) q5.out) | (rw [add_block]; exact Nat.ne_of_lt (Nat.lt_of_lt_of_le (by have := World.block_lt_of_cell? _ _ hw245_0; first | rwa [add_block] at this | exact this) q5.out)) | (show (Addr.add _ _).block ≠ _; rw [add_block]; exact Nat.ne_of_lt (Nat.lt_of_lt_of_le (by have := World.block_lt_of_cell? _ _ hw245_0; first | rwa [add_block] at this | exact this) q5.out)) | (dsimp only; exact Nat.ne_of_lt (Nat.lt_of_lt_of_le (by have := World.block_lt_of_cell? _ _ hw245_0; first | rwa [add_block] at this | exact this) q5.out))) _).trans (((cell_far (p := ⟨q1, _, none⟩) (by first | exact Nat.ne_of_lt (Nat.lt_of_lt_of_le (by have := World.block_lt_of_cell? _ _ hw245_0; first | rwa [add_block] at this | exact this) q5.out) | (rw [add_block]; exact Nat.ne_of_lt (Nat.lt_of_lt_of_le (by have := World.block_lt_of_cell? _ _ hw245_0; first | rwa [add_block] at this | exact this) q5.out)) | (show (Addr.add _ _).block ≠ _; rw [add_block]; exact Nat.ne_of_lt (Nat.lt_of_lt_of_le (by have := World.block_lt_of_cell? _ _ hw245_0; first | rwa [add_block] at this | exact this) q5.out)) | (dsimp only; exact Nat.ne_of_lt (Nat.lt_of_lt_of_le (by have := World.block_lt_of_cell? _ _ hw245_0; first | rwa [add_block] at this | exact this) q5.out))) _).trans (((cell_far (p := ⟨q1, _, none⟩) (by first | exact Nat.ne_of_lt (Nat.lt_of_lt_of_le (by have := World.block_lt_of_cell? _ _ hw245_0; first | rwa [add_block] at this | exact this) q5.out) | (rw [add_block]; exact Nat.ne_of_lt (Nat.lt_of_lt_of_le (by have := World.block_lt_of_cell? _ _ hw245_0; first | rwa [add_block] at this | exact this) q5.out)) | (show (Addr.add _ _).block ≠ _; rw [add_block]; exact Nat.ne_of_lt (Nat.lt_of_lt_of_le (by have := World.block_lt_of_cell? _ _ hw245_0; first | rwa [add_block] at this | exact this) q5.out)) | (dsimp only; exact Nat.ne_of_lt (Nat.lt_of_lt_of_le (by have := World.block_lt_of_cell? _ _ hw245_0; first | rwa [add_block] at this | exact this) q5.out))) _).trans (hHeld.2.2.2.2.2.2.1)))))), ((cell_far (p := ⟨q1, _, none⟩) (by first | exact Nat.ne_of_lt (Nat.lt_of_lt_of_le (by have := World.block_lt_of_cell? _ _ hw246_0; first | rwa [add_block] at this | exact this) q5.out) | (rw [add_block]; exact Nat.ne_of_lt (Nat.lt_of_lt_of_le (by have := World.block_lt_of_cell? _ _ hw246_0; first | rwa [add_block] at this | exact this) q5.out)) | (show (Addr.add _ _).block ≠ _; rw [add_block]; exact Nat.ne_of_lt (Nat.lt_of_lt_of_le (by have := World.block_lt_of_cell? _ _ hw246_0; first | rwa [add_block] at this | exact this) q5.out)) | (dsimp only; exact Nat.ne_of_lt (Nat.lt_of_lt_of_le (by have := World.block_lt_of_cell? _ _ hw246_0; first | rwa [add_block] at this | exact this) q5.out))) _).trans (((cell_far (p := ⟨q1, _, none⟩) (by first | exact Nat.ne_of_lt (Nat.lt_of_lt_of_le (by have := World.block_lt_of_cell? _ _ hw246_0; first | rwa [add_block] at this | exact this) q5.out) | (rw [add_block]; exact Nat.ne_of_lt (Nat.lt_of_lt_of_le (by have := World.block_lt_of_cell? _ _ hw246_0; first | rwa [add_block] at this | exact this) q5.out)) | (show (Addr.add _ _).block ≠ _; rw [add_block]; exact Nat.ne_of_lt (Nat.lt_of_lt_of_le (by have := World.block_lt_of_cell? _ _ hw246_0; first | rwa [add_block] at this | exact this) q5.out)) | (dsimp only; exact Nat.ne_of_lt (Nat.lt_of_lt_of_le (by have := World.block_lt_of_cell? _ _ hw246_0; first | rwa [add_block] at this | exact this) q5.out))) _).trans (((cell_far (p := ⟨q1, _, none⟩) (by first | exact Nat.ne_of_lt (Nat.lt_of_lt_of_le (by have := World.block_lt_of_cell? _ _ hw246_0; first | rwa [add_block] at this | exact this) q5.out) | (rw [add_block]; exact Nat.ne_of_lt (Nat.lt_of_lt_of_le (by have := World.block_lt_of_cell? _ _ hw246_0; first | rwa [add_block] at this | exact this) q5.out)) | (show (Addr.add _ _).block ≠ _; rw [add_block]; exact Nat.ne_of_lt (Nat.lt_of_lt_of_le (by have := World.block_lt_of_cell? _ _ hw246_0; first | rwa [add_block] at this | exact this) q5.out)) | (dsimp only; exact Nat.ne_of_lt (Nat.lt_of_lt_of_le (by have := World.block_lt_of_cell? _ _ hw246_0; first | rwa [add_block] at this | exact this) q5.out))) _).trans (hHeld.2.2.2.2.2.2.2))))))⟩ (fun hHeld => ?_)
        clear hK K
        refine done_ (done_of HT_.out (by kernel_rfl)) ?_
        try go_wp2
        refine bodyPost_ret (results_cell_row rfl _ _ q1 41 #[.int .i64 Q1, .int .i64 Q6, .string Q8] (0, 0) _ rfl (by apply blk_u; refine blk_put (cs := #[.int .i64 Q1, .int .i64 Q6, .string (⟨#[]⟩ : ByteArray)]) ?_ 2 _ rfl; apply blk_u; refine blk_put (cs := #[.int .i64 Q1, .int .i64 0, .string (⟨#[]⟩ : ByteArray)]) ?_ 1 _ rfl; apply blk_u; refine blk_put (cs := #[.int .i64 0, .int .i64 0, .string (⟨#[]⟩ : ByteArray)]) ?_ 0 _ rfl; apply blk_u; exact q4.out) Try.underlying41 rfl (by kernel_rfl)) rfl ?_
        exact ⟨by first | rfl | (simp [errW_none, errW_some] <;> rfl) | (simp [*, errW_none, errW_some] <;> rfl), bl HB⟩
       ·
        rw [if_neg c17] at H
        exact absurd H (by simp)
      ·
       rw [if_neg c16] at H
       exact absurd H (by simp)
     ·
      rw [if_neg c15] at H
      exact absurd H (by simp)
    ·
     rw [if_neg c14] at H
     exact absurd H (by simp)
   ·
    replace c13 := Bool.eq_false_iff.mpr c13
    subst c13
    have H1 : (if 0 ≤ a1 then (if a1 < (q7.length : Int) then ((Qbc.f (rdOf ByteArray.empty q7 a1)).bind fun j4 => (some (j4.1, j4.2.1, j4.2.2))) else (none)) else (none)) = some (r1, r2, r3) := by rw [if_neg (show ¬ (false = true) by decide)] at H; exact H
    clear H
    have H := H1
    clear H1
    by_cases c31 : 0 ≤ a1
    ·
     rw [if_pos c31] at H
     have Yv : decide (0 ≤ a1) = true := decide_eq_true c31
     clear c31
     by_cases c32 : a1 < (q7.length : Int)
     ·
      rw [if_pos c32] at H
      have Yw : decide (a1 < (q7.length : Int)) = true := decide_eq_true c32
      clear c32
      replace H := Option.bind_eq_some_iff.mp H
      obtain ⟨⟨Q2, Q7, Q9⟩, Qm, H⟩ := H
      replace H : (some (Q2, Q7, Q9)) = some (r1, r2, r3) := H
      have A33 := Qaa.mk Qm
      clear Qm
      simp only [Option.some.injEq, Prod.mk.injEq] at H
      obtain ⟨rfl, rfl, rfl⟩ := H
      go_enter Try.func26, Try.ntmps26
      go_wp2_with (first | ((with_reducible refine gate_dst (N := 2) rfl ?_); refine bx 2 #[.int .i64 q9, .slice j5 j2.length j6, .slice z2 q8.length j7, .slice j8 q7.length j9, .slice z3 q6.length z0, .slice z4 q3.length z1] 39 ?_; intro j0 hg w34 hbox hb; have q2 := Qaa.mk (hbox); have Q3 := Qaa.mk ((by rw [hg]; exact (below_size (bl HB)) : w.heap.size ≤ j0)); have Q4 := Qaa.mk ((by rw [hg]; exact (below_size (bl HB)) : w.heap.size ≤ j0)); replace HB := bs HB hb; clear hb hbox hg) | ((with_reducible refine gate_dst (N := 4) rfl ?_); refine bx 4 #[.int .i64 0, .int .i64 0, .string (⟨#[]⟩ : ByteArray)] 41 ?_; intro q1 hg w35 hbox hb; have q4 := Qaa.mk (hbox); have q5 := Qaa.mk ((by rw [hg]; exact (below_size (bl HB)) : w.heap.size ≤ q1)); have Q5 := Qaa.mk ((by rw [hg]; exact (below_size (bl HB)) : w.heap.size ≤ q1)); have q0 := Qaa.mk ((by rw [hg]; exact Nat.ne_of_lt (blk_lt (Ub q2)) : j0 ≠ q1)); have j1 := Qaa.mk ((by rw [hg]; exact Nat.ne_of_gt (blk_lt (Ub q2)) : q1 ≠ j0)); replace q2 := Bb q2 hb; replace HB := bs HB hb; clear hb hbox hg; have Yx := q0.out; have Yy := j1.out; obtain ⟨Zj, Zk, Zl, Zm, Zn, Zo, Zp, Zq, Zr, Zs, Zt, Zu⟩ := cf6 q2) | ((with_reducible refine gate_callee (f := 48) rfl ?_); refine gL (some 8) Try.func48 #[.agg #[.int .i64 q9, .slice j5 j2.length j6, .slice z2 q8.length j7, .slice j8 q7.length j9, .slice z3 q6.length z0, .slice z4 q3.length z1], .int .i64 a1] ?_; (with_reducible refine (Qay.calls q9 _ _ j2 _ _ q8 _ _ q7 _ _ q6 _ _ q3 a1 false _ ?side1 ?side2 ?side3 ?side4 ?side5 ?side6 ?side7 ?side8 ?side9 ?side10 A3.out).mono ?_); (case side1 => exact Cb y3 HB); (case side2 => exact y4.out); (case side3 => exact Cb z9 HB); (case side4 => exact y5.out); (case side5 => exact Cb y0 HB); (case side6 => exact y6.out); (case side7 => exact Cb y1 HB); (case side8 => exact y7.out); (case side9 => exact Cb y2 HB); (case side10 => exact y8.out); rintro e w38 ⟨rfl, hb⟩; refine ⟨_, rfl, ?_⟩; replace q2 := Bb q2 hb; replace q4 := Bb q4 hb; replace HB := bs HB hb; (try clear hb); obtain ⟨Zv, Zw, Zx, Zy, Zz, J0, J1, J2, J3, J4, J5, J6⟩ := cf6 q2) | ((with_reducible refine gate_callee (f := 36) rfl ?_); refine gL (some 24) Try.func36 #[.agg #[.int .i64 q9, .slice j5 j2.length j6, .slice z2 q8.length j7, .slice j8 q7.length j9, .slice z3 q6.length z0, .slice z4 q3.length z1]] ?_; (with_reducible refine (Qax.calls q9 _ _ j2 _ _ q8 _ _ q7 _ _ q6 _ _ q3 false _ ?side1 ?side2 ?side3 ?side4 ?side5 ?side6 ?side7 ?side8 ?side9 ?side10 A12.out).mono ?_); (case side1 => exact Cb y3 HB); (case side2 => exact y4.out); (case side3 => exact Cb z9 HB); (case side4 => exact y5.out); (case side5 => exact Cb y0 HB); (case side6 => exact y6.out); (case side7 => exact Cb y1 HB); (case side8 => exact y7.out); (case side9 => exact Cb y2 HB); (case side10 => exact y8.out); rintro e w40 ⟨rfl, hb⟩; refine ⟨_, rfl, ?_⟩; replace q2 := Bb q2 hb; replace q4 := Bb q4 hb; replace HB := bs HB hb; (try clear hb); obtain ⟨J7, J8, J9, Ja, Jb, Jc, Jd, Je, Jf, Jg, Jh, Ji⟩ := cf6 q2; have p250 : 0 ≤ (a1 : Int) := of_decide_eq_true (by first | (with_reducible assumption) | assumption); have q250 : a1 < (q7.length : Int) := of_decide_eq_true (by first | (with_reducible assumption) | assumption); obtain ⟨ad250, e250, Q0⟩ := Kd.at_string y0.out a1 p250 q250; cases e250; replace Q0 := (HB.out.cell (World.block_lt_of_cell? w _ Q0)).trans Q0; replace p250 := eq_true p250; replace q250 := eq_true q250) | ((with_reducible refine gate_callee (f := 49) rfl ?_); refine gL (some 40) Try.func49 #[.string (rdOf ByteArray.empty q7 a1)] ?_; (with_reducible refine (Qbc.calls (rdOf ByteArray.empty q7 a1) Q2 Q7 Q9 _ A33.out).mono ?_); rintro e w42 ⟨rfl, hb⟩; refine ⟨_, rfl, ?_⟩; replace q2 := Bb q2 hb; replace q4 := Bb q4 hb; replace HB := bs HB hb; (try clear hb); obtain ⟨Jj, Jk, Jl, Jm, Jn, Jo⟩ := cf3 q4))
      refine bodyPost_ret (results_cell_row rfl _ _ q1 41 #[.int .i64 Q2, .int .i64 Q7, .string Q9] (0, 0) _ rfl (by apply blk_u; refine blk_put (cs := #[.int .i64 Q2, .int .i64 Q7, .string (⟨#[]⟩ : ByteArray)]) ?_ 2 _ rfl; apply blk_u; refine blk_put (cs := #[.int .i64 Q2, .int .i64 0, .string (⟨#[]⟩ : ByteArray)]) ?_ 1 _ rfl; apply blk_u; refine blk_put (cs := #[.int .i64 0, .int .i64 0, .string (⟨#[]⟩ : ByteArray)]) ?_ 0 _ rfl; apply blk_u; exact q4.out) Try.underlying41 rfl (by kernel_rfl)) rfl ?_
      exact ⟨by first | rfl | (simp [errW_none, errW_some] <;> rfl) | (simp [*, errW_none, errW_some] <;> rfl), bl HB⟩
     ·
      rw [if_neg c32] at H
      exact absurd H (by simp)
    ·
     rw [if_neg c31] at H
     exact absurd H (by simp)
  ·
   rw [if_neg c11] at H
   have Qn : (q9 == 3) = false := beq_eq_false_iff_ne.mpr c11
   have Qo : (q9 != 3) = true := bne_iff_ne.mpr c11
   by_cases c44 : 0 ≤ a1
   ·
    rw [if_pos c44] at H
    have Yz : decide (0 ≤ a1) = true := decide_eq_true c44
    clear c44
    by_cases c45 : a1 < (q8.length : Int)
    ·
     rw [if_pos c45] at H
     have X0 : decide (a1 < (q8.length : Int)) = true := decide_eq_true c45
     clear c45
     simp only [Option.some.injEq, Prod.mk.injEq] at H
     obtain ⟨rfl, rfl, rfl⟩ := H
     go_enter Try.func26, Try.ntmps26
     try go_wp2_with (first | ((with_reducible refine gate_dst (N := 2) rfl ?_); refine bx 2 #[.int .i64 q9, .slice j5 j2.length j6, .slice z2 q8.length j7, .slice j8 q7.length j9, .slice z3 q6.length z0, .slice z4 q3.length z1] 39 ?_; intro j0 hg w46 hbox hb; have q2 := Qaa.mk (hbox); have Q3 := Qaa.mk ((by rw [hg]; exact (below_size (bl HB)) : w.heap.size ≤ j0)); have Q4 := Qaa.mk ((by rw [hg]; exact (below_size (bl HB)) : w.heap.size ≤ j0)); replace HB := bs HB hb; clear hb hbox hg) | ((with_reducible refine gate_dst (N := 4) rfl ?_); refine bx 4 #[.int .i64 0, .int .i64 0, .string (⟨#[]⟩ : ByteArray)] 41 ?_; intro q1 hg w47 hbox hb; have q4 := Qaa.mk (hbox); have q5 := Qaa.mk ((by rw [hg]; exact (below_size (bl HB)) : w.heap.size ≤ q1)); have Q5 := Qaa.mk ((by rw [hg]; exact (below_size (bl HB)) : w.heap.size ≤ q1)); have q0 := Qaa.mk ((by rw [hg]; exact Nat.ne_of_lt (blk_lt (Ub q2)) : j0 ≠ q1)); have j1 := Qaa.mk ((by rw [hg]; exact Nat.ne_of_gt (blk_lt (Ub q2)) : q1 ≠ j0)); replace q2 := Bb q2 hb; replace HB := bs HB hb; clear hb hbox hg; have X1 := q0.out; have X2 := j1.out; obtain ⟨Jp, Jq, Jr, Js, Jt, Ju, Jv, Jw, Jx, Jy, Jz, Y0⟩ := cf6 q2) | ((with_reducible refine gate_callee (f := 48) rfl ?_); refine gL (some 8) Try.func48 #[.agg #[.int .i64 q9, .slice j5 j2.length j6, .slice z2 q8.length j7, .slice j8 q7.length j9, .slice z3 q6.length z0, .slice z4 q3.length z1], .int .i64 a1] ?_; (with_reducible refine (Qay.calls q9 _ _ j2 _ _ q8 _ _ q7 _ _ q6 _ _ q3 a1 false _ ?side1 ?side2 ?side3 ?side4 ?side5 ?side6 ?side7 ?side8 ?side9 ?side10 A3.out).mono ?_); (case side1 => exact Cb y3 HB); (case side2 => exact y4.out); (case side3 => exact Cb z9 HB); (case side4 => exact y5.out); (case side5 => exact Cb y0 HB); (case side6 => exact y6.out); (case side7 => exact Cb y1 HB); (case side8 => exact y7.out); (case side9 => exact Cb y2 HB); (case side10 => exact y8.out); rintro e w50 ⟨rfl, hb⟩; refine ⟨_, rfl, ?_⟩; replace q2 := Bb q2 hb; replace q4 := Bb q4 hb; replace HB := bs HB hb; (try clear hb); obtain ⟨Y1, Y2, Y3, Y4, Y5, Y6, Y7, Y8, Y9, Ya, Yb, Yc⟩ := cf6 q2))
     replace q2 := Qaa.mk (blk_drew q2.out)
     replace q4 := Qaa.mk (blk_drew q4.out)
     replace HB := Qaa.mk (below_drew1 HB.out)
     have p254 : 0 ≤ (a1 : Int) := of_decide_eq_true (by first | (with_reducible assumption) | assumption)
     have q254 : a1 < (q8.length : Int) := of_decide_eq_true (by first | (with_reducible assumption) | assumption)
     obtain ⟨ad254, e254, z8⟩ := Kd.at_int z9.out a1 p254 q254
     have hw254_0 := z8
     cases e254
     replace z8 := (HB.out.cell (World.block_lt_of_cell? w _ z8)).trans z8
     replace p254 := eq_true p254
     replace q254 := eq_true q254
     refine start_ (n := 9) (S := fun w' => w'.cell? ⟨j0, 0, none⟩ = some (.int .i64 q9) ∧ w'.cell? ⟨j0, 1, none⟩ = some (.slice j5 j2.length j6) ∧ w'.cell? ⟨j0, 2, none⟩ = some (.slice (some ad254) q8.length j7) ∧ w'.cell? ⟨j0, 3, none⟩ = some (.slice j8 q7.length j9) ∧ w'.cell? ⟨j0, 4, none⟩ = some (.slice z3 q6.length z0) ∧ w'.cell? ⟨j0, 5, none⟩ = some (.slice z4 q3.length z1) ∧ w'.cell? (ad254.add (a1).toNat) = some (.int .i64 (rd q8 a1))) (ds := []) #[false, false, false, false, false, false, false, false, false] (by kernel_rfl) rfl rfl ⟨(blk_cell q2.out 0).trans rfl, (blk_cell q2.out 1).trans rfl, (blk_cell q2.out 2).trans rfl, (blk_cell q2.out 3).trans rfl, (blk_cell q2.out 4).trans rfl, (blk_cell q2.out 5).trans rfl, ((HB.out.cell (World.block_lt_of_cell? w _ hw254_0)).trans hw254_0)⟩ (fun hHeld => ?_); refine with_tabW Qav.tab4 Qav.bits4 (fun HT_ HW_ => ?_)
     generalize w50.drew = w52 at q2 q4 HB z8 hHeld ⊢
     refine pure_ (i := 0) (N := some 14) (v := ?_) (a' := ?_) #[true, false, false, false, false, false, false, false, false] rfl rfl (any_of HT_.out (by kernel_rfl)) (fun _ _ _ h => h) (Or.inl ⟨by rfl, ?_⟩) ?_ ?_
     rotate_left
     ·
      intro w'
      go_simp
      with_reducible rfl
     rotate_left
     ·
      simp only [Act.put, List.setIfInBounds_toArray, List.set_cons_zero, List.set_cons_succ, i64_w, i32_w]
      rfl
     refine pure_ (i := 2) (N := some 16) (v := ?_) (a' := ?_) #[true, false, true, false, false, false, false, false, false] rfl rfl (any_of HT_.out (by kernel_rfl)) (fun _ _ _ h => h) (Or.inl ⟨by rfl, ?_⟩) ?_ ?_
     rotate_left
     ·
      intro w'
      go_simp
      with_reducible rfl
     rotate_left
     ·
      simp only [Act.put, List.setIfInBounds_toArray, List.set_cons_zero, List.set_cons_succ, i64_w, i32_w]
      rfl
     refine pure_ (i := 4) (N := some 18) (v := ?_) (a' := ?_) #[true, false, true, false, true, false, false, false, false] rfl rfl (any_of HT_.out (by kernel_rfl)) (fun _ _ _ h => h) (Or.inl ⟨by rfl, ?_⟩) ?_ ?_
     rotate_left
     ·
      intro w'
      go_simp
      with_reducible rfl
     rotate_left
     ·
      simp only [Act.put, List.setIfInBounds_toArray, List.set_cons_zero, List.set_cons_succ, i64_w, i32_w]
      rfl
     refine take_ (i := 1) (N := some 15) (v := ?_) (a' := ?_) #[true, true, true, false, true, false, false, false, false] rfl rfl (take_ofW HT_.out HW_.out (by kernel_rfl)) (fun _ _ _ h => h) (Or.inl ⟨by rfl, ?_⟩) hHeld ?_ ?_
     rotate_left
     ·
      rintro w' ⟨s0, s1, s2, s3, s4, s5, s6⟩
      go_simp
      with_reducible rfl
     rotate_left
     ·
      simp only [Act.put, List.setIfInBounds_toArray, List.set_cons_zero, List.set_cons_succ, i64_w, i32_w]
      rfl
     refine take_ (i := 3) (N := some 17) (v := ?_) (a' := ?_) #[true, true, true, true, true, false, false, false, false] rfl rfl (take_ofW HT_.out HW_.out (by kernel_rfl)) (fun _ _ _ h => h) (Or.inl ⟨by rfl, ?_⟩) hHeld ?_ ?_
     rotate_left
     ·
      rintro w' ⟨s0, s1, s2, s3, s4, s5, s6⟩
      go_simp
      with_reducible rfl
     rotate_left
     ·
      simp only [Act.put, List.setIfInBounds_toArray, List.set_cons_zero, List.set_cons_succ, i64_w, i32_w]
      rfl
     refine pure_ (i := 5) (N := some 19) (v := ?_) (a' := ?_) #[true, true, true, true, true, true, false, false, false] rfl rfl (any_of HT_.out (by kernel_rfl)) (fun _ _ _ h => h) (Or.inl ⟨by rfl, ?_⟩) ?_ ?_
     rotate_left
     ·
      intro w'
      go_simp
      with_reducible rfl
     rotate_left
     ·
      simp only [Act.put, List.setIfInBounds_toArray, List.set_cons_zero, List.set_cons_succ, i64_w, i32_w]
      rfl
     refine take_ (i := 6) (N := some 20) (v := ?_) (a' := ?_) #[true, true, true, true, true, true, true, false, false] rfl rfl (take_ofW HT_.out HW_.out (by kernel_rfl)) (fun _ _ _ h => h) (Or.inl ⟨by rfl, ?_⟩) hHeld ?_ ?_
     rotate_left
     ·
      rintro w' ⟨s0, s1, s2, s3, s4, s5, s6⟩
      go_simp
      with_reducible rfl
     rotate_left
     ·
      simp only [Act.put, List.setIfInBounds_toArray, List.set_cons_zero, List.set_cons_succ, i64_w, i32_w]
      rfl
     refine pure_ (i := 7) (N := some 21) (v := ?_) (a' := ?_) #[true, true, true, true, true, true, true, true, false] rfl rfl (any_of HT_.out (by kernel_rfl)) (fun _ _ _ h => h) (Or.inl ⟨by rfl, ?_⟩) ?_ ?_
     rotate_left
     ·
      intro w'
      go_simp
      with_reducible rfl
     rotate_left
     ·
      simp only [Act.put, List.setIfInBounds_toArray, List.set_cons_zero, List.set_cons_succ, i64_w, i32_w]
      rfl
     refine one_ (i := 8) (N := none) #[true, true, true, true, true, true, true, true, true] rfl rfl (one_of HT_.out (by kernel_rfl)) (by decide) (fun K hK => ?_)
     have hs53 : w52.cell? ⟨q1, 0, none⟩ = some (.int .i64 0) := (blk_cell q4.out 0).trans rfl
     have hfs53 := blk_frozen q4.out 0
     have hns53_0 := q0.out
     have hms53_0 := j1.out
     have hs54 : w52.cell? ⟨q1, 1, none⟩ = some (.int .i64 0) := (blk_cell q4.out 1).trans rfl
     have hfs54 := blk_frozen q4.out 1
     have hns54_0 := q0.out
     have hms54_0 := j1.out
     have hs55 : w52.cell? ⟨q1, 2, none⟩ = some (.string (⟨#[]⟩ : ByteArray)) := (blk_cell q4.out 2).trans rfl
     have hfs55 := blk_frozen q4.out 2
     have hns55_0 := q0.out
     have hms55_0 := j1.out
     refine skip_ (w1 := ?_) (by rfl) rfl ?_ ?_
     rotate_left
     ·
      go_simp
      rfl
     refine hK.out _ _ ⟨((cell_far (p := ⟨q1, _, none⟩) q0.out _).trans (((cell_far (p := ⟨q1, _, none⟩) q0.out _).trans (((cell_far (p := ⟨q1, _, none⟩) q0.out _).trans (hHeld.1)))))), ((cell_far (p := ⟨q1, _, none⟩) q0.out _).trans (((cell_far (p := ⟨q1, _, none⟩) q0.out _).trans (((cell_far (p := ⟨q1, _, none⟩) q0.out _).trans (hHeld.2.1)))))), ((cell_far (p := ⟨q1, _, none⟩) q0.out _).trans (((cell_far (p := ⟨q1, _, none⟩) q0.out _).trans (((cell_far (p := ⟨q1, _, none⟩) q0.out _).trans (hHeld.2.2.1)))))), ((cell_far (p := ⟨q1, _, none⟩) q0.out _).trans (((cell_far (p := ⟨q1, _, none⟩) q0.out _).trans (((cell_far (p := ⟨q1, _, none⟩) q0.out _).trans (hHeld.2.2.2.1)))))), ((cell_far (p := ⟨q1, _, none⟩) q0.out _).trans (((cell_far (p := ⟨q1, _, none⟩) q0.out _).trans (((cell_far (p := ⟨q1, _, none⟩) q0.out _).trans (hHeld.2.2.2.2.1)))))), ((cell_far (p := ⟨q1, _, none⟩) q0.out _).trans (((cell_far (p := ⟨q1, _, none⟩) q0.out _).trans (((cell_far (p := ⟨q1, _, none⟩) q0.out _).trans (hHeld.2.2.2.2.2.1)))))), ((cell_far (p := ⟨q1, _, none⟩) (by first | exact Nat.ne_of_lt (Nat.lt_of_lt_of_le (by have := World.block_lt_of_cell? _ _ hw254_0; first | rwa [add_block] at this | exact this) q5.out) | (rw [add_block]; exact Nat.ne_of_lt (Nat.lt_of_lt_of_le (by have := World.block_lt_of_cell? _ _ hw254_0; first | rwa [add_block] at this | exact this) q5.out)) | (show (Addr.add _ _).block ≠ _; rw [add_block]; exact Nat.ne_of_lt (Nat.lt_of_lt_of_le (by have := World.block_lt_of_cell? _ _ hw254_0; first | rwa [add_block] at this | exact this) q5.out)) | (dsimp only; exact Nat.ne_of_lt (Nat.lt_of_lt_of_le (by have := World.block_lt_of_cell? _ _ hw254_0; first | rwa [add_block] at this | exact this) q5.out))) _).trans (((cell_far (p := ⟨q1, _, none⟩) (by first | exact Nat.ne_of_lt (Nat.lt_of_lt_of_le (by have := World.block_lt_of_cell? _ _ hw254_0; first | rwa [add_block] at this | exact this) q5.out) | (rw [add_block]; exact Nat.ne_of_lt (Nat.lt_of_lt_of_le (by have := World.block_lt_of_cell? _ _ hw254_0; first | rwa [add_block] at this | exact this) q5.out)) | (show (Addr.add _ _).block ≠ _; rw [add_block]; exact Nat.ne_of_lt (Nat.lt_of_lt_of_le (by have := World.block_lt_of_cell? _ _ hw254_0; first | rwa [add_block] at this | exact this) q5.out)) | (dsimp only; exact Nat.ne_of_lt (Nat.lt_of_lt_of_le (by have := World.block_lt_of_cell? _ _ hw254_0; first | rwa [add_block] at this | exact this) q5.out))) _).trans (((cell_far (p := ⟨q1, _, none⟩) (by first | exact Nat.ne_of_lt (Nat.lt_of_lt_of_le (by have := World.block_lt_of_cell? _ _ hw254_0; first | rwa [add_block] at this | exact this) q5.out) | (rw [add_block]; exact Nat.ne_of_lt (Nat.lt_of_lt_of_le (by have := World.block_lt_of_cell? _ _ hw254_0; first | rwa [add_block] at this | exact this) q5.out)) | (show (Addr.add _ _).block ≠ _; rw [add_block]; exact Nat.ne_of_lt (Nat.lt_of_lt_of_le (by have := World.block_lt_of_cell? _ _ hw254_0; first | rwa [add_block] at this | exact this) q5.out)) | (dsimp only; exact Nat.ne_of_lt (Nat.lt_of_lt_of_le (by have := World.block_lt_of_cell? _ _ hw254_0; first | rwa [add_block] at this | exact this) q5.out))) _).trans (hHeld.2.2.2.2.2.2))))))⟩ (fun hHeld => ?_)
     clear hK K
     refine done_ (done_of HT_.out (by kernel_rfl)) ?_
     try go_wp2
     refine bodyPost_ret (results_cell_row rfl _ _ q1 41 #[.int .i64 q9, .int .i64 (rd q8 a1), .string (⟨#[]⟩ : ByteArray)] (0, 0) _ rfl (by apply blk_u; refine blk_put (cs := #[.int .i64 q9, .int .i64 (rd q8 a1), .string (⟨#[]⟩ : ByteArray)]) ?_ 2 _ rfl; apply blk_u; refine blk_put (cs := #[.int .i64 q9, .int .i64 0, .string (⟨#[]⟩ : ByteArray)]) ?_ 1 _ rfl; apply blk_u; refine blk_put (cs := #[.int .i64 0, .int .i64 0, .string (⟨#[]⟩ : ByteArray)]) ?_ 0 _ rfl; apply blk_u; exact q4.out) Try.underlying41 rfl (by kernel_rfl)) rfl ?_
     exact ⟨by first | rfl | (simp [errW_none, errW_some] <;> rfl) | (simp [*, errW_none, errW_some] <;> rfl), bl HB⟩
    ·
     rw [if_neg c45] at H
     exact absurd H (by simp)
   ·
    rw [if_neg c44] at H
    exact absurd H (by simp)
end Go.Proofs.Ytphnmaobpefoiaa.XW
end
