/- WorkIsShared: for every input the call returns true and each argument reads as before; no condition. -/
import Derived.Test.YtphnmaobpefoiaaWisz4
import Derived.Below
import Derived.Carry
import Derived.ChangeOld
import Derived.OpenShut
import Derived.ProofKit
import Derived.ShutString
import Derived.SizedLaws
import Derived.Test.YtphnmaobpefoiaaRows
import Derived.WalkKit
set_option linter.unusedVariables false
set_option linter.unusedSimpArgs false
section
namespace Go.Proofs.Ytphnmaobpefoiaa.workIsShared
open Go.ChangeShapes Go.WideShapes Go.ChangeAt Go.RowKit Go.Proofs.Ytphnmaobpefoiaa.XW Go.Proofs.YtphnmaobpefoiaaXW Go.Proofs.YtphnmaobpefoiaaW.PrintWords Go.Proofs.YtphnmaobpefoiaaW.PrintLast Go.Proofs.YtphnmaobpefoiaaW.PrintMore
open Go.ChangeMaps (open_string shut_string)
theorem o9 : ∃ G, Opens Try.prog 9 Kd.string G := ⟨_, opens_string (by kernel_rfl)⟩
theorem o3 : ∃ G, Opens Try.prog 3 (Kd.int .i64) G := ⟨_, opens_int (by kernel_rfl)⟩
def fs86 : Array Field := #[{ name := "Name", type := 9, offset := 0, embedded := false, tag := "", pkgPath := "", byteOffset := 0 }, { name := "Kind", type := 3, offset := 1, embedded := false, tag := "", pkgPath := "", byteOffset := 16 }]
theorem o86 : ∃ G, Opens Try.prog 86 k86 G := by
  obtain ⟨G0, h0⟩ := o9
  obtain ⟨G1, h1⟩ := o3
  have f1 : OpensFrom Try.prog fs86 1 1 2 (Kd.int .i64) _ := from_last rfl rfl (by kernel_rfl) rfl h1
  have f0 : OpensFrom Try.prog fs86 0 0 2 (Kd.pair Kd.string (Kd.int .i64)) _ := from_cons rfl rfl (by kernel_rfl) h0 rfl f1
  have hu : Try.prog.underlying 86 = some (.struct fs86) := by kernel_rfl
  have e : Try.prog.cellsOf 86 = 2 := by kernel_rfl
  have hc : Opens Try.prog 86 (Kd.pair Kd.string (Kd.int .i64)) _ := opens_struct hu (by rw [e]; exact f0)
  exact ⟨_, opens_iso (fun x : S86 => (x.f0, x.f1)) (fun a => ⟨a.1, a.2⟩) (fun a => rfl) hc⟩
theorem o22 : ∃ G, Opens Try.prog 22 (Kd.slice 86 k86) G := by
  obtain ⟨G, h⟩ := o86
  have hu : Try.prog.underlying 22 = some (.slice 86) := by kernel_rfl
  exact ⟨_, opens_slice hu (by kernel_rfl) h⟩
theorem o4 : ∃ G, Opens Try.prog 4 Kd.bool G := ⟨_, opens_bool (by kernel_rfl)⟩
theorem o36 : ∃ G, Opens Try.prog 36 (Kd.slice 4 Kd.bool) G := by
  obtain ⟨G, h⟩ := o4
  have hu : Try.prog.underlying 36 = some (.slice 4) := by kernel_rfl
  exact ⟨_, opens_slice hu (by kernel_rfl) h⟩
theorem o24 : ∃ G, Opens Try.prog 24 (Kd.slice 3 (Kd.int .i64)) G := by
  obtain ⟨G, h⟩ := o3
  have hu : Try.prog.underlying 24 = some (.slice 3) := by kernel_rfl
  exact ⟨_, opens_slice hu (by kernel_rfl) h⟩
theorem o37 : ∃ G, Opens Try.prog 37 (Kd.slice 9 Kd.string) G := by
  obtain ⟨G, h⟩ := o9
  have hu : Try.prog.underlying 37 = some (.slice 9) := by kernel_rfl
  exact ⟨_, opens_slice hu (by kernel_rfl) h⟩
def fs39 : Array Field := #[{ name := "Kind", type := 3, offset := 0, embedded := false, tag := "", pkgPath := "", byteOffset := 0 }, { name := "Nulls", type := 36, offset := 1, embedded := false, tag := "", pkgPath := "", byteOffset := 8 }, { name := "Nums", type := 24, offset := 2, embedded := false, tag := "", pkgPath := "", byteOffset := 32 }, { name := "Texts", type := 37, offset := 3, embedded := false, tag := "", pkgPath := "", byteOffset := 56 }, { name := "Dict", type := 37, offset := 4, embedded := false, tag := "", pkgPath := "", byteOffset := 80 }, { name := "Codes", type := 24, offset := 5, embedded := false, tag := "", pkgPath := "", byteOffset := 104 }]
theorem o39 : ∃ G, Opens Try.prog 39 k39 G := by
  obtain ⟨G0, h0⟩ := o3
  obtain ⟨G1, h1⟩ := o36
  obtain ⟨G2, h2⟩ := o24
  obtain ⟨G3, h3⟩ := o37
  obtain ⟨G4, h4⟩ := o37
  obtain ⟨G5, h5⟩ := o24
  have f5 : OpensFrom Try.prog fs39 5 5 6 (Kd.slice 3 (Kd.int .i64)) _ := from_last rfl rfl (by kernel_rfl) rfl h5
  have f4 : OpensFrom Try.prog fs39 4 4 6 (Kd.pair (Kd.slice 9 Kd.string) (Kd.slice 3 (Kd.int .i64))) _ := from_cons rfl rfl (by kernel_rfl) h4 rfl f5
  have f3 : OpensFrom Try.prog fs39 3 3 6 (Kd.pair (Kd.slice 9 Kd.string) (Kd.pair (Kd.slice 9 Kd.string) (Kd.slice 3 (Kd.int .i64)))) _ := from_cons rfl rfl (by kernel_rfl) h3 rfl f4
  have f2 : OpensFrom Try.prog fs39 2 2 6 (Kd.pair (Kd.slice 3 (Kd.int .i64)) (Kd.pair (Kd.slice 9 Kd.string) (Kd.pair (Kd.slice 9 Kd.string) (Kd.slice 3 (Kd.int .i64))))) _ := from_cons rfl rfl (by kernel_rfl) h2 rfl f3
  have f1 : OpensFrom Try.prog fs39 1 1 6 (Kd.pair (Kd.slice 4 Kd.bool) (Kd.pair (Kd.slice 3 (Kd.int .i64)) (Kd.pair (Kd.slice 9 Kd.string) (Kd.pair (Kd.slice 9 Kd.string) (Kd.slice 3 (Kd.int .i64)))))) _ := from_cons rfl rfl (by kernel_rfl) h1 rfl f2
  have f0 : OpensFrom Try.prog fs39 0 0 6 (Kd.pair (Kd.int .i64) (Kd.pair (Kd.slice 4 Kd.bool) (Kd.pair (Kd.slice 3 (Kd.int .i64)) (Kd.pair (Kd.slice 9 Kd.string) (Kd.pair (Kd.slice 9 Kd.string) (Kd.slice 3 (Kd.int .i64))))))) _ := from_cons rfl rfl (by kernel_rfl) h0 rfl f1
  have hu : Try.prog.underlying 39 = some (.struct fs39) := by kernel_rfl
  have e : Try.prog.cellsOf 39 = 6 := by kernel_rfl
  have hc : Opens Try.prog 39 (Kd.pair (Kd.int .i64) (Kd.pair (Kd.slice 4 Kd.bool) (Kd.pair (Kd.slice 3 (Kd.int .i64)) (Kd.pair (Kd.slice 9 Kd.string) (Kd.pair (Kd.slice 9 Kd.string) (Kd.slice 3 (Kd.int .i64))))))) _ := opens_struct hu (by rw [e]; exact f0)
  exact ⟨_, opens_iso (fun x : S39 => (x.f0, x.f1, x.f2, x.f3, x.f4, x.f5)) (fun a => ⟨a.1, a.2.1, a.2.2.1, a.2.2.2.1, a.2.2.2.2.1, a.2.2.2.2.2⟩) (fun a => rfl) hc⟩
theorem o23 : ∃ G, Opens Try.prog 23 (Kd.slice 39 k39) G := by
  obtain ⟨G, h⟩ := o39
  have hu : Try.prog.underlying 23 = some (.slice 39) := by kernel_rfl
  exact ⟨_, opens_slice hu (by kernel_rfl) h⟩
def fs26 : Array Field := #[{ name := "Rows", type := 3, offset := 0, embedded := false, tag := "", pkgPath := "", byteOffset := 0 }, { name := "Columns", type := 23, offset := 1, embedded := false, tag := "", pkgPath := "", byteOffset := 8 }, { name := "Whole", type := 4, offset := 2, embedded := false, tag := "", pkgPath := "", byteOffset := 32 }, { name := "Picked", type := 24, offset := 3, embedded := false, tag := "", pkgPath := "", byteOffset := 40 }]
theorem o26 : ∃ G, Opens Try.prog 26 (Kd.pair (Kd.int .i64) (Kd.pair (Kd.slice 39 k39) (Kd.pair Kd.bool (Kd.slice 3 (Kd.int .i64))))) G := by
  obtain ⟨G0, h0⟩ := o3
  obtain ⟨G1, h1⟩ := o23
  obtain ⟨G2, h2⟩ := o4
  obtain ⟨G3, h3⟩ := o24
  have f3 : OpensFrom Try.prog fs26 3 3 4 (Kd.slice 3 (Kd.int .i64)) _ := from_last rfl rfl (by kernel_rfl) rfl h3
  have f2 : OpensFrom Try.prog fs26 2 2 4 (Kd.pair Kd.bool (Kd.slice 3 (Kd.int .i64))) _ := from_cons rfl rfl (by kernel_rfl) h2 rfl f3
  have f1 : OpensFrom Try.prog fs26 1 1 4 (Kd.pair (Kd.slice 39 k39) (Kd.pair Kd.bool (Kd.slice 3 (Kd.int .i64)))) _ := from_cons rfl rfl (by kernel_rfl) h1 rfl f2
  have f0 : OpensFrom Try.prog fs26 0 0 4 (Kd.pair (Kd.int .i64) (Kd.pair (Kd.slice 39 k39) (Kd.pair Kd.bool (Kd.slice 3 (Kd.int .i64))))) _ := from_cons rfl rfl (by kernel_rfl) h0 rfl f1
  have hu : Try.prog.underlying 26 = some (.struct fs26) := by kernel_rfl
  have e : Try.prog.cellsOf 26 = 4 := by kernel_rfl
  exact ⟨_, opens_struct hu (by rw [e]; exact f0)⟩
def fs41 : Array Field := #[{ name := "Kind", type := 3, offset := 0, embedded := false, tag := "", pkgPath := "", byteOffset := 0 }, { name := "Num", type := 3, offset := 1, embedded := false, tag := "", pkgPath := "", byteOffset := 8 }, { name := "Text", type := 9, offset := 2, embedded := false, tag := "", pkgPath := "", byteOffset := 16 }]
theorem o41 : ∃ G, Opens Try.prog 41 k41 G := by
  obtain ⟨G0, h0⟩ := o3
  obtain ⟨G1, h1⟩ := o3
  obtain ⟨G2, h2⟩ := o9
  have f2 : OpensFrom Try.prog fs41 2 2 3 Kd.string _ := from_last rfl rfl (by kernel_rfl) rfl h2
  have f1 : OpensFrom Try.prog fs41 1 1 3 (Kd.pair (Kd.int .i64) Kd.string) _ := from_cons rfl rfl (by kernel_rfl) h1 rfl f2
  have f0 : OpensFrom Try.prog fs41 0 0 3 (Kd.pair (Kd.int .i64) (Kd.pair (Kd.int .i64) Kd.string)) _ := from_cons rfl rfl (by kernel_rfl) h0 rfl f1
  have hu : Try.prog.underlying 41 = some (.struct fs41) := by kernel_rfl
  have e : Try.prog.cellsOf 41 = 3 := by kernel_rfl
  have hc : Opens Try.prog 41 (Kd.pair (Kd.int .i64) (Kd.pair (Kd.int .i64) Kd.string)) _ := opens_struct hu (by rw [e]; exact f0)
  exact ⟨_, opens_iso (fun x : S41 => (x.f0, x.f1, x.f2)) (fun a => ⟨a.1, a.2.1, a.2.2⟩) (fun a => rfl) hc⟩
def fs64 : Array Field := #[{ name := "Kind", type := 3, offset := 0, embedded := false, tag := "", pkgPath := "", byteOffset := 0 }, { name := "Num", type := 3, offset := 1, embedded := false, tag := "", pkgPath := "", byteOffset := 8 }, { name := "Value", type := 41, offset := 2, embedded := false, tag := "", pkgPath := "", byteOffset := 16 }]
theorem o64 : ∃ G, Opens Try.prog 64 k64 G := by
  obtain ⟨G0, h0⟩ := o3
  obtain ⟨G1, h1⟩ := o3
  obtain ⟨G2, h2⟩ := o41
  have f2 : OpensFrom Try.prog fs64 2 2 5 k41 _ := from_last rfl rfl (by kernel_rfl) rfl h2
  have f1 : OpensFrom Try.prog fs64 1 1 5 (Kd.pair (Kd.int .i64) k41) _ := from_cons rfl rfl (by kernel_rfl) h1 rfl f2
  have f0 : OpensFrom Try.prog fs64 0 0 5 (Kd.pair (Kd.int .i64) (Kd.pair (Kd.int .i64) k41)) _ := from_cons rfl rfl (by kernel_rfl) h0 rfl f1
  have hu : Try.prog.underlying 64 = some (.struct fs64) := by kernel_rfl
  have e : Try.prog.cellsOf 64 = 5 := by kernel_rfl
  have hc : Opens Try.prog 64 (Kd.pair (Kd.int .i64) (Kd.pair (Kd.int .i64) k41)) _ := opens_struct hu (by rw [e]; exact f0)
  exact ⟨_, opens_iso (fun x : S64 => (x.f0, x.f1, x.f2)) (fun a => ⟨a.1, a.2.1, a.2.2⟩) (fun a => rfl) hc⟩
theorem o32 : ∃ G, Opens Try.prog 32 (Kd.slice 64 k64) G := by
  obtain ⟨G, h⟩ := o64
  have hu : Try.prog.underlying 32 = some (.slice 64) := by kernel_rfl
  exact ⟨_, opens_slice hu (by kernel_rfl) h⟩
def fs34 : Array Field := #[{ name := "Nodes", type := 32, offset := 0, embedded := false, tag := "", pkgPath := "", byteOffset := 0 }]
theorem o34 : ∃ G, Opens Try.prog 34 k34 G := by
  obtain ⟨G0, h0⟩ := o32
  have f0 : OpensFrom Try.prog fs34 0 0 1 (Kd.slice 64 k64) _ := from_last rfl rfl (by kernel_rfl) rfl h0
  have hu : Try.prog.underlying 34 = some (.struct fs34) := by kernel_rfl
  have e : Try.prog.cellsOf 34 = 1 := by kernel_rfl
  have hc : Opens Try.prog 34 (Kd.slice 64 k64) _ := opens_struct hu (by rw [e]; exact f0)
  exact ⟨_, opens_iso (fun x : S34 => (x.f0)) (fun a => ⟨a⟩) (fun a => rfl) hc⟩
theorem o27 : ∃ G, Opens Try.prog 27 (Kd.slice 34 k34) G := by
  obtain ⟨G, h⟩ := o34
  have hu : Try.prog.underlying 27 = some (.slice 34) := by kernel_rfl
  exact ⟨_, opens_slice hu (by kernel_rfl) h⟩
theorem ub : Try.prog.underlying 4 = some .bool := by kernel_rfl
theorem own : ownKnob Try.prog.godebug = none := by kernel_rfl
theorem laidOut : laidOutB Try.prog = true := by kernel_rfl
set_option maxRecDepth 100000 in
theorem lifted (os : Os) (started : os.Started) (H : Type) (enc : TypeId × Value → H) :
    ReturnsInHanded {} Try.checked os 3 .any (Rows.workIsSharedSpec.pre6 enc Try.prog Try.f3 Rows.workIsSharedRow.domain false) (Rows.workIsSharedSpec.post enc Try.prog Try.f3 false true false false) := by
  refine returnsInHanded_of_change_sized (C := Try.checked) own started (by kernel_rfl) Try.func3
    (ChangeSpec.witness6 (enc := enc) (C := Try.checked) false ⟨#[], #[.slice none 0 0, .agg #[.int .i64 0, .slice none 0 0, .bool false, .slice none 0 0], .slice none 0 0, .int .i64 0], []⟩ 8 (by kernel_rfl) (by kernel_rfl) (by kernel_rfl) (by kernel_rfl)) ?_
  intro W base args ds gs before hval0 hW hcnd hsz0 _
  have hval : ∀ (j : Nat) t v, Try.f3.params[j]? = some t → args[j]? = some v → Value.okWide Try.prog W .any base t v := hval0
  have hW' := hW
  obtain ⟨p, q, hA0, hV, rfl, hfz, hnd⟩ := hW
  have hA : DataW.TrodAll enc Try.prog W 0 (fun _ => true) true Try.f3.params.toList args.toList ds p := hA0
  rw [Try.params3] at hA hval
  obtain ⟨v0, vs0, d0, ds0, p0, q0, hargs, rfl, rfl, h0, r0⟩ := trodAll_cons hA
  obtain ⟨v1, vs1, d1, ds1, p1, q1, rfl, rfl, rfl, h1, r1⟩ := trodAll_cons r0
  obtain ⟨v2, vs2, d2, ds2, p2, q2, rfl, rfl, rfl, h2, r2⟩ := trodAll_cons r1
  obtain ⟨v3, vs3, d3, ds3, p3, q3, rfl, rfl, rfl, h3, r3⟩ := trodAll_cons r2
  obtain ⟨rfl, rfl, rfl⟩ := trodAll_nil r3
  obtain rfl : args = #[v0, v1, v2, v3] := by cases args; simp_all
  obtain ⟨rfl, rfl⟩ := trodVars_none hV
  have k0 := h0
  have lt0 : ∀ x ∈ p0, x.block < W.heap.size := by obtain ⟨m, hm⟩ := k0; exact DataW.trod_lt m _ _ _ hm
  obtain ⟨x0, hK0⟩ : ∃ x, (Kd.slice 86 k86).K W x (Value.cells v0).toList := by
    obtain ⟨G, hG⟩ := o22
    obtain ⟨fuel, hf⟩ := h0
    obtain ⟨x, hx, _⟩ := hG _ enc W _ _ _ fuel _ _ hf
    exact ⟨x, hx⟩
  obtain ⟨b0, len0, cap0, rfl⟩ := okWide_slice (by kernel_rfl : Try.prog.underlying 22 = some (.slice 86)) (hval 0 22 v0 rfl rfl)
  obtain ⟨A0, c0, hc0, g0, s0⟩ := hK0
  obtain ⟨rfl, rfl, rfl⟩ : b0 = A0 ∧ len0 = x0.length ∧ cap0 = c0 := by simpa [Value.cells] using hc0
  have k1 := h1
  have lt1 : ∀ x ∈ p1, x.block < W.heap.size := by obtain ⟨m, hm⟩ := k1; exact DataW.trod_lt m _ _ _ hm
  obtain ⟨cs1, rfl, _⟩ := okWide_struct (by kernel_rfl : Try.prog.underlying 26 = some (.struct fs26)) (hval 1 26 v1 rfl rfl)
  obtain ⟨⟨x1_0, x1_1, x1_2, x1_3⟩, hK1⟩ : ∃ x, (Kd.pair (Kd.int .i64) (Kd.pair (Kd.slice 39 k39) (Kd.pair Kd.bool (Kd.slice 3 (Kd.int .i64))))).K W x cs1.toList := by
    obtain ⟨G, hG⟩ := o26
    obtain ⟨fuel, hf⟩ := h1
    obtain ⟨x, hx, _⟩ := hG _ enc W _ _ _ fuel _ _ hf
    exact ⟨x, hx⟩
  obtain ⟨_, _, hc1, rfl, ⟨_, _, rfl, ⟨A1_1, c1_1, rfl, g1_1, s1_1⟩, ⟨_, _, rfl, rfl, ⟨A1_3, c1_3, rfl, g1_3, s1_3⟩⟩⟩⟩ := hK1
  obtain rfl : cs1 = #[.int .i64 x1_0, .slice A1_1 x1_1.length c1_1, .bool x1_2, .slice A1_3 x1_3.length c1_3] := by
    cases cs1; simpa using hc1
  have k2 := h2
  have lt2 : ∀ x ∈ p2, x.block < W.heap.size := by obtain ⟨m, hm⟩ := k2; exact DataW.trod_lt m _ _ _ hm
  obtain ⟨x2, hK2⟩ : ∃ x, (Kd.slice 34 k34).K W x (Value.cells v2).toList := by
    obtain ⟨G, hG⟩ := o27
    obtain ⟨fuel, hf⟩ := h2
    obtain ⟨x, hx, _⟩ := hG _ enc W _ _ _ fuel _ _ hf
    exact ⟨x, hx⟩
  obtain ⟨b2, len2, cap2, rfl⟩ := okWide_slice (by kernel_rfl : Try.prog.underlying 27 = some (.slice 34)) (hval 2 27 v2 rfl rfl)
  obtain ⟨A2, c2, hc2, g2, s2⟩ := hK2
  obtain ⟨rfl, rfl, rfl⟩ : b2 = A2 ∧ len2 = x2.length ∧ cap2 = c2 := by simpa [Value.cells] using hc2
  obtain ⟨a3, rfl, rfl, rfl, w3⟩ := open_int (by kernel_rfl : Try.prog.underlying 3 = some (.int .i64)) (hval 3 3 v3 rfl rfl) h3
  clear hA0 hval0 hsz0
  refine (wisAnswers b0 cap0 x0 x1_0 A1_1 c1_1 x1_1 x1_2 A1_3 c1_3 x1_3 b2 cap2 x2 a3 W s0 g0 s1_1 g1_1 s1_3 g1_3 s2 g2).mono fun e W' ⟨he, bel⟩ => ?_
  subst he
  exact ⟨_, rfl, _, _, _, [], _, [], hW', trodAll_mk1 (shut_bool ub _), (trodAll_cons_mk (Below.trod laidOut (by kernel_rfl) (of_decide_eq_true (by kernel_rfl)) k0 bel lt0) (trodAll_cons_mk (Below.trod laidOut (by kernel_rfl) (of_decide_eq_true (by kernel_rfl)) k1 bel lt1) (trodAll_cons_mk (Below.trod laidOut (by kernel_rfl) (of_decide_eq_true (by kernel_rfl)) k2 bel lt2) (trodAll_cons_mk (shut_int (by kernel_rfl) w3) trodAll_mk0)))), rfl, bel.frame _, fun h => by cases h⟩
theorem over : Rows.workIsSharedRow.holds Try.pinned (OpenSpec.ofChange Rows.workIsSharedSpec) :=
  OpenClaim.holds_of_wide 3 Try.f3 rfl rfl rfl rfl rfl rfl rfl ⟨rfl, rfl, rfl, rfl, rfl⟩ rfl rfl rfl rfl rfl (by kernel_rfl) Try.func3 (by kernel_rfl)
    (of_decide_eq_true (by kernel_rfl)) (by unfold Func.isWrapper; first | (rw [if_pos (by decide +kernel)]; kernel_rfl) | (rw [if_neg (by decide +kernel)]; exact ⟨rfl, rfl⟩))
    (fun os started H enc _ => lifted os started H enc)
theorem proved : Rows.WorkIsSharedSaid := over
#print axioms proved
end Go.Proofs.Ytphnmaobpefoiaa.workIsShared
namespace Go.Proofs.Ytphnmaobpefoiaa
theorem workIsShared_holds : Rows.WorkIsSharedSaid := workIsShared.proved
end Go.Proofs.Ytphnmaobpefoiaa
end
