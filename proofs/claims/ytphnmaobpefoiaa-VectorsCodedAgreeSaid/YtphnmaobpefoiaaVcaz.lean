/- VectorsCodedAgree: for every vector and row the law's call returns true, and what came in reads as before; no condition. -/
import Derived.Test.YtphnmaobpefoiaaVcaz6
import Derived.Below
import Derived.Carry
import Derived.ChangeOld
import Derived.OpenShut
import Derived.ProofKit
import Derived.ShutString
import Derived.SizedLaws
import Derived.Test.YtphnmaobpefoiaaRows
import Derived.WalkKit
set_option linter.unusedVariables false
set_option linter.unusedSimpArgs false
section
namespace Go.Proofs.Ytphnmaobpefoiaa.vectorsCodedAgree
open Go.ChangeShapes Go.WideShapes Go.ChangeAt Go.RowKit Go.Proofs.Ytphnmaobpefoiaa.XA Go.Proofs.YtphnmaobpefoiaaXW Go.Proofs.YtphnmaobpefoiaaW.PrintWords Go.Proofs.YtphnmaobpefoiaaW.PrintLast Go.Proofs.YtphnmaobpefoiaaW.PrintMore
theorem answers (a : Int) (A1 : Option Addr) (c1 : Nat) (nl : List Bool) (A2 : Option Addr) (c2 : Nat) (nm : List Int) (A3 : Option Addr) (c3 : Nat) (tx : List ByteArray) (A4 : Option Addr) (c4 : Nat) (dc : List ByteArray) (A5 : Option Addr) (c5 : Nat) (cd : List Int) (i : Int) (w : World)
    (h1 : Kd.C Kd.bool w A1 nl.length nl) (g1 : nl.length ≤ c1) (h2 : Kd.C (Kd.int .i64) w A2 nm.length nm) (g2 : nm.length ≤ c2) (h3 : Kd.C Kd.string w A3 tx.length tx) (g3 : tx.length ≤ c3) (h4 : Kd.C Kd.string w A4 dc.length dc) (g4 : dc.length ≤ c4) (h5 : Kd.C (Kd.int .i64) w A5 cd.length cd) (g5 : cd.length ≤ c5) :
    Calls Try.prog 4 #[.agg #[.int .i64 a, .slice A1 nl.length c1, .slice A2 nm.length c2, .slice A3 tx.length c3, .slice A4 dc.length c4, .slice A5 cd.length c5], .int .i64 i] w fun e w' => e = .returned (.bool true) ∧ Below w.heap.size w w' := by
  rcases At_ev (a := a) (nl := nl) (nm := nm) (tx := tx) (dc := dc) (cd := cd) i 200000 (by decide) with ⟨c, hc, hA⟩ | ⟨n, j, hv, hj, rfl⟩
  · exact vca_bad 200000 a A1 c1 nl A2 c2 nm A3 c3 tx A4 c4 dc A5 c5 cd i w h1 g1 h2 g2 h3 g3 h4 g4 h5 g5 c hc hA (awake_f _ (by decide))
  · have hl : (vals a nl nm tx dc cd n).length = n := vals_length
    have hle := hv.le
    have hcol := vals_col hv
    have hk : 5000 ≤ 200000 := by decide
    have hjv : (vals a nl nm tx dc cd n)[j]'(by omega) = valAt a nl nm tx dc cd j := by simp [vals]
    obtain ⟨hx, hxa, hxv⟩ := codedOf_valid hv.kind (by omega) hcol
    have hy := of_valid hv.kind (by omega) hcol
    have hyv := of_vals hv.kind hcol
    have e1 := At_ok hv j hj 200000 hk
    have e2 := Coded_ok hv 200000 hk
    have e3 := Plain_ok hv 200000 hk
    have e4 := At_ok hx j (by omega) 200000 hk
    rw [hxv j (by omega), hjv] at e4
    have e5 := At_ok hy j (by omega) 200000 hk
    rw [hyv j (by omega), hjv] at e5
    have e6 := Coded_ok hy 200000 hk
    rw [vals_of rfl hyv] at e6
    obtain ⟨l1, l2, l3, l4, l5⟩ := hx.lens
    exact vca_ok 200000 a A1 c1 nl A2 c2 nm A3 c3 tx A4 c4 dc A5 c5 cd j _ _ _ _ _ _ _ _ _ _ _ _ _ _ _ w h1 g1 h2 g2 h3 g3 h4 g4 h5 g5 e1 e2 e3 e4 e5 e6
      (same_refl _ _ _ _ _ _ l1 l2 l3 l4 l5 _ (by decide)) (awake_f _ (by decide))
abbrev KV : Kd (Int × List Bool × List Int × List ByteArray × List ByteArray × List Int) :=
  Kd.pair (Kd.int .i64) (Kd.pair (Kd.slice 4 Kd.bool) (Kd.pair (Kd.slice 3 (Kd.int .i64)) (Kd.pair (Kd.slice 9 Kd.string) (Kd.pair (Kd.slice 9 Kd.string) (Kd.slice 3 (Kd.int .i64))))))
theorem u3 : Try.prog.underlying 3 = some (.int .i64) := by kernel_rfl
theorem u4 : Try.prog.underlying 4 = some .bool := by kernel_rfl
theorem u9 : Try.prog.underlying 9 = some .string := by kernel_rfl
def VF : Array Field := #[{ name := "Kind", type := 3, offset := 0, embedded := false, tag := "", pkgPath := "", byteOffset := 0 }, { name := "Nulls", type := 36, offset := 1, embedded := false, tag := "", pkgPath := "", byteOffset := 8 }, { name := "Nums", type := 24, offset := 2, embedded := false, tag := "", pkgPath := "", byteOffset := 32 }, { name := "Texts", type := 37, offset := 3, embedded := false, tag := "", pkgPath := "", byteOffset := 56 }, { name := "Dict", type := 37, offset := 4, embedded := false, tag := "", pkgPath := "", byteOffset := 80 }, { name := "Codes", type := 24, offset := 5, embedded := false, tag := "", pkgPath := "", byteOffset := 104 }]
theorem opens_vec : ∃ G, Opens Try.prog 39 KV G := by
  have hi : Opens Try.prog 3 (Kd.int .i64) (fun n => (Lit.int .i64 n).wf = true) := opens_int u3
  have hb : Opens Try.prog 36 (Kd.slice 4 Kd.bool) _ := opens_slice Try.underlying36 (by kernel_rfl) (opens_bool u4)
  have hn : Opens Try.prog 24 (Kd.slice 3 (Kd.int .i64)) _ := opens_slice Try.underlying24 (by kernel_rfl) hi
  have ht : Opens Try.prog 37 (Kd.slice 9 Kd.string) _ := opens_slice Try.underlying37 (by kernel_rfl) (opens_string u9)
  have f5 : OpensFrom Try.prog VF 5 5 6 (Kd.slice 3 (Kd.int .i64)) _ := from_last rfl rfl (by kernel_rfl) rfl hn
  have f4 : OpensFrom Try.prog VF 4 4 6 (Kd.pair (Kd.slice 9 Kd.string) _) _ := from_cons rfl rfl (by kernel_rfl) ht rfl f5
  have f3 : OpensFrom Try.prog VF 3 3 6 (Kd.pair (Kd.slice 9 Kd.string) _) _ := from_cons rfl rfl (by kernel_rfl) ht rfl f4
  have f2 : OpensFrom Try.prog VF 2 2 6 (Kd.pair (Kd.slice 3 (Kd.int .i64)) _) _ := from_cons rfl rfl (by kernel_rfl) hn rfl f3
  have f1 : OpensFrom Try.prog VF 1 1 6 (Kd.pair (Kd.slice 4 Kd.bool) _) _ := from_cons rfl rfl (by kernel_rfl) hb rfl f2
  have f0 : OpensFrom Try.prog VF 0 0 6 (Kd.pair (Kd.int .i64) _) _ := from_cons rfl rfl (by kernel_rfl) hi rfl f1
  have e : Try.prog.cellsOf 39 = 6 := by kernel_rfl
  exact ⟨_, opens_struct Try.underlying39 (by rw [e]; exact f0)⟩
theorem own : ownKnob Try.prog.godebug = none := by kernel_rfl
theorem laidOut : laidOutB Try.prog = true := by kernel_rfl
set_option maxRecDepth 100000 in
theorem lifted (os : Os) (started : os.Started) (H : Type) (enc : TypeId × Value → H) :
    ReturnsInHanded {} Try.checked os 4 .any (Rows.vectorsCodedAgreeSpec.pre6 enc Try.prog Try.f4 Rows.vectorsCodedAgreeRow.domain false) (Rows.vectorsCodedAgreeSpec.post enc Try.prog Try.f4 false true false false) := by
  refine returnsInHanded_of_change_sized (C := Try.checked) own started (by kernel_rfl) Try.func4
    (ChangeSpec.witness6 (enc := enc) (C := Try.checked) false ⟨#[], #[.agg #[.int .i64 0, .slice none 0 0, .slice none 0 0, .slice none 0 0, .slice none 0 0, .slice none 0 0], .int .i64 0], []⟩ 8 (by kernel_rfl) (by kernel_rfl) (by kernel_rfl) (by kernel_rfl)) ?_
  intro W base args ds gs before hval0 hW hcnd hsz0 _
  have hval : ∀ (j : Nat) t v, Try.f4.params[j]? = some t → args[j]? = some v → Value.okWide Try.prog W .any base t v := hval0
  have hW' := hW
  obtain ⟨p, q, hA0, hV, rfl, hfz, hnd⟩ := hW
  have hA : DataW.TrodAll enc Try.prog W 0 (fun _ => true) true Try.f4.params.toList args.toList ds p := hA0
  rw [Try.params4] at hA hval
  obtain ⟨v0, vs0, d0, ds0, p0, q0, hargs, rfl, rfl, h0, r0⟩ := trodAll_cons hA
  obtain ⟨v1, vs1, d1, ds1, p1, q1, rfl, rfl, rfl, h1, r1⟩ := trodAll_cons r0
  obtain ⟨rfl, rfl, rfl⟩ := trodAll_nil r1
  obtain rfl : args = #[v0, v1] := by cases args; simp_all
  obtain ⟨rfl, rfl⟩ := trodVars_none hV
  obtain ⟨cs, rfl, _⟩ := okWide_struct Try.underlying39 (hval 0 39 v0 rfl rfl)
  have k0 := h0
  have lt0 : ∀ x ∈ p0, x.block < W.heap.size := by obtain ⟨m, hm⟩ := k0; exact DataW.trod_lt m _ _ _ hm
  obtain ⟨a1, rfl, rfl, rfl, w1⟩ := open_int u3 (hval 1 3 v1 rfl rfl) h1
  obtain ⟨⟨a, nl, nm, tx, dc, cd⟩, hK⟩ : ∃ x, KV.K W x cs.toList := by
    obtain ⟨G, hG⟩ := opens_vec
    obtain ⟨fuel, hf⟩ := h0
    obtain ⟨x, hx, _⟩ := hG _ enc W _ _ _ fuel _ _ hf
    exact ⟨x, hx⟩
  obtain ⟨_, _, hc0, rfl, _, _, rfl, ⟨A1, c1, rfl, g1, s1⟩, _, _, rfl, ⟨A2, c2, rfl, g2, s2⟩, _, _, rfl, ⟨A3, c3, rfl, g3, s3⟩, _, _, rfl, ⟨A4, c4, rfl, g4, s4⟩, A5, c5, rfl, g5, s5⟩ := hK
  obtain rfl : cs = #[.int .i64 a, .slice A1 nl.length c1, .slice A2 nm.length c2, .slice A3 tx.length c3, .slice A4 dc.length c4, .slice A5 cd.length c5] := by
    cases cs; simpa using hc0
  clear hA0 hval0 hsz0
  refine (answers a A1 c1 nl A2 c2 nm A3 c3 tx A4 c4 dc A5 c5 cd a1 W s1 g1 s2 g2 s3 g3 s4 g4 s5 g5).mono fun e W' ⟨he, bel⟩ => ?_
  subst he
  exact ⟨_, rfl, _, _, _, [], _, [], hW', trodAll_mk1 (shut_bool u4 _), trodAll_cons_mk (Below.trod laidOut (by kernel_rfl) (of_decide_eq_true (by kernel_rfl)) k0 bel lt0) (trodAll_cons_mk (shut_int u3 w1) trodAll_mk0), rfl, bel.frame _, fun h => by cases h⟩
theorem over : Rows.vectorsCodedAgreeRow.holds Try.pinned (OpenSpec.ofChange Rows.vectorsCodedAgreeSpec) :=
  OpenClaim.holds_of_wide 4 Try.f4 rfl rfl rfl rfl rfl rfl rfl ⟨rfl, rfl, rfl, rfl, rfl⟩ rfl rfl rfl rfl rfl (by kernel_rfl) Try.func4 (by kernel_rfl)
    (of_decide_eq_true (by kernel_rfl)) (by unfold Func.isWrapper; first | (rw [if_pos (by decide +kernel)]; kernel_rfl) | (rw [if_neg (by decide +kernel)]; exact ⟨rfl, rfl⟩))
    (fun os started H enc _ => lifted os started H enc)
theorem proved : Rows.VectorsCodedAgreeSaid := over
#print axioms proved
end Go.Proofs.Ytphnmaobpefoiaa.vectorsCodedAgree
namespace Go.Proofs.Ytphnmaobpefoiaa
theorem vectorsCodedAgree_holds : Rows.VectorsCodedAgreeSaid := vectorsCodedAgree.proved
end Go.Proofs.Ytphnmaobpefoiaa
end
