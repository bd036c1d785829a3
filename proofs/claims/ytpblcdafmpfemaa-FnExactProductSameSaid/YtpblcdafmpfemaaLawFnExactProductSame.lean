-- laid by seedprint.py, a program of this session, over contracts that it gives by hand; Lean checks it
import Derived.Test.YtpblcdafmpfemaaRows
import Derived.Test.YtpblcdafmpfemaaPFnExactProductSamex9
import Derived.Test.YtpblcdafmpfemaaPureFnExactProductSame
import Derived.Test.YtpblcdafmpfemaaQOpen
import Derived.WalkKit
import Derived.ProofKit
import Derived.OpenShut
import Derived.ShutString
import Derived.ChangeOld
import Derived.Below
import Derived.SizedLaws
namespace Go.Proofs.Ytpblcdafmpfemaa.fnExactProductSame
open Go.ChangeShapes Go.WideShapes Go.ChangeAt Go.RowKit
open Go.ChangeMaps (open_string shut_string)
open Go.Proofs.YtpblcdafmpfemaaW.PrintWords Go.Proofs.YtpblcdafmpfemaaW.PrintLast Go.Proofs.YtpblcdafmpfemaaW.PrintMore
open Go.Proofs.Ytpblcdafmpfemaa.Q Go.Proofs.Ytpblcdafmpfemaa.PFnExactProductSame
set_option linter.unusedVariables false
set_option linter.unusedSimpArgs false
theorem own : ownKnob Try.prog.godebug = none := by kernel_rfl
theorem laidOut : laidOutB Try.prog = true := by kernel_rfl
set_option maxRecDepth 100000 in
set_option maxHeartbeats 4000000 in
theorem lifted (os : Os) (started : os.Started) (H : Type) (enc : TypeId × Value → H) :
    ReturnsInHanded {} Try.checked os 5 .any (Rows.fnExactProductSameSpec.pre6 enc Try.prog Try.f5 Rows.fnExactProductSameRow.domain false) (Rows.fnExactProductSameSpec.post enc Try.prog Try.f5 false true false false) := by
  refine returnsInHanded_of_change_sized (C := Try.checked) own started (by kernel_rfl) Try.func5
    (ChangeSpec.witness6 (enc := enc) (C := Try.checked) false ⟨#[], #[.agg #[.string ByteArray.empty, .int .i64 0, .slice none 0 0, .slice none 0 0, .slice none 0 0, .slice none 0 0, .slice none 0 0, .slice none 0 0], .agg #[.string ByteArray.empty, .int .i64 0, .slice none 0 0, .slice none 0 0, .slice none 0 0, .slice none 0 0, .slice none 0 0, .slice none 0 0]], []⟩ 8 (by kernel_rfl) (by kernel_rfl) (by kernel_rfl) (by kernel_rfl)) ?_
  intro W base args ds gs before hval0 hW hcnd hsz0 _
  have hsz : (DataW.weightsEach Try.prog (Try.f5.params.toList ++ Rows.fnExactProductSameSpec.plain.varTypes Try.prog) (ds ++ gs)).all (· ≤ reachBytes) = true := hsz0
  have hval : ∀ (j : Nat) t v, Try.f5.params[j]? = some t → args[j]? = some v → Value.okWide Try.prog W .any base t v := hval0
  have hW' := hW
  obtain ⟨p, q, hA0, hV, rfl, hfz, hnd⟩ := hW
  have hA : DataW.TrodAll enc Try.prog W 0 (fun _ => true) true Try.f5.params.toList args.toList ds p := hA0
  rw [Try.params5] at hA hval hsz
  obtain ⟨v0, vs0, d0, ds0, p0, q0, hargs, rfl, rfl, h0, r0⟩ := trodAll_cons hA
  obtain ⟨v1, vs1, d1, ds1, p1, q1, rfl, rfl, rfl, h1, r1⟩ := trodAll_cons r0
  obtain ⟨rfl, rfl, rfl⟩ := trodAll_nil r1
  obtain rfl : args = #[v0, v1] := by cases args; simp_all
  obtain ⟨rfl, rfl⟩ := trodVars_none hV
  obtain ⟨cs0, rfl, _⟩ := okWide_struct Try.underlying35 (hval 0 35 v0 rfl rfl)
  obtain ⟨cs0⟩ := cs0
  have k0 := h0
  have lt0 : ∀ x ∈ p0, x.block < W.heap.size := by obtain ⟨m, hm⟩ := k0; exact DataW.trod_lt m _ _ _ hm
  obtain ⟨fuel0, hf0⟩ := h0
  obtain ⟨x0, hK0, hF0⟩ := (opn_flat (d := (Kd.pair Kd.string (Kd.pair (Kd.int .i64) (Kd.pair (Kd.slice 9 Kd.string) (Kd.pair (Kd.slice 9 Kd.string) (Kd.pair (Kd.slice 115 k115) (Kd.pair (Kd.slice 117 k117) (Kd.pair (Kd.slice 117 k117) (Kd.slice 117 k117))))))))) Try.underlying35 (by kernel_rfl) (opnF_cons rfl rfl (by kernel_rfl) (opn_string Try.underlying9) (opnF_cons rfl rfl (by kernel_rfl) (opn_int Try.underlying2) (opnF_cons rfl rfl (by kernel_rfl) (opn_slice Try.underlying28 (by kernel_rfl) (opn_string Try.underlying9)) (opnF_cons rfl rfl (by kernel_rfl) (opn_slice Try.underlying28 (by kernel_rfl) (opn_string Try.underlying9)) (opnF_cons rfl rfl (by kernel_rfl) (opn_slice Try.underlying32 (by kernel_rfl) (opn_struct (d := (Kd.pair Kd.string (Kd.pair (Kd.int .i64) (Kd.pair (Kd.int .i64) (Kd.int .i64))))) Try.underlying115 (by kernel_rfl) (opnF_cons rfl rfl (by kernel_rfl) (opn_string Try.underlying9) (opnF_cons rfl rfl (by kernel_rfl) (opn_int Try.underlying2) (opnF_cons rfl rfl (by kernel_rfl) (opn_int Try.underlying2) (opnF_one rfl rfl (by kernel_rfl) (opn_int Try.underlying2))))) (fun x : S115 => (x.f0, x.f1, x.f2, x.f3)) (fun x => ⟨x.1, x.2.1, x.2.2.1, x.2.2.2⟩) (fun _ => rfl) : Opn Try.prog 115 k115 _)) (opnF_cons rfl rfl (by kernel_rfl) (opn_slice Try.underlying33 (by kernel_rfl) (opn_struct (d := (Kd.pair (Kd.int .i64) (Kd.pair Kd.string (Kd.pair Kd.string (Kd.pair (Kd.int .i64) (Kd.int .i64)))))) Try.underlying117 (by kernel_rfl) (opnF_cons rfl rfl (by kernel_rfl) (opn_int Try.underlying2) (opnF_cons rfl rfl (by kernel_rfl) (opn_string Try.underlying9) (opnF_cons rfl rfl (by kernel_rfl) (opn_string Try.underlying9) (opnF_cons rfl rfl (by kernel_rfl) (opn_int Try.underlying2) (opnF_one rfl rfl (by kernel_rfl) (opn_int Try.underlying2)))))) (fun x : S117 => (x.f0, x.f1, x.f2, x.f3, x.f4)) (fun x => ⟨x.1, x.2.1, x.2.2.1, x.2.2.2.1, x.2.2.2.2⟩) (fun _ => rfl) : Opn Try.prog 117 k117 _)) (opnF_cons rfl rfl (by kernel_rfl) (opn_slice Try.underlying33 (by kernel_rfl) (opn_struct (d := (Kd.pair (Kd.int .i64) (Kd.pair Kd.string (Kd.pair Kd.string (Kd.pair (Kd.int .i64) (Kd.int .i64)))))) Try.underlying117 (by kernel_rfl) (opnF_cons rfl rfl (by kernel_rfl) (opn_int Try.underlying2) (opnF_cons rfl rfl (by kernel_rfl) (opn_string Try.underlying9) (opnF_cons rfl rfl (by kernel_rfl) (opn_string Try.underlying9) (opnF_cons rfl rfl (by kernel_rfl) (opn_int Try.underlying2) (opnF_one rfl rfl (by kernel_rfl) (opn_int Try.underlying2)))))) (fun x : S117 => (x.f0, x.f1, x.f2, x.f3, x.f4)) (fun x => ⟨x.1, x.2.1, x.2.2.1, x.2.2.2.1, x.2.2.2.2⟩) (fun _ => rfl) : Opn Try.prog 117 k117 _)) (opnF_one rfl rfl (by kernel_rfl) (opn_slice Try.underlying33 (by kernel_rfl) (opn_struct (d := (Kd.pair (Kd.int .i64) (Kd.pair Kd.string (Kd.pair Kd.string (Kd.pair (Kd.int .i64) (Kd.int .i64)))))) Try.underlying117 (by kernel_rfl) (opnF_cons rfl rfl (by kernel_rfl) (opn_int Try.underlying2) (opnF_cons rfl rfl (by kernel_rfl) (opn_string Try.underlying9) (opnF_cons rfl rfl (by kernel_rfl) (opn_string Try.underlying9) (opnF_cons rfl rfl (by kernel_rfl) (opn_int Try.underlying2) (opnF_one rfl rfl (by kernel_rfl) (opn_int Try.underlying2)))))) (fun x : S117 => (x.f0, x.f1, x.f2, x.f3, x.f4)) (fun x => ⟨x.1, x.2.1, x.2.2.1, x.2.2.2.1, x.2.2.2.2⟩) (fun _ => rfl) : Opn Try.prog 117 k117 _))))))))))) hf0
  replace hK0 : Kd.K (Kd.pair Kd.string (Kd.pair (Kd.int .i64) (Kd.pair (Kd.slice 9 Kd.string) (Kd.pair (Kd.slice 9 Kd.string) (Kd.pair (Kd.slice 115 k115) (Kd.pair (Kd.slice 117 k117) (Kd.pair (Kd.slice 117 k117) (Kd.slice 117 k117)))))))) W x0 cs0 := hK0
  obtain ⟨a0_0, ⟨a0_1, ⟨l0_2, ⟨l0_3, ⟨l0_4, ⟨l0_5, ⟨l0_6, l0_7⟩⟩⟩⟩⟩⟩⟩ := x0
  obtain ⟨_, _, rfl, rfl, ⟨_, _, rfl, rfl, ⟨_, _, rfl, ⟨A0_2, c0_2, rfl, hc0_2, hC0_2⟩, ⟨_, _, rfl, ⟨A0_3, c0_3, rfl, hc0_3, hC0_3⟩, ⟨_, _, rfl, ⟨A0_4, c0_4, rfl, hc0_4, hC0_4⟩, ⟨_, _, rfl, ⟨A0_5, c0_5, rfl, hc0_5, hC0_5⟩, ⟨_, _, rfl, ⟨A0_6, c0_6, rfl, hc0_6, hC0_6⟩, ⟨A0_7, c0_7, rfl, hc0_7, hC0_7⟩⟩⟩⟩⟩⟩⟩⟩ := hK0
  obtain ⟨w0_0, ⟨w0_1, ⟨w0_2, ⟨w0_3, ⟨w0_4, ⟨w0_5, ⟨w0_6, w0_7⟩⟩⟩⟩⟩⟩⟩ := hF0
  obtain ⟨cs1, rfl, _⟩ := okWide_struct Try.underlying35 (hval 1 35 v1 rfl rfl)
  obtain ⟨cs1⟩ := cs1
  have k1 := h1
  have lt1 : ∀ x ∈ p1, x.block < W.heap.size := by obtain ⟨m, hm⟩ := k1; exact DataW.trod_lt m _ _ _ hm
  obtain ⟨fuel1, hf1⟩ := h1
  obtain ⟨x1, hK1, hF1⟩ := (opn_flat (d := (Kd.pair Kd.string (Kd.pair (Kd.int .i64) (Kd.pair (Kd.slice 9 Kd.string) (Kd.pair (Kd.slice 9 Kd.string) (Kd.pair (Kd.slice 115 k115) (Kd.pair (Kd.slice 117 k117) (Kd.pair (Kd.slice 117 k117) (Kd.slice 117 k117))))))))) Try.underlying35 (by kernel_rfl) (opnF_cons rfl rfl (by kernel_rfl) (opn_string Try.underlying9) (opnF_cons rfl rfl (by kernel_rfl) (opn_int Try.underlying2) (opnF_cons rfl rfl (by kernel_rfl) (opn_slice Try.underlying28 (by kernel_rfl) (opn_string Try.underlying9)) (opnF_cons rfl rfl (by kernel_rfl) (opn_slice Try.underlying28 (by kernel_rfl) (opn_string Try.underlying9)) (opnF_cons rfl rfl (by kernel_rfl) (opn_slice Try.underlying32 (by kernel_rfl) (opn_struct (d := (Kd.pair Kd.string (Kd.pair (Kd.int .i64) (Kd.pair (Kd.int .i64) (Kd.int .i64))))) Try.underlying115 (by kernel_rfl) (opnF_cons rfl rfl (by kernel_rfl) (opn_string Try.underlying9) (opnF_cons rfl rfl (by kernel_rfl) (opn_int Try.underlying2) (opnF_cons rfl rfl (by kernel_rfl) (opn_int Try.underlying2) (opnF_one rfl rfl (by kernel_rfl) (opn_int Try.underlying2))))) (fun x : S115 => (x.f0, x.f1, x.f2, x.f3)) (fun x => ⟨x.1, x.2.1, x.2.2.1, x.2.2.2⟩) (fun _ => rfl) : Opn Try.prog 115 k115 _)) (opnF_cons rfl rfl (by kernel_rfl) (opn_slice Try.underlying33 (by kernel_rfl) (opn_struct (d := (Kd.pair (Kd.int .i64) (Kd.pair Kd.string (Kd.pair Kd.string (Kd.pair (Kd.int .i64) (Kd.int .i64)))))) Try.underlying117 (by kernel_rfl) (opnF_cons rfl rfl (by kernel_rfl) (opn_int Try.underlying2) (opnF_cons rfl rfl (by kernel_rfl) (opn_string Try.underlying9) (opnF_cons rfl rfl (by kernel_rfl) (opn_string Try.underlying9) (opnF_cons rfl rfl (by kernel_rfl) (opn_int Try.underlying2) (opnF_one rfl rfl (by kernel_rfl) (opn_int Try.underlying2)))))) (fun x : S117 => (x.f0, x.f1, x.f2, x.f3, x.f4)) (fun x => ⟨x.1, x.2.1, x.2.2.1, x.2.2.2.1, x.2.2.2.2⟩) (fun _ => rfl) : Opn Try.prog 117 k117 _)) (opnF_cons rfl rfl (by kernel_rfl) (opn_slice Try.underlying33 (by kernel_rfl) (opn_struct (d := (Kd.pair (Kd.int .i64) (Kd.pair Kd.string (Kd.pair Kd.string (Kd.pair (Kd.int .i64) (Kd.int .i64)))))) Try.underlying117 (by kernel_rfl) (opnF_cons rfl rfl (by kernel_rfl) (opn_int Try.underlying2) (opnF_cons rfl rfl (by kernel_rfl) (opn_string Try.underlying9) (opnF_cons rfl rfl (by kernel_rfl) (opn_string Try.underlying9) (opnF_cons rfl rfl (by kernel_rfl) (opn_int Try.underlying2) (opnF_one rfl rfl (by kernel_rfl) (opn_int Try.underlying2)))))) (fun x : S117 => (x.f0, x.f1, x.f2, x.f3, x.f4)) (fun x => ⟨x.1, x.2.1, x.2.2.1, x.2.2.2.1, x.2.2.2.2⟩) (fun _ => rfl) : Opn Try.prog 117 k117 _)) (opnF_one rfl rfl (by kernel_rfl) (opn_slice Try.underlying33 (by kernel_rfl) (opn_struct (d := (Kd.pair (Kd.int .i64) (Kd.pair Kd.string (Kd.pair Kd.string (Kd.pair (Kd.int .i64) (Kd.int .i64)))))) Try.underlying117 (by kernel_rfl) (opnF_cons rfl rfl (by kernel_rfl) (opn_int Try.underlying2) (opnF_cons rfl rfl (by kernel_rfl) (opn_string Try.underlying9) (opnF_cons rfl rfl (by kernel_rfl) (opn_string Try.underlying9) (opnF_cons rfl rfl (by kernel_rfl) (opn_int Try.underlying2) (opnF_one rfl rfl (by kernel_rfl) (opn_int Try.underlying2)))))) (fun x : S117 => (x.f0, x.f1, x.f2, x.f3, x.f4)) (fun x => ⟨x.1, x.2.1, x.2.2.1, x.2.2.2.1, x.2.2.2.2⟩) (fun _ => rfl) : Opn Try.prog 117 k117 _))))))))))) hf1
  replace hK1 : Kd.K (Kd.pair Kd.string (Kd.pair (Kd.int .i64) (Kd.pair (Kd.slice 9 Kd.string) (Kd.pair (Kd.slice 9 Kd.string) (Kd.pair (Kd.slice 115 k115) (Kd.pair (Kd.slice 117 k117) (Kd.pair (Kd.slice 117 k117) (Kd.slice 117 k117)))))))) W x1 cs1 := hK1
  obtain ⟨a1_0, ⟨a1_1, ⟨l1_2, ⟨l1_3, ⟨l1_4, ⟨l1_5, ⟨l1_6, l1_7⟩⟩⟩⟩⟩⟩⟩ := x1
  obtain ⟨_, _, rfl, rfl, ⟨_, _, rfl, rfl, ⟨_, _, rfl, ⟨A1_2, c1_2, rfl, hc1_2, hC1_2⟩, ⟨_, _, rfl, ⟨A1_3, c1_3, rfl, hc1_3, hC1_3⟩, ⟨_, _, rfl, ⟨A1_4, c1_4, rfl, hc1_4, hC1_4⟩, ⟨_, _, rfl, ⟨A1_5, c1_5, rfl, hc1_5, hC1_5⟩, ⟨_, _, rfl, ⟨A1_6, c1_6, rfl, hc1_6, hC1_6⟩, ⟨A1_7, c1_7, rfl, hc1_7, hC1_7⟩⟩⟩⟩⟩⟩⟩⟩ := hK1
  obtain ⟨w1_0, ⟨w1_1, ⟨w1_2, ⟨w1_3, ⟨w1_4, ⟨w1_5, ⟨w1_6, w1_7⟩⟩⟩⟩⟩⟩⟩ := hF1
  clear hA0 hval0 hsz0 hsz
  obtain ⟨k, h⟩ := Pure.FnExactProductSame a0_0 a0_1 l0_2 l0_3 l0_4 l0_5 l0_6 l0_7 a1_0 a1_1 l1_2 l1_3 l1_4 l1_5 l1_6 l1_7 w0_0 w0_1 w0_2 w0_3 w0_4 w0_5 w0_6 w0_7 w1_0 w1_1 w1_2 w1_3 w1_4 w1_5 w1_6 w1_7
  show Calls Try.prog 5 #[.agg #[.string a0_0, .int .i64 a0_1, .slice A0_2 l0_2.length c0_2, .slice A0_3 l0_3.length c0_3, .slice A0_4 l0_4.length c0_4, .slice A0_5 l0_5.length c0_5, .slice A0_6 l0_6.length c0_6, .slice A0_7 l0_7.length c0_7], .agg #[.string a1_0, .int .i64 a1_1, .slice A1_2 l1_2.length c1_2, .slice A1_3 l1_3.length c1_3, .slice A1_4 l1_4.length c1_4, .slice A1_5 l1_5.length c1_5, .slice A1_6 l1_6.length c1_6, .slice A1_7 l1_7.length c1_7]] W _
  refine (laws_FnExactProductSame.calls k a0_0 a0_1 A0_2 c0_2 l0_2 A0_3 c0_3 l0_3 A0_4 c0_4 l0_4 A0_5 c0_5 l0_5 A0_6 c0_6 l0_6 A0_7 c0_7 l0_7 a1_0 a1_1 A1_2 c1_2 l1_2 A1_3 c1_3 l1_3 A1_4 c1_4 l1_4 A1_5 c1_5 l1_5 A1_6 c1_6 l1_6 A1_7 c1_7 l1_7 true W hC0_2 hc0_2 hC0_3 hc0_3 hC0_4 hc0_4 hC0_5 hc0_5 hC0_6 hc0_6 hC0_7 hc0_7 hC1_2 hc1_2 hC1_3 hc1_3 hC1_4 hc1_4 hC1_5 hc1_5 hC1_6 hc1_6 hC1_7 hc1_7 h).mono ?_
  rintro e W' ⟨rfl, bel0⟩
  have bel : Below W.heap.size W W' := bel0
  exact ⟨_, rfl, _, _, _, [], _, [], hW', trodAll_mk1 (shut_bool Try.underlying4 _), (trodAll_cons_mk (Below.trod laidOut (by kernel_rfl) (of_decide_eq_true (by kernel_rfl)) k0 bel lt0) (trodAll_cons_mk (Below.trod laidOut (by kernel_rfl) (of_decide_eq_true (by kernel_rfl)) k1 bel lt1) trodAll_mk0)), rfl, bel.frame _, fun h => by cases h⟩
theorem over : Rows.fnExactProductSameRow.holds Try.pinned (OpenSpec.ofChange Rows.fnExactProductSameSpec) :=
  OpenClaim.holds_of_wide 5 Try.f5 rfl rfl rfl rfl rfl rfl rfl ⟨rfl, rfl, rfl, rfl, rfl⟩ rfl rfl rfl rfl rfl (by kernel_rfl) Try.func5 (by kernel_rfl)
    (of_decide_eq_true (by kernel_rfl)) (by unfold Func.isWrapper; first | (rw [if_pos (by decide +kernel)]; kernel_rfl) | (rw [if_neg (by decide +kernel)]; exact ⟨rfl, rfl⟩))
    (fun os started H enc _ => lifted os started H enc)
theorem proved : Rows.FnExactProductSameSaid := over
#print axioms proved
end Go.Proofs.Ytpblcdafmpfemaa.fnExactProductSame
namespace Go.Proofs.Ytpblcdafmpfemaa
/-- The row, under a short name, for the claim. -/
theorem fnExactProductSame_holds : Rows.FnExactProductSameSaid := fnExactProductSame.proved
end Go.Proofs.Ytpblcdafmpfemaa
