-- laid by seedprint.py, a program of this session, over contracts that it gives by hand; Lean checks it
import Derived.Test.YtpblcdafmpfemaaRows
import Derived.Test.YtpblcdafmpfemaaPFnExactVmEnvRightx14
import Derived.Test.YtpblcdafmpfemaaPureFnExactVmEnvRight
import Derived.Test.YtpblcdafmpfemaaQOpen
import Derived.WalkKit
import Derived.ProofKit
import Derived.OpenShut
import Derived.ShutString
import Derived.ChangeOld
import Derived.Below
import Derived.SizedLaws
namespace Go.Proofs.Ytpblcdafmpfemaa.fnExactVmEnvRight
open Go.ChangeShapes Go.WideShapes Go.ChangeAt Go.RowKit
open Go.ChangeMaps (open_string shut_string)
open Go.Proofs.YtpblcdafmpfemaaW.PrintWords Go.Proofs.YtpblcdafmpfemaaW.PrintLast Go.Proofs.YtpblcdafmpfemaaW.PrintMore
open Go.Proofs.Ytpblcdafmpfemaa.Q Go.Proofs.Ytpblcdafmpfemaa.PFnExactVmEnvRight
set_option linter.unusedVariables false
set_option linter.unusedSimpArgs false
theorem own : ownKnob Try.prog.godebug = none := by kernel_rfl
theorem laidOut : laidOutB Try.prog = true := by kernel_rfl
set_option maxRecDepth 100000 in
set_option maxHeartbeats 4000000 in
theorem lifted (os : Os) (started : os.Started) (H : Type) (enc : TypeId × Value → H) :
    ReturnsInHanded {} Try.checked os 9 .any (Rows.fnExactVmEnvRightSpec.pre6 enc Try.prog Try.f9 Rows.fnExactVmEnvRightRow.domain false) (Rows.fnExactVmEnvRightSpec.post enc Try.prog Try.f9 false true false false) := by
  refine returnsInHanded_of_change_sized (C := Try.checked) own started (by kernel_rfl) Try.func9
    (ChangeSpec.witness6 (enc := enc) (C := Try.checked) false ⟨#[], #[.agg #[.int .i64 0, .int .i64 0, .int .i64 0, .int .i64 0, .slice none 0 0], .agg #[.slice none 0 0, .slice none 0 0, .int .i64 0, .int .i64 0, .int .i64 0, .int .i64 0, .int .i64 0]], []⟩ 8 (by kernel_rfl) (by kernel_rfl) (by kernel_rfl) (by kernel_rfl)) ?_
  intro W base args ds gs before hval0 hW hcnd hsz0 _
  have hsz : (DataW.weightsEach Try.prog (Try.f9.params.toList ++ Rows.fnExactVmEnvRightSpec.plain.varTypes Try.prog) (ds ++ gs)).all (· ≤ reachBytes) = true := hsz0
  have hval : ∀ (j : Nat) t v, Try.f9.params[j]? = some t → args[j]? = some v → Value.okWide Try.prog W .any base t v := hval0
  have hW' := hW
  obtain ⟨p, q, hA0, hV, rfl, hfz, hnd⟩ := hW
  have hA : DataW.TrodAll enc Try.prog W 0 (fun _ => true) true Try.f9.params.toList args.toList ds p := hA0
  rw [Try.params9] at hA hval hsz
  obtain ⟨v0, vs0, d0, ds0, p0, q0, hargs, rfl, rfl, h0, r0⟩ := trodAll_cons hA
  obtain ⟨v1, vs1, d1, ds1, p1, q1, rfl, rfl, rfl, h1, r1⟩ := trodAll_cons r0
  obtain ⟨rfl, rfl, rfl⟩ := trodAll_nil r1
  obtain rfl : args = #[v0, v1] := by cases args; simp_all
  obtain ⟨rfl, rfl⟩ := trodVars_none hV
  obtain ⟨cs0, rfl, _⟩ := okWide_struct Try.underlying46 (hval 0 46 v0 rfl rfl)
  obtain ⟨cs0⟩ := cs0
  have k0 := h0
  have lt0 : ∀ x ∈ p0, x.block < W.heap.size := by obtain ⟨m, hm⟩ := k0; exact DataW.trod_lt m _ _ _ hm
  obtain ⟨fuel0, hf0⟩ := h0
  obtain ⟨x0, hK0, hF0⟩ := (opn_flat (d := (Kd.pair (Kd.int .i64) (Kd.pair (Kd.int .i64) (Kd.pair (Kd.int .i64) (Kd.pair (Kd.int .i64) (Kd.slice 126 k126)))))) Try.underlying46 (by kernel_rfl) (opnF_cons rfl rfl (by kernel_rfl) (opn_int Try.underlying2) (opnF_cons rfl rfl (by kernel_rfl) (opn_int Try.underlying2) (opnF_cons rfl rfl (by kernel_rfl) (opn_int Try.underlying2) (opnF_cons rfl rfl (by kernel_rfl) (opn_int Try.underlying2) (opnF_one rfl rfl (by kernel_rfl) (opn_slice Try.underlying44 (by kernel_rfl) (opn_struct (d := (Kd.pair (Kd.int .i64) (Kd.pair (Kd.int .i64) (Kd.int .i64)))) Try.underlying126 (by kernel_rfl) (opnF_cons rfl rfl (by kernel_rfl) (opn_int Try.underlying2) (opnF_cons rfl rfl (by kernel_rfl) (opn_int Try.underlying2) (opnF_one rfl rfl (by kernel_rfl) (opn_int Try.underlying2)))) (fun x : S126 => (x.f0, x.f1, x.f2)) (fun x => ⟨x.1, x.2.1, x.2.2⟩) (fun _ => rfl) : Opn Try.prog 126 k126 _)))))))) hf0
  replace hK0 : Kd.K (Kd.pair (Kd.int .i64) (Kd.pair (Kd.int .i64) (Kd.pair (Kd.int .i64) (Kd.pair (Kd.int .i64) (Kd.slice 126 k126))))) W x0 cs0 := hK0
  obtain ⟨a0_0, ⟨a0_1, ⟨a0_2, ⟨a0_3, l0_4⟩⟩⟩⟩ := x0
  obtain ⟨_, _, rfl, rfl, ⟨_, _, rfl, rfl, ⟨_, _, rfl, rfl, ⟨_, _, rfl, rfl, ⟨A0_4, c0_4, rfl, hc0_4, hC0_4⟩⟩⟩⟩⟩ := hK0
  obtain ⟨w0_0, ⟨w0_1, ⟨w0_2, ⟨w0_3, w0_4⟩⟩⟩⟩ := hF0
  obtain ⟨cs1, rfl, _⟩ := okWide_struct Try.underlying62 (hval 1 62 v1 rfl rfl)
  obtain ⟨cs1⟩ := cs1
  have k1 := h1
  have lt1 : ∀ x ∈ p1, x.block < W.heap.size := by obtain ⟨m, hm⟩ := k1; exact DataW.trod_lt m _ _ _ hm
  obtain ⟨fuel1, hf1⟩ := h1
  obtain ⟨x1, hK1, hF1⟩ := (opn_flat (d := (Kd.pair (Kd.slice 2 (Kd.int .i64)) (Kd.pair (Kd.slice 2 (Kd.int .i64)) (Kd.pair (Kd.int .i64) (Kd.pair (Kd.int .i64) (Kd.pair (Kd.int .i64) (Kd.pair (Kd.int .i64) (Kd.int .i64)))))))) Try.underlying62 (by kernel_rfl) (opnF_cons rfl rfl (by kernel_rfl) (opn_slice Try.underlying56 (by kernel_rfl) (opn_int Try.underlying2)) (opnF_cons rfl rfl (by kernel_rfl) (opn_slice Try.underlying56 (by kernel_rfl) (opn_int Try.underlying2)) (opnF_cons rfl rfl (by kernel_rfl) (opn_int Try.underlying2) (opnF_cons rfl rfl (by kernel_rfl) (opn_int Try.underlying2) (opnF_cons rfl rfl (by kernel_rfl) (opn_int Try.underlying2) (opnF_cons rfl rfl (by kernel_rfl) (opn_int Try.underlying2) (opnF_one rfl rfl (by kernel_rfl) (opn_int Try.underlying2))))))))) hf1
  replace hK1 : Kd.K (Kd.pair (Kd.slice 2 (Kd.int .i64)) (Kd.pair (Kd.slice 2 (Kd.int .i64)) (Kd.pair (Kd.int .i64) (Kd.pair (Kd.int .i64) (Kd.pair (Kd.int .i64) (Kd.pair (Kd.int .i64) (Kd.int .i64))))))) W x1 cs1 := hK1
  obtain ⟨l1_0, ⟨l1_1, ⟨a1_2, ⟨a1_3, ⟨a1_4, ⟨a1_5, a1_6⟩⟩⟩⟩⟩⟩ := x1
  obtain ⟨_, _, rfl, ⟨A1_0, c1_0, rfl, hc1_0, hC1_0⟩, ⟨_, _, rfl, ⟨A1_1, c1_1, rfl, hc1_1, hC1_1⟩, ⟨_, _, rfl, rfl, ⟨_, _, rfl, rfl, ⟨_, _, rfl, rfl, ⟨_, _, rfl, rfl, rfl⟩⟩⟩⟩⟩⟩ := hK1
  obtain ⟨w1_0, ⟨w1_1, ⟨w1_2, ⟨w1_3, ⟨w1_4, ⟨w1_5, w1_6⟩⟩⟩⟩⟩⟩ := hF1
  clear hA0 hval0 hsz0 hsz
  obtain ⟨k, h⟩ := Pure.FnExactVmEnvRight a0_0 a0_1 a0_2 a0_3 l0_4 l1_0 l1_1 a1_2 a1_3 a1_4 a1_5 a1_6 w0_0 w0_1 w0_2 w0_3 w0_4 w1_0 w1_1 w1_2 w1_3 w1_4 w1_5 w1_6
  show Calls Try.prog 9 #[.agg #[.int .i64 a0_0, .int .i64 a0_1, .int .i64 a0_2, .int .i64 a0_3, .slice A0_4 l0_4.length c0_4], .agg #[.slice A1_0 l1_0.length c1_0, .slice A1_1 l1_1.length c1_1, .int .i64 a1_2, .int .i64 a1_3, .int .i64 a1_4, .int .i64 a1_5, .int .i64 a1_6]] W _
  refine (laws_FnExactVmEnvRight.calls k a0_0 a0_1 a0_2 a0_3 A0_4 c0_4 l0_4 A1_0 c1_0 l1_0 A1_1 c1_1 l1_1 a1_2 a1_3 a1_4 a1_5 a1_6 true W hC0_4 hc0_4 hC1_0 hc1_0 hC1_1 hc1_1 h).mono ?_
  rintro e W' ⟨rfl, bel0⟩
  have bel : Below W.heap.size W W' := bel0
  exact ⟨_, rfl, _, _, _, [], _, [], hW', trodAll_mk1 (shut_bool Try.underlying4 _), (trodAll_cons_mk (Below.trod laidOut (by kernel_rfl) (of_decide_eq_true (by kernel_rfl)) k0 bel lt0) (trodAll_cons_mk (Below.trod laidOut (by kernel_rfl) (of_decide_eq_true (by kernel_rfl)) k1 bel lt1) trodAll_mk0)), rfl, bel.frame _, fun h => by cases h⟩
theorem over : Rows.fnExactVmEnvRightRow.holds Try.pinned (OpenSpec.ofChange Rows.fnExactVmEnvRightSpec) :=
  OpenClaim.holds_of_wide 9 Try.f9 rfl rfl rfl rfl rfl rfl rfl ⟨rfl, rfl, rfl, rfl, rfl⟩ rfl rfl rfl rfl rfl (by kernel_rfl) Try.func9 (by kernel_rfl)
    (of_decide_eq_true (by kernel_rfl)) (by unfold Func.isWrapper; first | (rw [if_pos (by decide +kernel)]; kernel_rfl) | (rw [if_neg (by decide +kernel)]; exact ⟨rfl, rfl⟩))
    (fun os started H enc _ => lifted os started H enc)
theorem proved : Rows.FnExactVmEnvRightSaid := over
#print axioms proved
end Go.Proofs.Ytpblcdafmpfemaa.fnExactVmEnvRight
namespace Go.Proofs.Ytpblcdafmpfemaa
/-- The row, under a short name, for the claim. -/
theorem fnExactVmEnvRight_holds : Rows.FnExactVmEnvRightSaid := fnExactVmEnvRight.proved
end Go.Proofs.Ytpblcdafmpfemaa
