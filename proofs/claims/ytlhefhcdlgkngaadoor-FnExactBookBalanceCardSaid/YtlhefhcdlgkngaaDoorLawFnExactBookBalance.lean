-- laid by seedprint.py, a program of this session, over contracts that it gives by hand; Lean checks it
import Derived.Test.YtlhefhcdlgkngaaDoorCards
import Derived.Test.YtlhefhcdlgkngaaDoorTie
import Derived.Test.YtlhefhcdlgkngaaDoorRows
import Derived.Test.YtlhefhcdlgkngaaDoorPFnExactBookBalancex10
import Derived.Test.YtlhefhcdlgkngaaDoorPureFnExactBookBalance
import Derived.Test.YtlhefhcdlgkngaaDoorQOpen
import Derived.WalkKit
import Derived.ProofKit
import Derived.OpenShut
import Derived.ShutString
import Derived.ChangeOld
import Derived.Below
import Derived.SizedLaws
import Derived.Lay
import Derived.LaidLaws
import Derived.LaidOnce
import Derived.SevenTiedAt
import Derived.MakeChecks
import Derived.Test.YtlhefhcdlgkngaaDoorLfFnExactBookBalance
namespace Go.Proofs.YtlhefhcdlgkngaaDoor.fnExactBookBalance
open Go.ChangeShapes Go.WideShapes Go.ChangeAt Go.RowKit
open Go.ChangeMaps (open_string shut_string)
open Go.Proofs.YtlhefhcdlgkngaaDoorW.PrintWords Go.Proofs.YtlhefhcdlgkngaaDoorW.PrintLast Go.Proofs.YtlhefhcdlgkngaaDoorW.PrintMore
open Go.Proofs.YtlhefhcdlgkngaaDoor.Q Go.Proofs.YtlhefhcdlgkngaaDoor.PFnExactBookBalance
set_option linter.unusedVariables false
set_option linter.unusedSimpArgs false
theorem own : ownKnob Tryd.prog.godebug = none := by kernel_rfl
theorem laidOut : laidOutB Tryd.prog = true := by kernel_rfl
set_option maxRecDepth 100000 in
set_option maxHeartbeats 4000000 in
theorem lifted (os : Os) (started : os.Started) (H : Type) (enc : TypeId × Value → H) :
    ReturnsInHanded {} Tryd.checked os 4 .any (fun w args => (Rows.fnExactBookBalanceSpec.pre enc Tryd.prog Tryd.f4 Rows.fnExactBookBalanceRow.domain false w args ∧ laidMetH Tryd.prog Rows.fnExactBookBalanceRow.laid w) ∧ sizedMet enc Tryd.prog Tryd.f4 (OpenSpec.ofChange Rows.fnExactBookBalanceSpec) false w args) (Rows.fnExactBookBalanceSpec.post enc Tryd.prog Tryd.f4 false true false false) := by
  refine returnsInHanded_of_change_and (C := Tryd.checked) (X := fun w _ => laidMetH Tryd.prog Rows.fnExactBookBalanceRow.laid w) (fun _ _ _ hh h => h.of_heap hh) own started (by kernel_rfl) Tryd.func4
    (ChangeSpec.witness_shaped (enc := enc) (C := Tryd.checked) (os := os) (X := fun w _ => laidMetH Tryd.prog Rows.fnExactBookBalanceRow.laid w) false (World.laidAll Tryd.prog os Rows.fnExactBookBalanceRow.laid) #[.agg #[.slice none 0 0, .slice none 0 0], .agg #[.string ByteArray.empty, .string ByteArray.empty]] 8 (World.laidAll_os _ _ _)
      (World.shaped_of_ZipB (by kernel_rfl) (by kernel_rfl)) (by kernel_rfl) (by kernel_rfl) (by kernel_rfl)
      (by rw [MakeChecks.laidMetH_plain _ _ _ (by kernel_rfl)]; exact laidMet_laidAll _ (by kernel_rfl) (by kernel_rfl))) ?_
  intro W base args ds gs before hval0 hW hcnd hsz0 hL _
  have hsz : (DataW.weightsEach Tryd.prog (Tryd.f4.params.toList ++ Rows.fnExactBookBalanceSpec.plain.varTypes Tryd.prog) (ds ++ gs)).all (· ≤ reachBytes) = true := hsz0
  have hval : ∀ (j : Nat) t v, Tryd.f4.params[j]? = some t → args[j]? = some v → Value.okWide Tryd.prog W .any base t v := hval0
  have hW' := hW
  obtain ⟨p, q, hA0, hV, rfl, hfz, hnd⟩ := hW
  have hA : DataW.TrodAll enc Tryd.prog W 0 (fun _ => true) true Tryd.f4.params.toList args.toList ds p := hA0
  rw [Tryd.params4] at hA hval hsz
  obtain ⟨v0, vs0, d0, ds0, p0, q0, hargs, rfl, rfl, h0, r0⟩ := trodAll_cons hA
  obtain ⟨v1, vs1, d1, ds1, p1, q1, rfl, rfl, rfl, h1, r1⟩ := trodAll_cons r0
  obtain ⟨rfl, rfl, rfl⟩ := trodAll_nil r1
  obtain rfl : args = #[v0, v1] := by cases args; simp_all
  obtain ⟨rfl, rfl⟩ := trodVars_none hV
  obtain ⟨cs0, rfl, _⟩ := okWide_struct Tryd.underlying33 (hval 0 33 v0 rfl rfl)
  obtain ⟨cs0⟩ := cs0
  have k0 := h0
  have lt0 : ∀ x ∈ p0, x.block < W.heap.size := by obtain ⟨m, hm⟩ := k0; exact DataW.trod_lt m _ _ _ hm
  obtain ⟨fuel0, hf0⟩ := h0
  have on_35 : Opn Tryd.prog 35 k35 _ := (opn_struct (d := (Kd.pair Kd.string Kd.string)) Tryd.underlying35 (by kernel_rfl) (opnF_cons rfl rfl (by kernel_rfl) (opn_string Tryd.underlying9) (opnF_one rfl rfl (by kernel_rfl) (opn_string Tryd.underlying9))) (fun x : S35 => (x.f0, x.f1)) (fun x => ⟨x.1, x.2⟩) (fun _ => rfl))
  have on_85 : Opn Tryd.prog 85 k85 _ := (opn_struct (d := (Kd.pair k35 (Kd.int .i64))) Tryd.underlying85 (by kernel_rfl) (opnF_cons (t := 35) (by rfl) (by rfl) (by kernel_rfl) on_35 (opnF_one rfl rfl (by kernel_rfl) (opn_int Tryd.underlying2))) (fun x : S85 => (x.f0, x.f1)) (fun x => ⟨x.1, x.2⟩) (fun _ => rfl))
  obtain ⟨x0, hK0, hF0⟩ := (opn_flat (d := (Kd.pair (Kd.slice 85 k85) (Kd.slice 9 Kd.string))) Tryd.underlying33 (by kernel_rfl) (opnF_cons rfl rfl (by kernel_rfl) (opn_slice Tryd.underlying30 (by kernel_rfl) on_85) (opnF_one rfl rfl (by kernel_rfl) (opn_slice Tryd.underlying31 (by kernel_rfl) (opn_string Tryd.underlying9))))) hf0
  replace hK0 : Kd.K (Kd.pair (Kd.slice 85 k85) (Kd.slice 9 Kd.string)) W x0 cs0 := hK0
  obtain ⟨l0_0, l0_1⟩ := x0
  obtain ⟨_, _, rfl, ⟨A0_0, c0_0, rfl, hc0_0, hC0_0⟩, ⟨A0_1, c0_1, rfl, hc0_1, hC0_1⟩⟩ := hK0
  obtain ⟨w0_0, w0_1⟩ := hF0
  obtain ⟨cs1, rfl, _⟩ := okWide_struct Tryd.underlying35 (hval 1 35 v1 rfl rfl)
  obtain ⟨cs1⟩ := cs1
  have k1 := h1
  have lt1 : ∀ x ∈ p1, x.block < W.heap.size := by obtain ⟨m, hm⟩ := k1; exact DataW.trod_lt m _ _ _ hm
  obtain ⟨fuel1, hf1⟩ := h1
  obtain ⟨x1, hK1, hF1⟩ := (opn_flat (d := (Kd.pair Kd.string Kd.string)) Tryd.underlying35 (by kernel_rfl) (opnF_cons rfl rfl (by kernel_rfl) (opn_string Tryd.underlying9) (opnF_one rfl rfl (by kernel_rfl) (opn_string Tryd.underlying9)))) hf1
  replace hK1 : Kd.K (Kd.pair Kd.string Kd.string) W x1 cs1 := hK1
  obtain ⟨a1_0, a1_1⟩ := x1
  obtain ⟨_, _, rfl, rfl, rfl⟩ := hK1
  obtain ⟨w1_0, w1_1⟩ := hF1
  clear hA0 hval0 hsz0 hsz
  obtain ⟨k, h⟩ := Pure.FnExactBookBalance l0_0 l0_1 a1_0 a1_1 w0_0 w0_1 w1_0 w1_1
  show Calls Tryd.prog 4 #[.agg #[.slice A0_0 l0_0.length c0_0, .slice A0_1 l0_1.length c0_1], .agg #[.string a1_0, .string a1_1]] W _
  refine (laws_FnExactBookBalance.calls k A0_0 c0_0 l0_0 A0_1 c0_1 l0_1 a1_0 a1_1 true W hC0_0 hc0_0 hC0_1 hc0_1 h).mono ?_
  rintro e W' ⟨rfl, bel0⟩
  have bel : Below W.heap.size W W' := bel0
  exact ⟨_, rfl, _, _, _, [], _, [], hW', trodAll_mk1 (shut_bool Tryd.underlying4 _), (trodAll_cons_mk (Below.trod laidOut (by kernel_rfl) (of_decide_eq_true (by kernel_rfl)) k0 bel lt0) (trodAll_cons_mk (Below.trod laidOut (by kernel_rfl) (of_decide_eq_true (by kernel_rfl)) k1 bel lt1) trodAll_mk0)), rfl, bel.frame _, fun h => by cases h⟩
theorem over : Rows.fnExactBookBalanceRow.holds Tryd.pinned (OpenSpec.ofChange Rows.fnExactBookBalanceSpec) :=
  OpenClaim.holds_of_wide 4 Tryd.f4 rfl rfl rfl rfl rfl rfl rfl ⟨rfl, rfl, rfl, rfl, rfl⟩ rfl rfl rfl rfl rfl (by kernel_rfl) Tryd.func4 closed
    (of_decide_eq_true (by kernel_rfl)) (by unfold Func.isWrapper; first | (rw [if_pos (by decide +kernel)]; kernel_rfl) | (rw [if_neg (by decide +kernel)]; exact ⟨rfl, rfl⟩))
    (fun os started H enc _ => lifted os started H enc)
theorem p_wf : Rows.fnExactBookBalanceRow.wfByText (OpenSpec.ofChange Rows.fnExactBookBalanceSpec) = true := by kernel_rfl
theorem p_main : Tryd.pinned.checked.prog.mainIs = some ((true, "f1137cd2a09afead2211b5acc2386d1be01c00eddb4371b6ac9d09beba1895dc").1, (true, "f1137cd2a09afead2211b5acc2386d1be01c00eddb4371b6ac9d09beba1895dc").2.toList) := by kernel_rfl
theorem p_fn : Tryd.prog.funcNamed "loop.example/g00221/laws.FnExactBookBalance" = some 4 := by kernel_rfl
theorem p_looks : false = Tryd.pinned.checked.prog.looks [] := by kernel_rfl
theorem p_all : ([33, 35].all fun u => !Tryd.prog.wantsStandIn u) = true := by kernel_rfl
theorem p_goes : false = Rows.fnExactBookBalanceRow.goesBy Tryd.pinned.checked.prog := by kernel_rfl
theorem proved : Rows.FnExactBookBalanceCardSaid :=
  Claim7.holds_tied_plain_at .later [] [.data, .pinned] true (true, "f1137cd2a09afead2211b5acc2386d1be01c00eddb4371b6ac9d09beba1895dc") false over (fun _ h => by cases h) p_wf (fun _ h => by cases h) fnExactBookBalance_row_tie rfl ⟨rfl, rfl⟩ p_main rfl
    (fun f fn hf hfn => by
      obtain rfl : f = 4 := Option.some.inj (p_fn.symm.trans hf) |>.symm
      obtain rfl : fn = Tryd.f4 := (Option.some.inj (Tryd.func4.symm.trans hfn)).symm
      exact ⟨p_looks, fun j t ht => by
        rw [Tryd.params4] at ht
        have hm : t ∈ [33, 35] := by simpa using Array.mem_of_getElem? ht
        have hall := p_all
        exact (show Tryd.prog.wantsStandIn t = false by simpa using List.all_eq_true.1 hall t hm)⟩)
    p_goes
#print axioms proved
end Go.Proofs.YtlhefhcdlgkngaaDoor.fnExactBookBalance
namespace Go.Proofs.YtlhefhcdlgkngaaDoor
/-- The row, under a short name, for the claim. -/
theorem fnExactBookBalance_holds : Rows.FnExactBookBalanceCardSaid := fnExactBookBalance.proved
end Go.Proofs.YtlhefhcdlgkngaaDoor
