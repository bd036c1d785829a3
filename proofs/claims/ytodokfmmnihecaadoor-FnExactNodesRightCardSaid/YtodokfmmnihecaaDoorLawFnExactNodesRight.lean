-- laid by seedprint.py, a program of this session, over contracts that it gives by hand; Lean checks it
import Derived.Test.YtodokfmmnihecaaDoorCards
import Derived.Test.YtodokfmmnihecaaDoorTie
import Derived.Test.YtodokfmmnihecaaDoorRows
import Derived.Test.YtodokfmmnihecaaDoorPFnExactNodesRightx10
import Derived.Test.YtodokfmmnihecaaDoorPureFnExactNodesRight
import Derived.Test.YtodokfmmnihecaaDoorQOpen
import Derived.Test.YtodokfmmnihecaaDoorQCard
import Derived.WalkKit
import Derived.ProofKit
import Derived.OpenShut
import Derived.ShutString
import Derived.ChangeOld
import Derived.Below
import Derived.SizedLaws
import Derived.HandedShaped
import Derived.Lay
import Derived.LaidLaws
import Derived.LaidOnce
import Derived.SevenTiedAt
import Derived.MakeChecks
namespace Go.Proofs.YtodokfmmnihecaaDoor.fnExactNodesRight
open Go.ChangeShapes Go.WideShapes Go.ChangeAt Go.RowKit
open Go.ChangeMaps (open_string shut_string)
open Go.Proofs.YtodokfmmnihecaaDoorW.PrintWords Go.Proofs.YtodokfmmnihecaaDoorW.PrintLast Go.Proofs.YtodokfmmnihecaaDoorW.PrintMore
open Go.Proofs.YtodokfmmnihecaaDoor.Q Go.Proofs.YtodokfmmnihecaaDoor.PFnExactNodesRight
set_option linter.unusedVariables false
set_option linter.unusedSimpArgs false
theorem own : ownKnob Tryd.prog.godebug = none := by kernel_rfl
theorem laidOut : laidOutB Tryd.prog = true := by kernel_rfl
set_option maxRecDepth 100000 in
set_option maxHeartbeats 4000000 in
theorem lifted (os : Os) (started : os.Started) (H : Type) (enc : TypeId × Value → H) :
    ReturnsInHanded {} Tryd.checked os 3 .any (fun w args => (Rows.fnExactNodesRightSpec.pre enc Tryd.prog Tryd.f3 Rows.fnExactNodesRightRow.domain false w args ∧ laidMetH Tryd.prog Rows.fnExactNodesRightRow.laid w) ∧ sizedMet enc Tryd.prog Tryd.f3 (OpenSpec.ofChange Rows.fnExactNodesRightSpec) false w args) (Rows.fnExactNodesRightSpec.post enc Tryd.prog Tryd.f3 false true false false) := by
  refine card_lift_shaped (C := Tryd.checked) (X := fun w _ => laidMetH Tryd.prog Rows.fnExactNodesRightRow.laid w) (fun _ _ _ hh h => h.of_heap hh) own started (by kernel_rfl) Tryd.func3
    (ChangeSpec.witness_shaped (enc := enc) (C := Tryd.checked) (os := os) (X := fun w _ => laidMetH Tryd.prog Rows.fnExactNodesRightRow.laid w) false (World.laidAll Tryd.prog os Rows.fnExactNodesRightRow.laid) #[.slice none 0 0] 8 (World.laidAll_os _ _ _)
      (World.shaped_of_ZipB (by kernel_rfl) (by kernel_rfl)) (by kernel_rfl) (by kernel_rfl) (by kernel_rfl)
      (by rw [MakeChecks.laidMetH_plain _ _ _ (by kernel_rfl)]; exact laidMet_laidAll _ (by kernel_rfl) (by kernel_rfl))) ?_
  intro W base args ds gs before hval0 hW hcnd hsz0 hL hshp _
  have hsz : (DataW.weightsEach Tryd.prog (Tryd.f3.params.toList ++ Rows.fnExactNodesRightSpec.plain.varTypes Tryd.prog) (ds ++ gs)).all (· ≤ reachBytes) = true := hsz0
  have hval : ∀ (j : Nat) t v, Tryd.f3.params[j]? = some t → args[j]? = some v → Value.okWide Tryd.prog W .any base t v := hval0
  have hW' := hW
  obtain ⟨p, q, hA0, hV, rfl, hfz, hnd⟩ := hW
  have hA : DataW.TrodAll enc Tryd.prog W 0 (fun _ => true) true Tryd.f3.params.toList args.toList ds p := hA0
  rw [Tryd.params3] at hA hval hsz
  obtain ⟨v0, vs0, d0, ds0, p0, q0, hargs, rfl, rfl, h0, r0⟩ := trodAll_cons hA
  obtain ⟨rfl, rfl, rfl⟩ := trodAll_nil r0
  obtain rfl : args = #[v0] := by cases args; simp_all
  obtain ⟨rfl, rfl⟩ := trodVars_none hV
  obtain ⟨a0, len0, cap0, rfl⟩ := okWide_slice Tryd.underlying22 (hval 0 22 v0 rfl rfl)
  have k0 := h0
  have lt0 : ∀ x ∈ p0, x.block < W.heap.size := by obtain ⟨m, hm⟩ := k0; exact DataW.trod_lt m _ _ _ hm
  obtain ⟨fuel0, hf0⟩ := h0
  obtain ⟨x0, hK0, hF0⟩ := (opn_slice Tryd.underlying22 (by kernel_rfl) (opn_struct (d := (Kd.pair (Kd.int .i64) (Kd.pair Kd.string (Kd.pair Kd.string (Kd.pair (Kd.int .i64) (Kd.int .i64)))))) Tryd.underlying31 (by kernel_rfl) (opnF_cons rfl rfl (by kernel_rfl) (opn_int Tryd.underlying2) (opnF_cons rfl rfl (by kernel_rfl) (opn_string Tryd.underlying9) (opnF_cons rfl rfl (by kernel_rfl) (opn_string Tryd.underlying9) (opnF_cons rfl rfl (by kernel_rfl) (opn_int Tryd.underlying2) (opnF_one rfl rfl (by kernel_rfl) (opn_int Tryd.underlying2)))))) (fun x : S31 => (x.f0, x.f1, x.f2, x.f3, x.f4)) (fun x => ⟨x.1, x.2.1, x.2.2.1, x.2.2.2.1, x.2.2.2.2⟩) (fun _ => rfl) : Opn Tryd.prog 31 k31 _)) hf0
  replace hK0 : Kd.K (Kd.slice 31 k31) W x0 [.slice a0 len0 cap0] := hK0
  obtain ⟨A0, c0, hcs0, hc0, hC0⟩ := hK0
  simp only [List.cons.injEq, Value.slice.injEq, and_true] at hcs0
  obtain ⟨rfl, rfl, rfl⟩ := hcs0
  rw [MakeChecks.laidMetH_plain _ _ _ (by kernel_rfl)] at hL
  clear hA0 hval0 hsz0 hsz
  obtain ⟨k, h⟩ := Pure.FnExactNodesRight x0 hF0
  show Calls Tryd.prog 3 #[.slice a0 x0.length cap0] W _
  refine (laws_FnExactNodesRight.calls k _ _ x0 true W hC0 hc0 (Sh.of hshp) h).mono ?_
  rintro e W' ⟨rfl, bel0⟩
  have bel : Below W.heap.size W W' := bel0
  exact ⟨_, rfl, _, _, _, [], _, [], hW', trodAll_mk1 (shut_bool Tryd.underlying4 _), (trodAll_cons_mk (Below.trod laidOut (by kernel_rfl) (of_decide_eq_true (by kernel_rfl)) k0 bel lt0) trodAll_mk0), rfl, bel.frame _, fun h => by cases h⟩
theorem over : Rows.fnExactNodesRightRow.holds Tryd.pinned (OpenSpec.ofChange Rows.fnExactNodesRightSpec) :=
  OpenClaim.holds_of_wide 3 Tryd.f3 rfl rfl rfl rfl rfl rfl rfl ⟨rfl, rfl, rfl, rfl, rfl⟩ rfl rfl rfl rfl rfl (by kernel_rfl) Tryd.func3 (by kernel_rfl)
    (of_decide_eq_true (by kernel_rfl)) (by unfold Func.isWrapper; first | (rw [if_pos (by decide +kernel)]; kernel_rfl) | (rw [if_neg (by decide +kernel)]; exact ⟨rfl, rfl⟩))
    (fun os started H enc _ => lifted os started H enc)
theorem proved : Rows.FnExactNodesRightCardSaid :=
  Claim7.holds_tied_plain_at .later [] [.data, .pinned] true (true, "49205bbc75acedce105c8f5d2e1c3e42ca37e817e66d52bdf61ada56ce234116") false over (fun _ h => by cases h) (by kernel_rfl) (fun _ h => by cases h) fnExactNodesRight_row_tie rfl ⟨rfl, rfl⟩ (by kernel_rfl) rfl
    (fun f fn hf hfn => by
      obtain rfl : f = 3 := Option.some.inj ((show Tryd.prog.funcNamed "loop.example/g00221/laws.FnExactNodesRight" = some 3 by kernel_rfl).symm.trans hf) |>.symm
      obtain rfl : fn = Tryd.f3 := (Option.some.inj (Tryd.func3.symm.trans hfn)).symm
      exact ⟨by kernel_rfl, fun j t ht => by
        rw [Tryd.params3] at ht
        have hm : t ∈ [22] := by simpa using Array.mem_of_getElem? ht
        have hall : ([22].all fun u => !Tryd.prog.wantsStandIn u) = true := by kernel_rfl
        exact (show Tryd.prog.wantsStandIn t = false by simpa using List.all_eq_true.1 hall t hm)⟩)
    (by kernel_rfl)
#print axioms proved
end Go.Proofs.YtodokfmmnihecaaDoor.fnExactNodesRight
namespace Go.Proofs.YtodokfmmnihecaaDoor
/-- The row, under a short name, for the claim. -/
theorem fnExactNodesRight_holds : Rows.FnExactNodesRightCardSaid := fnExactNodesRight.proved
end Go.Proofs.YtodokfmmnihecaaDoor
