-- laid by seedprint.py, a program of this session, over contracts that it gives by hand; Lean checks it
import Derived.Test.YthpjnjplgmaofaaGreatDoorCards
import Derived.Test.YthpjnjplgmaofaaGreatDoorTie
import Derived.Test.YthpjnjplgmaofaaGreatDoorRows
import Derived.Test.YthpjnjplgmaofaaGreatDoorPFnExactVmNamedx5
import Derived.Test.YthpjnjplgmaofaaGreatDoorPureFnExactVmNamed
import Derived.Test.YthpjnjplgmaofaaGreatDoorQOpen
import Derived.WalkKit
import Derived.ProofKit
import Derived.OpenShut
import Derived.ShutString
import Derived.ChangeOld
import Derived.Below
import Derived.SizedLaws
import Derived.HandedShaped
import Derived.Lay
import Derived.LaidLaws
import Derived.LaidOnce
import Derived.SevenTiedAt
import Derived.MakeChecks
import Derived.Test.YthpjnjplgmaofaaGreatDoorLfFnExactVmNamed
namespace Go.Proofs.YthpjnjplgmaofaaGreatDoor.fnExactVmNamed
open Go.ChangeShapes Go.WideShapes Go.ChangeAt Go.RowKit
open Go.ChangeMaps (open_string shut_string)
open Go.Proofs.YthpjnjplgmaofaaGreatDoorW.PrintWords Go.Proofs.YthpjnjplgmaofaaGreatDoorW.PrintLast Go.Proofs.YthpjnjplgmaofaaGreatDoorW.PrintMore
open Go.Proofs.YthpjnjplgmaofaaGreatDoor.Q Go.Proofs.YthpjnjplgmaofaaGreatDoor.PFnExactVmNamed
set_option linter.unusedVariables false
set_option linter.unusedSimpArgs false
theorem own : ownKnob Tryz.prog.godebug = none := by kernel_rfl
theorem laidOut : laidOutB Tryz.prog = true := by kernel_rfl
set_option maxRecDepth 100000 in
set_option maxHeartbeats 4000000 in
theorem lifted (os : Os) (started : os.Started) (H : Type) (enc : TypeId × Value → H) :
    ReturnsInHanded {} Tryz.checked os 3 .any (fun w args => (Rows.fnExactVmNamedSpec.pre enc Tryz.prog Tryz.f3 Rows.fnExactVmNamedRow.domain false w args ∧ laidMetH Tryz.prog Rows.fnExactVmNamedRow.laid w) ∧ sizedMet enc Tryz.prog Tryz.f3 (OpenSpec.ofChange Rows.fnExactVmNamedSpec) false w args) (Rows.fnExactVmNamedSpec.post enc Tryz.prog Tryz.f3 false true false false) := by
  refine mM (C := Tryz.checked) (X := fun w _ => laidMetH Tryz.prog Rows.fnExactVmNamedRow.laid w) (fun _ _ _ hh h => h.of_heap hh) own started (by kernel_rfl) Tryz.func3
    (ChangeSpec.witness_shaped (enc := enc) (C := Tryz.checked) (os := os) (X := fun w _ => laidMetH Tryz.prog Rows.fnExactVmNamedRow.laid w) false (World.laidAll Tryz.prog os Rows.fnExactVmNamedRow.laid) #[.agg #[.string ByteArray.empty, .int .i64 0, .slice none 0 0, .slice none 0 0, .slice none 0 0, .slice none 0 0, .slice none 0 0, .slice none 0 0], .agg #[.slice none 0 0, .int .i64 0, .int .i64 0, .int .i64 0, .int .i64 0]] 8 (World.laidAll_os _ _ _)
      (World.shaped_of_ZipB (by kernel_rfl) (by kernel_rfl)) (by kernel_rfl) (by kernel_rfl) (by kernel_rfl)
      (by rw [MakeChecks.laidMetH_plain _ _ _ (by kernel_rfl)]; exact laidMet_laidAll _ (by kernel_rfl) (by kernel_rfl))) ?_
  intro W base args ds gs before hval0 hW hcnd hsz0 hL hshp _
  have hsz : (DataW.weightsEach Tryz.prog (Tryz.f3.params.toList ++ Rows.fnExactVmNamedSpec.plain.varTypes Tryz.prog) (ds ++ gs)).all (· ≤ reachBytes) = true := hsz0
  have hval : ∀ (j : Nat) t v, Tryz.f3.params[j]? = some t → args[j]? = some v → Value.okWide Tryz.prog W .any base t v := hval0
  have hW' := hW
  obtain ⟨p, q, hA0, hV, rfl, hfz, hnd⟩ := hW
  have hA : DataW.TrodAll enc Tryz.prog W 0 (fun _ => true) true Tryz.f3.params.toList args.toList ds p := hA0
  rw [Tryz.params3] at hA hval hsz
  obtain ⟨v0, vs0, d0, ds0, p0, q0, hargs, rfl, rfl, h0, r0⟩ := trodAll_cons hA
  obtain ⟨v1, vs1, d1, ds1, p1, q1, rfl, rfl, rfl, h1, r1⟩ := trodAll_cons r0
  obtain ⟨rfl, rfl, rfl⟩ := trodAll_nil r1
  obtain rfl : args = #[v0, v1] := by cases args; simp_all
  obtain ⟨rfl, rfl⟩ := trodVars_none hV
  obtain ⟨cs0, rfl, _⟩ := okWide_struct Tryz.underlying26 (hval 0 26 v0 rfl rfl)
  obtain ⟨cs0⟩ := cs0
  have k0 := h0
  have lt0 : ∀ x ∈ p0, x.block < W.heap.size := by obtain ⟨m, hm⟩ := k0; exact DataW.trod_lt m _ _ _ hm
  obtain ⟨fuel0, hf0⟩ := h0
  obtain ⟨x0, hK0, hF0⟩ := (qj (d := (Kd.pair Kd.string (Kd.pair (Kd.int .i64) (Kd.pair (Kd.slice 9 Kd.string) (Kd.pair (Kd.slice 9 Kd.string) (Kd.pair (Kd.slice 78 k78) (Kd.pair (Kd.slice 81 k81) (Kd.pair (Kd.slice 81 k81) (Kd.slice 81 k81))))))))) Tryz.underlying26 (by kernel_rfl) (dU rfl rfl (by kernel_rfl) (gM Tryz.underlying9) (dU rfl rfl (by kernel_rfl) (fT Tryz.underlying2) (dU rfl rfl (by kernel_rfl) (jh Tryz.underlying22 (by kernel_rfl) (gM Tryz.underlying9)) (dU rfl rfl (by kernel_rfl) (jh Tryz.underlying22 (by kernel_rfl) (gM Tryz.underlying9)) (dU rfl rfl (by kernel_rfl) (jh Tryz.underlying23 (by kernel_rfl) (jN (d := (Kd.pair Kd.string (Kd.pair (Kd.int .i64) (Kd.pair (Kd.int .i64) (Kd.int .i64))))) Tryz.underlying78 (by kernel_rfl) (dU rfl rfl (by kernel_rfl) (gM Tryz.underlying9) (dU rfl rfl (by kernel_rfl) (fT Tryz.underlying2) (dU rfl rfl (by kernel_rfl) (fT Tryz.underlying2) (jO rfl rfl (by kernel_rfl) (fT Tryz.underlying2))))) (fun x : S78 => (x.f0, x.f1, x.f2, x.f3)) (fun x => ⟨x.1, x.2.1, x.2.2.1, x.2.2.2⟩) (fun _ => rfl) : Opn Tryz.prog 78 k78 _)) (dU rfl rfl (by kernel_rfl) (jh Tryz.underlying24 (by kernel_rfl) (jN (d := (Kd.pair (Kd.int .i64) (Kd.pair Kd.string (Kd.pair Kd.string (Kd.pair (Kd.int .i64) (Kd.int .i64)))))) Tryz.underlying81 (by kernel_rfl) (dU rfl rfl (by kernel_rfl) (fT Tryz.underlying2) (dU rfl rfl (by kernel_rfl) (gM Tryz.underlying9) (dU rfl rfl (by kernel_rfl) (gM Tryz.underlying9) (dU rfl rfl (by kernel_rfl) (fT Tryz.underlying2) (jO rfl rfl (by kernel_rfl) (fT Tryz.underlying2)))))) (fun x : S81 => (x.f0, x.f1, x.f2, x.f3, x.f4)) (fun x => ⟨x.1, x.2.1, x.2.2.1, x.2.2.2.1, x.2.2.2.2⟩) (fun _ => rfl) : Opn Tryz.prog 81 k81 _)) (dU rfl rfl (by kernel_rfl) (jh Tryz.underlying24 (by kernel_rfl) (jN (d := (Kd.pair (Kd.int .i64) (Kd.pair Kd.string (Kd.pair Kd.string (Kd.pair (Kd.int .i64) (Kd.int .i64)))))) Tryz.underlying81 (by kernel_rfl) (dU rfl rfl (by kernel_rfl) (fT Tryz.underlying2) (dU rfl rfl (by kernel_rfl) (gM Tryz.underlying9) (dU rfl rfl (by kernel_rfl) (gM Tryz.underlying9) (dU rfl rfl (by kernel_rfl) (fT Tryz.underlying2) (jO rfl rfl (by kernel_rfl) (fT Tryz.underlying2)))))) (fun x : S81 => (x.f0, x.f1, x.f2, x.f3, x.f4)) (fun x => ⟨x.1, x.2.1, x.2.2.1, x.2.2.2.1, x.2.2.2.2⟩) (fun _ => rfl) : Opn Tryz.prog 81 k81 _)) (jO rfl rfl (by kernel_rfl) (jh Tryz.underlying24 (by kernel_rfl) (jN (d := (Kd.pair (Kd.int .i64) (Kd.pair Kd.string (Kd.pair Kd.string (Kd.pair (Kd.int .i64) (Kd.int .i64)))))) Tryz.underlying81 (by kernel_rfl) (dU rfl rfl (by kernel_rfl) (fT Tryz.underlying2) (dU rfl rfl (by kernel_rfl) (gM Tryz.underlying9) (dU rfl rfl (by kernel_rfl) (gM Tryz.underlying9) (dU rfl rfl (by kernel_rfl) (fT Tryz.underlying2) (jO rfl rfl (by kernel_rfl) (fT Tryz.underlying2)))))) (fun x : S81 => (x.f0, x.f1, x.f2, x.f3, x.f4)) (fun x => ⟨x.1, x.2.1, x.2.2.1, x.2.2.2.1, x.2.2.2.2⟩) (fun _ => rfl) : Opn Tryz.prog 81 k81 _))))))))))) hf0
  replace hK0 : Kd.K (Kd.pair Kd.string (Kd.pair (Kd.int .i64) (Kd.pair (Kd.slice 9 Kd.string) (Kd.pair (Kd.slice 9 Kd.string) (Kd.pair (Kd.slice 78 k78) (Kd.pair (Kd.slice 81 k81) (Kd.pair (Kd.slice 81 k81) (Kd.slice 81 k81)))))))) W x0 cs0 := hK0
  obtain ⟨a0_0, ⟨a0_1, ⟨l0_2, ⟨l0_3, ⟨l0_4, ⟨l0_5, ⟨l0_6, l0_7⟩⟩⟩⟩⟩⟩⟩ := x0
  obtain ⟨_, _, rfl, rfl, ⟨_, _, rfl, rfl, ⟨_, _, rfl, ⟨A0_2, c0_2, rfl, hc0_2, hC0_2⟩, ⟨_, _, rfl, ⟨A0_3, c0_3, rfl, hc0_3, hC0_3⟩, ⟨_, _, rfl, ⟨A0_4, c0_4, rfl, hc0_4, hC0_4⟩, ⟨_, _, rfl, ⟨A0_5, c0_5, rfl, hc0_5, hC0_5⟩, ⟨_, _, rfl, ⟨A0_6, c0_6, rfl, hc0_6, hC0_6⟩, ⟨A0_7, c0_7, rfl, hc0_7, hC0_7⟩⟩⟩⟩⟩⟩⟩⟩ := hK0
  obtain ⟨w0_0, ⟨w0_1, ⟨w0_2, ⟨w0_3, ⟨w0_4, ⟨w0_5, ⟨w0_6, w0_7⟩⟩⟩⟩⟩⟩⟩ := hF0
  obtain ⟨cs1, rfl, _⟩ := okWide_struct Tryz.underlying29 (hval 1 29 v1 rfl rfl)
  obtain ⟨cs1⟩ := cs1
  have k1 := h1
  have lt1 : ∀ x ∈ p1, x.block < W.heap.size := by obtain ⟨m, hm⟩ := k1; exact DataW.trod_lt m _ _ _ hm
  obtain ⟨fuel1, hf1⟩ := h1
  obtain ⟨x1, hK1, hF1⟩ := (qj (d := (Kd.pair (Kd.slice 91 k91) (Kd.pair (Kd.int .i64) (Kd.pair (Kd.int .i64) (Kd.pair (Kd.int .i64) (Kd.int .i64)))))) Tryz.underlying29 (by kernel_rfl) (dU rfl rfl (by kernel_rfl) (jh Tryz.underlying27 (by kernel_rfl) (jN (d := (Kd.pair (Kd.int .i64) (Kd.pair (Kd.int .i64) (Kd.int .i64)))) Tryz.underlying91 (by kernel_rfl) (dU rfl rfl (by kernel_rfl) (fT Tryz.underlying2) (dU rfl rfl (by kernel_rfl) (fT Tryz.underlying2) (jO rfl rfl (by kernel_rfl) (fT Tryz.underlying2)))) (fun x : S91 => (x.f0, x.f1, x.f2)) (fun x => ⟨x.1, x.2.1, x.2.2⟩) (fun _ => rfl) : Opn Tryz.prog 91 k91 _)) (dU rfl rfl (by kernel_rfl) (fT Tryz.underlying2) (dU rfl rfl (by kernel_rfl) (fT Tryz.underlying2) (dU rfl rfl (by kernel_rfl) (fT Tryz.underlying2) (jO rfl rfl (by kernel_rfl) (fT Tryz.underlying2))))))) hf1
  replace hK1 : Kd.K (Kd.pair (Kd.slice 91 k91) (Kd.pair (Kd.int .i64) (Kd.pair (Kd.int .i64) (Kd.pair (Kd.int .i64) (Kd.int .i64))))) W x1 cs1 := hK1
  obtain ⟨l1_0, ⟨a1_1, ⟨a1_2, ⟨a1_3, a1_4⟩⟩⟩⟩ := x1
  obtain ⟨_, _, rfl, ⟨A1_0, c1_0, rfl, hc1_0, hC1_0⟩, ⟨_, _, rfl, rfl, ⟨_, _, rfl, rfl, ⟨_, _, rfl, rfl, rfl⟩⟩⟩⟩ := hK1
  obtain ⟨w1_0, ⟨w1_1, ⟨w1_2, ⟨w1_3, w1_4⟩⟩⟩⟩ := hF1
  rw [MakeChecks.laidMetH_plain _ _ _ (by kernel_rfl)] at hL
  clear hA0 hval0 hsz0 hsz
  obtain ⟨k, h⟩ := Pure.FnExactVmNamed a0_0 a0_1 l0_2 l0_3 l0_4 l0_5 l0_6 l0_7 l1_0 a1_1 a1_2 a1_3 a1_4 w0_0 w0_1 w0_2 w0_3 w0_4 w0_5 w0_6 w0_7 w1_0 w1_1 w1_2 w1_3 w1_4
  show Calls Tryz.prog 3 #[.agg #[.string a0_0, .int .i64 a0_1, .slice A0_2 l0_2.length c0_2, .slice A0_3 l0_3.length c0_3, .slice A0_4 l0_4.length c0_4, .slice A0_5 l0_5.length c0_5, .slice A0_6 l0_6.length c0_6, .slice A0_7 l0_7.length c0_7], .agg #[.slice A1_0 l1_0.length c1_0, .int .i64 a1_1, .int .i64 a1_2, .int .i64 a1_3, .int .i64 a1_4]] W _
  refine (laws_FnExactVmNamed.calls k a0_0 a0_1 A0_2 c0_2 l0_2 A0_3 c0_3 l0_3 A0_4 c0_4 l0_4 A0_5 c0_5 l0_5 A0_6 c0_6 l0_6 A0_7 c0_7 l0_7 A1_0 c1_0 l1_0 a1_1 a1_2 a1_3 a1_4 true W hC0_2 hc0_2 hC0_3 hc0_3 hC0_4 hc0_4 hC0_5 hc0_5 hC0_6 hc0_6 hC0_7 hc0_7 hC1_0 hc1_0 (Sh.of hshp) h).mono ?_
  rintro e W' ⟨rfl, bel0⟩
  have bel : Below W.heap.size W W' := bel0
  exact ⟨_, rfl, _, _, _, [], _, [], hW', trodAll_mk1 (shut_bool Tryz.underlying4 _), (trodAll_cons_mk (Below.trod laidOut (by kernel_rfl) (of_decide_eq_true (by kernel_rfl)) k0 bel lt0) (trodAll_cons_mk (Below.trod laidOut (by kernel_rfl) (of_decide_eq_true (by kernel_rfl)) k1 bel lt1) trodAll_mk0)), rfl, bel.frame _, fun h => by cases h⟩
theorem over : Rows.fnExactVmNamedRow.holds Tryz.pinned (OpenSpec.ofChange Rows.fnExactVmNamedSpec) :=
  OpenClaim.holds_of_wide 3 Tryz.f3 rfl rfl rfl rfl rfl rfl rfl ⟨rfl, rfl, rfl, rfl, rfl⟩ rfl rfl rfl rfl rfl (by kernel_rfl) Tryz.func3 closed
    (of_decide_eq_true (by kernel_rfl)) (by unfold Func.isWrapper; first | (rw [if_pos (by decide +kernel)]; kernel_rfl) | (rw [if_neg (by decide +kernel)]; exact ⟨rfl, rfl⟩))
    (fun os started H enc _ => lifted os started H enc)
theorem p_wf : Rows.fnExactVmNamedRow.wfByText (OpenSpec.ofChange Rows.fnExactVmNamedSpec) = true := by kernel_rfl
theorem p_main : Tryz.pinned.checked.prog.mainIs = some ((true, "e6ce24081f6ea36487cb4fe7f082b906fb8784de3351b0cfdb3fa6d9fe80220a").1, (true, "e6ce24081f6ea36487cb4fe7f082b906fb8784de3351b0cfdb3fa6d9fe80220a").2.toList) := by kernel_rfl
theorem p_fn : Tryz.prog.funcNamed "loop.example/g00221/laws.FnExactVmNamed" = some 3 := by kernel_rfl
theorem p_looks : false = Tryz.pinned.checked.prog.looks [] := by kernel_rfl
theorem p_all : ([26, 29].all fun u => !Tryz.prog.wantsStandIn u) = true := by kernel_rfl
theorem p_goes : false = Rows.fnExactVmNamedRow.goesBy Tryz.pinned.checked.prog := by kernel_rfl
theorem proved : Rows.FnExactVmNamedCardSaid :=
  Claim7.holds_tied_plain_at .later [] [.data, .pinned] true (true, "e6ce24081f6ea36487cb4fe7f082b906fb8784de3351b0cfdb3fa6d9fe80220a") false over (fun _ h => by cases h) p_wf (fun _ h => by cases h) fnExactVmNamed_row_tie rfl ⟨rfl, rfl⟩ p_main rfl
    (fun f fn hf hfn => by
      obtain rfl : f = 3 := Option.some.inj (p_fn.symm.trans hf) |>.symm
      obtain rfl : fn = Tryz.f3 := (Option.some.inj (Tryz.func3.symm.trans hfn)).symm
      exact ⟨p_looks, fun j t ht => by
        rw [Tryz.params3] at ht
        have hm : t ∈ [26, 29] := by simpa using Array.mem_of_getElem? ht
        have hall := p_all
        exact (show Tryz.prog.wantsStandIn t = false by simpa using List.all_eq_true.1 hall t hm)⟩)
    p_goes
#print axioms proved
end Go.Proofs.YthpjnjplgmaofaaGreatDoor.fnExactVmNamed
namespace Go.Proofs.YthpjnjplgmaofaaGreatDoor
/-- The row, under a short name, for the claim. -/
theorem fnExactVmNamed_holds : Rows.FnExactVmNamedCardSaid := fnExactVmNamed.proved
end Go.Proofs.YthpjnjplgmaofaaGreatDoor
