-- laid by seedprint.py, a program of this session, over contracts that it gives by hand; Lean checks it
import Derived.Test.YtabmljlpmnlbpaaDoorCards
import Derived.Test.YtabmljlpmnlbpaaDoorTie
import Derived.Test.YtabmljlpmnlbpaaDoorRows
import Derived.Test.YtabmljlpmnlbpaaDoorPFnExactLegsRightx3
import Derived.Test.YtabmljlpmnlbpaaDoorPureFnExactLegsRight
import Derived.Test.YtabmljlpmnlbpaaDoorQOpen
import Derived.WalkKit
import Derived.ProofKit
import Derived.OpenShut
import Derived.ShutString
import Derived.ChangeOld
import Derived.Below
import Derived.SizedLaws
import Derived.Lay
import Derived.LaidLaws
import Derived.LaidOnce
import Derived.SevenTiedAt
import Derived.MakeChecks
namespace Go.Proofs.YtabmljlpmnlbpaaDoor.fnExactLegsRight
open Go.ChangeShapes Go.WideShapes Go.ChangeAt Go.RowKit
open Go.ChangeMaps (open_string shut_string)
open Go.Proofs.YtabmljlpmnlbpaaDoorW.PrintWords Go.Proofs.YtabmljlpmnlbpaaDoorW.PrintLast Go.Proofs.YtabmljlpmnlbpaaDoorW.PrintMore
open Go.Proofs.YtabmljlpmnlbpaaDoor.Q Go.Proofs.YtabmljlpmnlbpaaDoor.PFnExactLegsRight
set_option linter.unusedVariables false
set_option linter.unusedSimpArgs false
theorem own : ownKnob Tryd.prog.godebug = none := by kernel_rfl
theorem laidOut : laidOutB Tryd.prog = true := by kernel_rfl
set_option maxRecDepth 100000 in
set_option maxHeartbeats 4000000 in
theorem lifted (os : Os) (started : os.Started) (H : Type) (enc : TypeId × Value → H) :
    ReturnsInHanded {} Tryd.checked os 5 .any (fun w args => (Rows.fnExactLegsRightSpec.pre enc Tryd.prog Tryd.f5 Rows.fnExactLegsRightRow.domain false w args ∧ laidMetH Tryd.prog Rows.fnExactLegsRightRow.laid w) ∧ sizedMet enc Tryd.prog Tryd.f5 (OpenSpec.ofChange Rows.fnExactLegsRightSpec) false w args) (Rows.fnExactLegsRightSpec.post enc Tryd.prog Tryd.f5 false true false false) := by
  refine returnsInHanded_of_change_and (C := Tryd.checked) (X := fun w _ => laidMetH Tryd.prog Rows.fnExactLegsRightRow.laid w) (fun _ _ _ hh h => h.of_heap hh) own started (by kernel_rfl) Tryd.func5
    (ChangeSpec.witness_shaped (enc := enc) (C := Tryd.checked) (os := os) (X := fun w _ => laidMetH Tryd.prog Rows.fnExactLegsRightRow.laid w) false (World.laidAll Tryd.prog os Rows.fnExactLegsRightRow.laid) #[.slice none 0 0] 8 (World.laidAll_os _ _ _)
      (World.shaped_of_ZipB (by kernel_rfl) (by kernel_rfl)) (by kernel_rfl) (by kernel_rfl) (by kernel_rfl)
      (by rw [MakeChecks.laidMetH_plain _ _ _ (by kernel_rfl)]; exact laidMet_laidAll _ (by kernel_rfl) (by kernel_rfl))) ?_
  intro W base args ds gs before hval0 hW hcnd hsz0 hL _
  have hsz : (DataW.weightsEach Tryd.prog (Tryd.f5.params.toList ++ Rows.fnExactLegsRightSpec.plain.varTypes Tryd.prog) (ds ++ gs)).all (· ≤ reachBytes) = true := hsz0
  have hval : ∀ (j : Nat) t v, Tryd.f5.params[j]? = some t → args[j]? = some v → Value.okWide Tryd.prog W .any base t v := hval0
  have hW' := hW
  obtain ⟨p, q, hA0, hV, rfl, hfz, hnd⟩ := hW
  have hA : DataW.TrodAll enc Tryd.prog W 0 (fun _ => true) true Tryd.f5.params.toList args.toList ds p := hA0
  rw [Tryd.params5] at hA hval hsz
  obtain ⟨v0, vs0, d0, ds0, p0, q0, hargs, rfl, rfl, h0, r0⟩ := trodAll_cons hA
  obtain ⟨rfl, rfl, rfl⟩ := trodAll_nil r0
  obtain rfl : args = #[v0] := by cases args; simp_all
  obtain ⟨rfl, rfl⟩ := trodVars_none hV
  obtain ⟨a0, len0, cap0, rfl⟩ := okWide_slice Tryd.underlying25 (hval 0 25 v0 rfl rfl)
  have k0 := h0
  have lt0 : ∀ x ∈ p0, x.block < W.heap.size := by obtain ⟨m, hm⟩ := k0; exact DataW.trod_lt m _ _ _ hm
  obtain ⟨fuel0, hf0⟩ := h0
  have on_47 : Opn Tryd.prog 47 k47 _ := (opn_struct (d := (Kd.pair Kd.string Kd.string)) Tryd.underlying47 (by kernel_rfl) (opnF_cons rfl rfl (by kernel_rfl) (opn_string Tryd.underlying9) (opnF_one rfl rfl (by kernel_rfl) (opn_string Tryd.underlying9))) (fun x : S47 => (x.f0, x.f1)) (fun x => ⟨x.1, x.2⟩) (fun _ => rfl))
  have on_74 : Opn Tryd.prog 74 k74 _ := (opn_struct (d := (Kd.pair k47 (Kd.pair k47 (Kd.int .i64)))) Tryd.underlying74 (by kernel_rfl) (opnF_cons (t := 47) (by rfl) (by rfl) (by kernel_rfl) on_47 (opnF_cons (t := 47) (by rfl) (by rfl) (by kernel_rfl) on_47 (opnF_one rfl rfl (by kernel_rfl) (opn_int Tryd.underlying2)))) (fun x : S74 => (x.f0, x.f1, x.f2)) (fun x => ⟨x.1, x.2.1, x.2.2⟩) (fun _ => rfl))
  obtain ⟨x0, hK0, hF0⟩ := (opn_slice Tryd.underlying25 (by kernel_rfl) on_74) hf0
  replace hK0 : Kd.K (Kd.slice 74 k74) W x0 [.slice a0 len0 cap0] := hK0
  obtain ⟨A0, c0, hcs0, hc0, hC0⟩ := hK0
  simp only [List.cons.injEq, Value.slice.injEq, and_true] at hcs0
  obtain ⟨rfl, rfl, rfl⟩ := hcs0
  clear hA0 hval0 hsz0 hsz
  obtain ⟨k, h⟩ := Pure.FnExactLegsRight x0 hF0
  show Calls Tryd.prog 5 #[.slice a0 x0.length cap0] W _
  refine (laws_FnExactLegsRight.calls k _ _ x0 true W hC0 hc0 h).mono ?_
  rintro e W' ⟨rfl, bel0⟩
  have bel : Below W.heap.size W W' := bel0
  exact ⟨_, rfl, _, _, _, [], _, [], hW', trodAll_mk1 (shut_bool Tryd.underlying4 _), (trodAll_cons_mk (Below.trod laidOut (by kernel_rfl) (of_decide_eq_true (by kernel_rfl)) k0 bel lt0) trodAll_mk0), rfl, bel.frame _, fun h => by cases h⟩
theorem band {a b : Bool} (x : a = true) (y : b = true) : (a && b) = true := by rw [x, y]; rfl
theorem fact_0 : (Rows.fnExactLegsRightRow.wf (OpenSpec.ofChange Rows.fnExactLegsRightSpec) : Bool) = true := by kernel_rfl
theorem fact_1 : (laidOutB Tryd.pinned.checked.prog : Bool) = true := by kernel_rfl
theorem fact_2 : (mapsRowed Tryd.pinned.checked.prog : Bool) = true := by kernel_rfl
theorem fact_3 : (Tryd.f5.params.all (Tryd.pinned.checked.prog.readableRec ·) : Bool) = true := by kernel_rfl
theorem fact_4 : (namedTie Tryd.pinned.checked.prog Rows.fnExactLegsRightRow.named Rows.fnExactLegsRightSpec.vars : Bool) = true := by kernel_rfl
theorem fact_5 : ((Rows.fnExactLegsRightRow.stops == []) : Bool) = true := by kernel_rfl
theorem fact_6 : ((Tryd.pinned.checked.prog.stops == []) : Bool) = true := by kernel_rfl
theorem fact_7 : ((Rows.fnExactLegsRightRow.knobs == []) : Bool) = true := by kernel_rfl
theorem fact_8 : ((Tryd.pinned.checked.prog.stopKnobs == []) : Bool) = true := by kernel_rfl
theorem fact_9 : ((Rows.fnExactLegsRightRow.inPlace == Tryd.pinned.checked.prog.inPlace 5) : Bool) = true := by kernel_rfl
theorem fact_10 : ((Rows.fnExactLegsRightRow.unfollowed == Tryd.pinned.checked.prog.unfollowed 5) : Bool) = true := by kernel_rfl
theorem fact_11 : ((Rows.fnExactLegsRightRow.recurses == Tryd.pinned.checked.prog.recurses 5) : Bool) = true := by kernel_rfl
theorem fact_12 : ((Rows.fnExactLegsRightRow.named == Tryd.pinned.checked.prog.varsNamed 5) : Bool) = true := by kernel_rfl
theorem fact_13 : ((Rows.fnExactLegsRightRow.maps == (Tryd.f5.params.toList ++ Rows.fnExactLegsRightSpec.plain.varTypes Tryd.pinned.checked.prog).any (Tryd.pinned.checked.prog.mapsRec ·)) : Bool) = true := by kernel_rfl
theorem fact_14 : ((Rows.fnExactLegsRightRow.ifaces == (Tryd.f5.params.toList ++ Rows.fnExactLegsRightSpec.plain.varTypes Tryd.pinned.checked.prog).any (Tryd.pinned.checked.prog.ifacesRec ·)) : Bool) = true := by kernel_rfl
theorem fact_15 : ((Rows.fnExactLegsRightRow.mapsOut == Tryd.pinned.checked.prog.mapsAmong Tryd.f5.resultTypes.toList) : Bool) = true := by kernel_rfl
theorem fact_16 : ((Rows.fnExactLegsRightRow.loops == (Tryd.f5.params.toList ++ Rows.fnExactLegsRightSpec.plain.varTypes Tryd.pinned.checked.prog).any (Tryd.pinned.checked.prog.loopsFrom ·)) : Bool) = true := by kernel_rfl
theorem fact_17 : ((Rows.fnExactLegsRightRow.wideKeys == (Tryd.f5.params.toList ++ Rows.fnExactLegsRightSpec.plain.varTypes Tryd.pinned.checked.prog ++ Tryd.f5.resultTypes.toList).any (Tryd.pinned.checked.prog.wideKeysFrom ·)) : Bool) = true := by kernel_rfl
theorem fact_18 : (Rows.fnExactLegsRightSpec.vars.all (Tryd.pinned.checked.prog.varReadable ·) : Bool) = true := by kernel_rfl
theorem fact_19 : (Tryd.f5.resultTypes.all (fun t => Tryd.pinned.checked.prog.readableRec t && decide (t < Tryd.pinned.checked.prog.types.size)) : Bool) = true := by kernel_rfl
theorem fact_20 : ((Rows.fnExactLegsRightRow.ifacesOut == Tryd.f5.resultTypes.toList.any (Tryd.pinned.checked.prog.ifacesRec ·)) : Bool) = true := by kernel_rfl
theorem fact_21 : ((Rows.fnExactLegsRightRow.loopsOut == Tryd.f5.resultTypes.toList.any (Tryd.pinned.checked.prog.loopsFrom ·)) : Bool) = true := by kernel_rfl
theorem fact_22 : ((Rows.fnExactLegsRightRow.plainKeys == Tryd.pinned.checked.prog.plainKeys) : Bool) = true := by kernel_rfl
theorem fact_23 : (Rows.fnExactLegsRightRow.shortTexts.isNone : Bool) = true := by kernel_rfl
theorem fact_24 : (Tryd.pinned.checked.prog.stopsHeard : Bool) = true := by kernel_rfl
theorem fact_25 : (Tryd.pinned.checked.prog.mayEnter : Bool) = true := by kernel_rfl
theorem fact_26 : ((Rows.fnExactLegsRightRow.lifted == Tryd.pinned.checked.prog.liftsFinal) : Bool) = true := by kernel_rfl
theorem fact_27 : ((Tryd.pinned.checked.prog.make == some Rows.fnExactLegsRightRow.make) : Bool) = true := by kernel_rfl
theorem fact_28 : ((Rows.fnExactLegsRightRow.kinds == (if Rows.fnExactLegsRightRow.domain.isEmpty then [] else Tryd.f5.params.toList.map fun t => match Tryd.pinned.checked.prog.underlying t with | some (.int k) => some k | _ => none)) : Bool) = true := by kernel_rfl
theorem fact_29 : ((Rows.fnExactLegsRightRow.pinned == Rows.fnExactLegsRightRow.pinnedBy) : Bool) = true := by kernel_rfl
theorem fact_30 : ((Rows.fnExactLegsRightRow.veiled == (Tryd.f5.params.toList ++ Rows.fnExactLegsRightSpec.plain.varTypes Tryd.pinned.checked.prog ++ Tryd.f5.resultTypes.toList).any (Tryd.pinned.checked.prog.veiledRec ·)) : Bool) = true := by kernel_rfl
theorem fact_31 : (Rows.fnExactLegsRightRow.veiledFits Tryd.pinned.checked.prog Tryd.f5.params.toList (Tryd.f5.params.toList ++ Rows.fnExactLegsRightSpec.plain.varTypes Tryd.pinned.checked.prog ++ Tryd.f5.resultTypes.toList) : Bool) = true := by kernel_rfl
set_option maxRecDepth 100000 in
set_option maxHeartbeats 4000000 in
theorem closed : joinedFacts Tryd.pinned.checked.prog 5 Tryd.f5 Rows.fnExactLegsRightSpec Rows.fnExactLegsRightRow = true := band (band (band (band (band (band (band (band (band (band (band (band (band (band (band (band (band (band (band (band (band (band (band (band (band (band (band (band (band (band (band (fact_0) fact_1) fact_2) fact_3) fact_4) fact_5) fact_6) fact_7) fact_8) fact_9) fact_10) fact_11) fact_12) fact_13) fact_14) fact_15) fact_16) fact_17) fact_18) fact_19) fact_20) fact_21) fact_22) fact_23) fact_24) fact_25) fact_26) fact_27) fact_28) fact_29) fact_30) fact_31
theorem over : Rows.fnExactLegsRightRow.holds Tryd.pinned (OpenSpec.ofChange Rows.fnExactLegsRightSpec) :=
  OpenClaim.holds_of_wide 5 Tryd.f5 rfl rfl rfl rfl rfl rfl rfl ⟨rfl, rfl, rfl, rfl, rfl⟩ rfl rfl rfl rfl rfl (by kernel_rfl) Tryd.func5 closed
    (of_decide_eq_true (by kernel_rfl)) (by unfold Func.isWrapper; first | (rw [if_pos (by decide +kernel)]; kernel_rfl) | (rw [if_neg (by decide +kernel)]; exact ⟨rfl, rfl⟩))
    (fun os started H enc _ => lifted os started H enc)
theorem proved : Rows.FnExactLegsRightCardSaid :=
  Claim7.holds_tied_plain_at .later [] [.data, .pinned] true (true, "255205d595100641aa3e5aea5177d4b1fc2861e5474459051440b9d9241cdf44") true over (fun _ h => by cases h) (by kernel_rfl) (fun _ h => by cases h) fnExactLegsRight_row_tie rfl ⟨rfl, rfl⟩ (by kernel_rfl) rfl
    (fun f fn hf hfn => by
      obtain rfl : f = 5 := Option.some.inj ((show Tryd.prog.funcNamed "loop.example/g00221/laws.FnExactLegsRight" = some 5 by kernel_rfl).symm.trans hf) |>.symm
      obtain rfl : fn = Tryd.f5 := (Option.some.inj (Tryd.func5.symm.trans hfn)).symm
      exact ⟨by kernel_rfl, fun j t ht => by
        rw [Tryd.params5] at ht
        have hm : t ∈ [25] := by simpa using Array.mem_of_getElem? ht
        have hall : ([25].all fun u => !Tryd.prog.wantsStandIn u) = true := by kernel_rfl
        exact (show Tryd.prog.wantsStandIn t = false by simpa using List.all_eq_true.1 hall t hm)⟩)
    (by kernel_rfl)
#print axioms proved
end Go.Proofs.YtabmljlpmnlbpaaDoor.fnExactLegsRight
namespace Go.Proofs.YtabmljlpmnlbpaaDoor
/-- The row, under a short name, for the claim. -/
theorem fnExactLegsRight_holds : Rows.FnExactLegsRightCardSaid := fnExactLegsRight.proved
end Go.Proofs.YtabmljlpmnlbpaaDoor
