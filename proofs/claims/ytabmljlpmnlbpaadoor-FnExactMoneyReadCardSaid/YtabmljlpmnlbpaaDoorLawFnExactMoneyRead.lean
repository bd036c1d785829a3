-- laid by seedprint.py, a program of this session, over contracts that it gives by hand; Lean checks it
import Derived.Test.YtabmljlpmnlbpaaDoorCards
import Derived.Test.YtabmljlpmnlbpaaDoorTie
import Derived.Test.YtabmljlpmnlbpaaDoorRows
import Derived.Test.YtabmljlpmnlbpaaDoorPFnExactMoneyReadx2
import Derived.Test.YtabmljlpmnlbpaaDoorPureFnExactMoneyRead
import Derived.Test.YtabmljlpmnlbpaaDoorQOpen
import Derived.Test.YtabmljlpmnlbpaaDoorQCard
import Derived.WalkKit
import Derived.ProofKit
import Derived.OpenShut
import Derived.ShutString
import Derived.ChangeOld
import Derived.Below
import Derived.SizedLaws
import Derived.HandedShaped
import Derived.Lay
import Derived.LaidLaws
import Derived.LaidOnce
import Derived.SevenTiedAt
import Derived.MakeChecks
namespace Go.Proofs.YtabmljlpmnlbpaaDoor.fnExactMoneyRead
open Go.ChangeShapes Go.WideShapes Go.ChangeAt Go.RowKit
open Go.ChangeMaps (open_string shut_string)
open Go.Proofs.YtabmljlpmnlbpaaDoorW.PrintWords Go.Proofs.YtabmljlpmnlbpaaDoorW.PrintLast Go.Proofs.YtabmljlpmnlbpaaDoorW.PrintMore
open Go.Proofs.YtabmljlpmnlbpaaDoor.Q Go.Proofs.YtabmljlpmnlbpaaDoor.PFnExactMoneyRead
set_option linter.unusedVariables false
set_option linter.unusedSimpArgs false
theorem own : ownKnob Tryd.prog.godebug = none := by kernel_rfl
theorem laidOut : laidOutB Tryd.prog = true := by kernel_rfl
set_option maxRecDepth 100000 in
set_option maxHeartbeats 4000000 in
theorem lifted (os : Os) (started : os.Started) (H : Type) (enc : TypeId × Value → H) :
    ReturnsInHanded {} Tryd.checked os 12 .any (fun w args => (Rows.fnExactMoneyReadSpec.pre enc Tryd.prog Tryd.f12 Rows.fnExactMoneyReadRow.domain false w args ∧ laidMetH Tryd.prog Rows.fnExactMoneyReadRow.laid w) ∧ sizedMet enc Tryd.prog Tryd.f12 (OpenSpec.ofChange Rows.fnExactMoneyReadSpec) false w args) (Rows.fnExactMoneyReadSpec.post enc Tryd.prog Tryd.f12 false true false false) := by
  refine card_lift_shaped (C := Tryd.checked) (X := fun w _ => laidMetH Tryd.prog Rows.fnExactMoneyReadRow.laid w) (fun _ _ _ hh h => h.of_heap hh) own started (by kernel_rfl) Tryd.func12
    (ChangeSpec.witness_shaped (enc := enc) (C := Tryd.checked) (os := os) (X := fun w _ => laidMetH Tryd.prog Rows.fnExactMoneyReadRow.laid w) false (World.laidAll Tryd.prog os Rows.fnExactMoneyReadRow.laid) #[.string ByteArray.empty] 8 (World.laidAll_os _ _ _)
      (World.shaped_of_ZipB (by kernel_rfl) (by kernel_rfl)) (by kernel_rfl) (by kernel_rfl) (by kernel_rfl)
      (by rw [MakeChecks.laidMetH_plain _ _ _ (by kernel_rfl)]; exact laidMet_laidAll _ (by kernel_rfl) (by kernel_rfl))) ?_
  intro W base args ds gs before hval0 hW hcnd hsz0 hL hshp _
  have hsz : (DataW.weightsEach Tryd.prog (Tryd.f12.params.toList ++ Rows.fnExactMoneyReadSpec.plain.varTypes Tryd.prog) (ds ++ gs)).all (· ≤ reachBytes) = true := hsz0
  have hval : ∀ (j : Nat) t v, Tryd.f12.params[j]? = some t → args[j]? = some v → Value.okWide Tryd.prog W .any base t v := hval0
  have hW' := hW
  obtain ⟨p, q, hA0, hV, rfl, hfz, hnd⟩ := hW
  have hA : DataW.TrodAll enc Tryd.prog W 0 (fun _ => true) true Tryd.f12.params.toList args.toList ds p := hA0
  rw [Tryd.params12] at hA hval hsz
  obtain ⟨v0, vs0, d0, ds0, p0, q0, hargs, rfl, rfl, h0, r0⟩ := trodAll_cons hA
  obtain ⟨rfl, rfl, rfl⟩ := trodAll_nil r0
  obtain rfl : args = #[v0] := by cases args; simp_all
  obtain ⟨rfl, rfl⟩ := trodVars_none hV
  obtain ⟨a0, rfl, rfl, rfl, y0⟩ := open_string Tryd.underlying9 (hval 0 9 v0 rfl rfl) h0
  have w0 : a0.size ≤ 140737488351232 := by
    have z := sized_string hsz (j := 0) (t := 9) rfl rfl
    rw [Array.length_toList] at z
    exact z
  rw [MakeChecks.laidMetH_plain _ _ _ (by kernel_rfl)] at hL
  clear hA0 hval0 hsz0 hsz
  obtain ⟨k, h⟩ := Pure.FnExactMoneyRead a0 w0
  show Calls Tryd.prog 12 #[.string a0] W _
  refine (laws_FnExactMoneyRead.calls k a0 true W  (Sh.of hL hshp) h).mono ?_
  rintro e W' ⟨rfl, bel0⟩
  have bel : Below W.heap.size W W' := bel0
  exact ⟨_, rfl, _, _, _, [], _, [], hW', trodAll_mk1 (shut_bool Tryd.underlying4 _), (trodAll_cons_mk (shut_string Tryd.underlying9 y0) trodAll_mk0), rfl, bel.frame _, fun h => by cases h⟩
theorem band {a b : Bool} (x : a = true) (y : b = true) : (a && b) = true := by rw [x, y]; rfl
theorem fact_0 : (Rows.fnExactMoneyReadRow.wf (OpenSpec.ofChange Rows.fnExactMoneyReadSpec) : Bool) = true := by kernel_rfl
theorem fact_1 : (laidOutB Tryd.pinned.checked.prog : Bool) = true := by kernel_rfl
theorem fact_2 : (mapsRowed Tryd.pinned.checked.prog : Bool) = true := by kernel_rfl
theorem fact_3 : (Tryd.f12.params.all (Tryd.pinned.checked.prog.readableRec ·) : Bool) = true := by kernel_rfl
theorem fact_4 : (namedTie Tryd.pinned.checked.prog Rows.fnExactMoneyReadRow.named Rows.fnExactMoneyReadSpec.vars : Bool) = true := by kernel_rfl
theorem fact_5 : ((Rows.fnExactMoneyReadRow.stops == []) : Bool) = true := by kernel_rfl
theorem fact_6 : ((Tryd.pinned.checked.prog.stops == []) : Bool) = true := by kernel_rfl
theorem fact_7 : ((Rows.fnExactMoneyReadRow.knobs == []) : Bool) = true := by kernel_rfl
theorem fact_8 : ((Tryd.pinned.checked.prog.stopKnobs == []) : Bool) = true := by kernel_rfl
theorem fact_9 : ((Rows.fnExactMoneyReadRow.inPlace == Tryd.pinned.checked.prog.inPlace 12) : Bool) = true := by kernel_rfl
theorem fact_10 : ((Rows.fnExactMoneyReadRow.unfollowed == Tryd.pinned.checked.prog.unfollowed 12) : Bool) = true := by kernel_rfl
theorem fact_11 : ((Rows.fnExactMoneyReadRow.recurses == Tryd.pinned.checked.prog.recurses 12) : Bool) = true := by kernel_rfl
theorem fact_12 : ((Rows.fnExactMoneyReadRow.named == Tryd.pinned.checked.prog.varsNamed 12) : Bool) = true := by kernel_rfl
theorem fact_13 : ((Rows.fnExactMoneyReadRow.maps == (Tryd.f12.params.toList ++ Rows.fnExactMoneyReadSpec.plain.varTypes Tryd.pinned.checked.prog).any (Tryd.pinned.checked.prog.mapsRec ·)) : Bool) = true := by kernel_rfl
theorem fact_14 : ((Rows.fnExactMoneyReadRow.ifaces == (Tryd.f12.params.toList ++ Rows.fnExactMoneyReadSpec.plain.varTypes Tryd.pinned.checked.prog).any (Tryd.pinned.checked.prog.ifacesRec ·)) : Bool) = true := by kernel_rfl
theorem fact_15 : ((Rows.fnExactMoneyReadRow.mapsOut == Tryd.pinned.checked.prog.mapsAmong Tryd.f12.resultTypes.toList) : Bool) = true := by kernel_rfl
theorem fact_16 : ((Rows.fnExactMoneyReadRow.loops == (Tryd.f12.params.toList ++ Rows.fnExactMoneyReadSpec.plain.varTypes Tryd.pinned.checked.prog).any (Tryd.pinned.checked.prog.loopsFrom ·)) : Bool) = true := by kernel_rfl
theorem fact_17 : ((Rows.fnExactMoneyReadRow.wideKeys == (Tryd.f12.params.toList ++ Rows.fnExactMoneyReadSpec.plain.varTypes Tryd.pinned.checked.prog ++ Tryd.f12.resultTypes.toList).any (Tryd.pinned.checked.prog.wideKeysFrom ·)) : Bool) = true := by kernel_rfl
theorem fact_18 : (Rows.fnExactMoneyReadSpec.vars.all (Tryd.pinned.checked.prog.varReadable ·) : Bool) = true := by kernel_rfl
theorem fact_19 : (Tryd.f12.resultTypes.all (fun t => Tryd.pinned.checked.prog.readableRec t && decide (t < Tryd.pinned.checked.prog.types.size)) : Bool) = true := by kernel_rfl
theorem fact_20 : ((Rows.fnExactMoneyReadRow.ifacesOut == Tryd.f12.resultTypes.toList.any (Tryd.pinned.checked.prog.ifacesRec ·)) : Bool) = true := by kernel_rfl
theorem fact_21 : ((Rows.fnExactMoneyReadRow.loopsOut == Tryd.f12.resultTypes.toList.any (Tryd.pinned.checked.prog.loopsFrom ·)) : Bool) = true := by kernel_rfl
theorem fact_22 : ((Rows.fnExactMoneyReadRow.plainKeys == Tryd.pinned.checked.prog.plainKeys) : Bool) = true := by kernel_rfl
theorem fact_23 : (Rows.fnExactMoneyReadRow.shortTexts.isNone : Bool) = true := by kernel_rfl
theorem fact_24 : (Tryd.pinned.checked.prog.stopsHeard : Bool) = true := by kernel_rfl
theorem fact_25 : (Tryd.pinned.checked.prog.mayEnter : Bool) = true := by kernel_rfl
theorem fact_26 : ((Rows.fnExactMoneyReadRow.lifted == Tryd.pinned.checked.prog.liftsFinal) : Bool) = true := by kernel_rfl
theorem fact_27 : ((Tryd.pinned.checked.prog.make == some Rows.fnExactMoneyReadRow.make) : Bool) = true := by kernel_rfl
theorem fact_28 : ((Rows.fnExactMoneyReadRow.kinds == (if Rows.fnExactMoneyReadRow.domain.isEmpty then [] else Tryd.f12.params.toList.map fun t => match Tryd.pinned.checked.prog.underlying t with | some (.int k) => some k | _ => none)) : Bool) = true := by kernel_rfl
theorem fact_29 : ((Rows.fnExactMoneyReadRow.pinned == Rows.fnExactMoneyReadRow.pinnedBy) : Bool) = true := by kernel_rfl
theorem fact_30 : ((Rows.fnExactMoneyReadRow.veiled == (Tryd.f12.params.toList ++ Rows.fnExactMoneyReadSpec.plain.varTypes Tryd.pinned.checked.prog ++ Tryd.f12.resultTypes.toList).any (Tryd.pinned.checked.prog.veiledRec ·)) : Bool) = true := by kernel_rfl
theorem fact_31 : (Rows.fnExactMoneyReadRow.veiledFits Tryd.pinned.checked.prog Tryd.f12.params.toList (Tryd.f12.params.toList ++ Rows.fnExactMoneyReadSpec.plain.varTypes Tryd.pinned.checked.prog ++ Tryd.f12.resultTypes.toList) : Bool) = true := by kernel_rfl
set_option maxRecDepth 100000 in
set_option maxHeartbeats 4000000 in
theorem closed : joinedFacts Tryd.pinned.checked.prog 12 Tryd.f12 Rows.fnExactMoneyReadSpec Rows.fnExactMoneyReadRow = true := band (band (band (band (band (band (band (band (band (band (band (band (band (band (band (band (band (band (band (band (band (band (band (band (band (band (band (band (band (band (band (fact_0) fact_1) fact_2) fact_3) fact_4) fact_5) fact_6) fact_7) fact_8) fact_9) fact_10) fact_11) fact_12) fact_13) fact_14) fact_15) fact_16) fact_17) fact_18) fact_19) fact_20) fact_21) fact_22) fact_23) fact_24) fact_25) fact_26) fact_27) fact_28) fact_29) fact_30) fact_31
theorem over : Rows.fnExactMoneyReadRow.holds Tryd.pinned (OpenSpec.ofChange Rows.fnExactMoneyReadSpec) :=
  OpenClaim.holds_of_wide 12 Tryd.f12 rfl rfl rfl rfl rfl rfl rfl ⟨rfl, rfl, rfl, rfl, rfl⟩ rfl rfl rfl rfl rfl (by kernel_rfl) Tryd.func12 closed
    (of_decide_eq_true (by kernel_rfl)) (by unfold Func.isWrapper; first | (rw [if_pos (by decide +kernel)]; kernel_rfl) | (rw [if_neg (by decide +kernel)]; exact ⟨rfl, rfl⟩))
    (fun os started H enc _ => lifted os started H enc)
theorem proved : Rows.FnExactMoneyReadCardSaid :=
  Claim7.holds_tied_plain_at .later [] [.data, .data, .data, .sentinel, .sentinel] true (true, "255205d595100641aa3e5aea5177d4b1fc2861e5474459051440b9d9241cdf44") true over (fun _ h => by cases h) (by kernel_rfl) (fun _ h => by cases h) fnExactMoneyRead_row_tie rfl ⟨rfl, rfl⟩ (by kernel_rfl) rfl
    (fun f fn hf hfn => by
      obtain rfl : f = 12 := Option.some.inj ((show Tryd.prog.funcNamed "loop.example/g00221/laws.FnExactMoneyRead" = some 12 by kernel_rfl).symm.trans hf) |>.symm
      obtain rfl : fn = Tryd.f12 := (Option.some.inj (Tryd.func12.symm.trans hfn)).symm
      exact ⟨by kernel_rfl, fun j t ht => by
        rw [Tryd.params12] at ht
        have hm : t ∈ [9] := by simpa using Array.mem_of_getElem? ht
        have hall : ([9].all fun u => !Tryd.prog.wantsStandIn u) = true := by kernel_rfl
        exact (show Tryd.prog.wantsStandIn t = false by simpa using List.all_eq_true.1 hall t hm)⟩)
    (by kernel_rfl)
#print axioms proved
end Go.Proofs.YtabmljlpmnlbpaaDoor.fnExactMoneyRead
namespace Go.Proofs.YtabmljlpmnlbpaaDoor
/-- The row, under a short name, for the claim. -/
theorem fnExactMoneyRead_holds : Rows.FnExactMoneyReadCardSaid := fnExactMoneyRead.proved
end Go.Proofs.YtabmljlpmnlbpaaDoor
