-- laid by seedprint.py, a program of this session, over contracts that it gives by hand; Lean checks it
import Derived.Test.YtopeaemfnlcecaaDoorCards
import Derived.Test.YtopeaemfnlcecaaDoorTie
import Derived.Test.YtopeaemfnlcecaaDoorRows
import Derived.Test.YtopeaemfnlcecaaDoorPFnExactLegsBackx6
import Derived.Test.YtopeaemfnlcecaaDoorPureFnExactLegsBack
import Derived.Test.YtopeaemfnlcecaaDoorQOpen
import Derived.WalkKit
import Derived.ProofKit
import Derived.OpenShut
import Derived.ShutString
import Derived.ChangeOld
import Derived.Below
import Derived.SizedLaws
import Derived.Lay
import Derived.LaidLaws
import Derived.LaidOnce
import Derived.SevenTiedAt
import Derived.MakeChecks
namespace Go.Proofs.YtopeaemfnlcecaaDoor.fnExactLegsBack
open Go.ChangeShapes Go.WideShapes Go.ChangeAt Go.RowKit
open Go.ChangeMaps (open_string shut_string)
open Go.Proofs.YtopeaemfnlcecaaDoorW.PrintWords Go.Proofs.YtopeaemfnlcecaaDoorW.PrintLast Go.Proofs.YtopeaemfnlcecaaDoorW.PrintMore
open Go.Proofs.YtopeaemfnlcecaaDoor.Q Go.Proofs.YtopeaemfnlcecaaDoor.PFnExactLegsBack
set_option linter.unusedVariables false
set_option linter.unusedSimpArgs false
theorem own : ownKnob Tryd.prog.godebug = none := by kernel_rfl
theorem laidOut : laidOutB Tryd.prog = true := by kernel_rfl
set_option maxRecDepth 100000 in
set_option maxHeartbeats 4000000 in
theorem lifted (os : Os) (started : os.Started) (H : Type) (enc : TypeId × Value → H) :
    ReturnsInHanded {} Tryd.checked os 3 .any (fun w args => (Rows.fnExactLegsBackSpec.pre enc Tryd.prog Tryd.f3 Rows.fnExactLegsBackRow.domain false w args ∧ laidMetH Tryd.prog Rows.fnExactLegsBackRow.laid w) ∧ sizedMet enc Tryd.prog Tryd.f3 (OpenSpec.ofChange Rows.fnExactLegsBackSpec) false w args) (Rows.fnExactLegsBackSpec.post enc Tryd.prog Tryd.f3 false true false false) := by
  refine returnsInHanded_of_change_and (C := Tryd.checked) (X := fun w _ => laidMetH Tryd.prog Rows.fnExactLegsBackRow.laid w) (fun _ _ _ hh h => h.of_heap hh) own started (by kernel_rfl) Tryd.func3
    (ChangeSpec.witness_shaped (enc := enc) (C := Tryd.checked) (os := os) (X := fun w _ => laidMetH Tryd.prog Rows.fnExactLegsBackRow.laid w) false (World.laidAll Tryd.prog os Rows.fnExactLegsBackRow.laid) #[.slice none 0 0] 8 (World.laidAll_os _ _ _)
      (World.shaped_of_ZipB (by kernel_rfl) (by kernel_rfl)) (by kernel_rfl) (by kernel_rfl) (by kernel_rfl)
      (by rw [MakeChecks.laidMetH_plain _ _ _ (by kernel_rfl)]; exact laidMet_laidAll _ (by kernel_rfl) (by kernel_rfl))) ?_
  intro W base args ds gs before hval0 hW hcnd hsz0 hL _
  have hsz : (DataW.weightsEach Tryd.prog (Tryd.f3.params.toList ++ Rows.fnExactLegsBackSpec.plain.varTypes Tryd.prog) (ds ++ gs)).all (· ≤ reachBytes) = true := hsz0
  have hval : ∀ (j : Nat) t v, Tryd.f3.params[j]? = some t → args[j]? = some v → Value.okWide Tryd.prog W .any base t v := hval0
  have hW' := hW
  obtain ⟨p, q, hA0, hV, rfl, hfz, hnd⟩ := hW
  have hA : DataW.TrodAll enc Tryd.prog W 0 (fun _ => true) true Tryd.f3.params.toList args.toList ds p := hA0
  rw [Tryd.params3] at hA hval hsz
  obtain ⟨v0, vs0, d0, ds0, p0, q0, hargs, rfl, rfl, h0, r0⟩ := trodAll_cons hA
  obtain ⟨rfl, rfl, rfl⟩ := trodAll_nil r0
  obtain rfl : args = #[v0] := by cases args; simp_all
  obtain ⟨rfl, rfl⟩ := trodVars_none hV
  obtain ⟨a0, len0, cap0, rfl⟩ := okWide_slice Tryd.underlying22 (hval 0 22 v0 rfl rfl)
  have k0 := h0
  have lt0 : ∀ x ∈ p0, x.block < W.heap.size := by obtain ⟨m, hm⟩ := k0; exact DataW.trod_lt m _ _ _ hm
  obtain ⟨fuel0, hf0⟩ := h0
  have on_32 : Opn Tryd.prog 32 k32 _ := (opn_struct (d := (Kd.pair Kd.string Kd.string)) Tryd.underlying32 (by kernel_rfl) (opnF_cons rfl rfl (by kernel_rfl) (opn_string Tryd.underlying9) (opnF_one rfl rfl (by kernel_rfl) (opn_string Tryd.underlying9))) (fun x : S32 => (x.f0, x.f1)) (fun x => ⟨x.1, x.2⟩) (fun _ => rfl))
  have on_34 : Opn Tryd.prog 34 k34 _ := (opn_struct (d := (Kd.pair k32 (Kd.pair k32 (Kd.int .i64)))) Tryd.underlying34 (by kernel_rfl) (opnF_cons (t := 32) (by rfl) (by rfl) (by kernel_rfl) on_32 (opnF_cons (t := 32) (by rfl) (by rfl) (by kernel_rfl) on_32 (opnF_one rfl rfl (by kernel_rfl) (opn_int Tryd.underlying2)))) (fun x : S34 => (x.f0, x.f1, x.f2)) (fun x => ⟨x.1, x.2.1, x.2.2⟩) (fun _ => rfl))
  obtain ⟨x0, hK0, hF0⟩ := (opn_slice Tryd.underlying22 (by kernel_rfl) on_34) hf0
  replace hK0 : Kd.K (Kd.slice 34 k34) W x0 [.slice a0 len0 cap0] := hK0
  obtain ⟨A0, c0, hcs0, hc0, hC0⟩ := hK0
  simp only [List.cons.injEq, Value.slice.injEq, and_true] at hcs0
  obtain ⟨rfl, rfl, rfl⟩ := hcs0
  clear hA0 hval0 hsz0 hsz
  obtain ⟨k, h⟩ := Pure.FnExactLegsBack x0 hF0
  show Calls Tryd.prog 3 #[.slice a0 x0.length cap0] W _
  refine (laws_FnExactLegsBack.calls k _ _ x0 true W hC0 hc0 h).mono ?_
  rintro e W' ⟨rfl, bel0⟩
  have bel : Below W.heap.size W W' := bel0
  exact ⟨_, rfl, _, _, _, [], _, [], hW', trodAll_mk1 (shut_bool Tryd.underlying4 _), (trodAll_cons_mk (Below.trod laidOut (by kernel_rfl) (of_decide_eq_true (by kernel_rfl)) k0 bel lt0) trodAll_mk0), rfl, bel.frame _, fun h => by cases h⟩
theorem band {a b : Bool} (x : a = true) (y : b = true) : (a && b) = true := by rw [x, y]; rfl
theorem fact_0 : (Rows.fnExactLegsBackRow.wf (OpenSpec.ofChange Rows.fnExactLegsBackSpec) : Bool) = true := by kernel_rfl
theorem fact_1 : (laidOutB Tryd.pinned.checked.prog : Bool) = true := by kernel_rfl
theorem fact_2 : (mapsRowed Tryd.pinned.checked.prog : Bool) = true := by kernel_rfl
theorem fact_3 : (Tryd.f3.params.all (Tryd.pinned.checked.prog.readableRec ·) : Bool) = true := by kernel_rfl
theorem fact_4 : (namedTie Tryd.pinned.checked.prog Rows.fnExactLegsBackRow.named Rows.fnExactLegsBackSpec.vars : Bool) = true := by kernel_rfl
theorem fact_5 : ((Rows.fnExactLegsBackRow.stops == []) : Bool) = true := by kernel_rfl
theorem fact_6 : ((Tryd.pinned.checked.prog.stops == []) : Bool) = true := by kernel_rfl
theorem fact_7 : ((Rows.fnExactLegsBackRow.knobs == []) : Bool) = true := by kernel_rfl
theorem fact_8 : ((Tryd.pinned.checked.prog.stopKnobs == []) : Bool) = true := by kernel_rfl
theorem fact_9 : ((Rows.fnExactLegsBackRow.inPlace == Tryd.pinned.checked.prog.inPlace 3) : Bool) = true := by kernel_rfl
theorem fact_10 : ((Rows.fnExactLegsBackRow.unfollowed == Tryd.pinned.checked.prog.unfollowed 3) : Bool) = true := by kernel_rfl
theorem fact_11 : ((Rows.fnExactLegsBackRow.recurses == Tryd.pinned.checked.prog.recurses 3) : Bool) = true := by kernel_rfl
theorem fact_12 : ((Rows.fnExactLegsBackRow.named == Tryd.pinned.checked.prog.varsNamed 3) : Bool) = true := by kernel_rfl
theorem fact_13 : ((Rows.fnExactLegsBackRow.maps == (Tryd.f3.params.toList ++ Rows.fnExactLegsBackSpec.plain.varTypes Tryd.pinned.checked.prog).any (Tryd.pinned.checked.prog.mapsRec ·)) : Bool) = true := by kernel_rfl
theorem fact_14 : ((Rows.fnExactLegsBackRow.ifaces == (Tryd.f3.params.toList ++ Rows.fnExactLegsBackSpec.plain.varTypes Tryd.pinned.checked.prog).any (Tryd.pinned.checked.prog.ifacesRec ·)) : Bool) = true := by kernel_rfl
theorem fact_15 : ((Rows.fnExactLegsBackRow.mapsOut == Tryd.pinned.checked.prog.mapsAmong Tryd.f3.resultTypes.toList) : Bool) = true := by kernel_rfl
theorem fact_16 : ((Rows.fnExactLegsBackRow.loops == (Tryd.f3.params.toList ++ Rows.fnExactLegsBackSpec.plain.varTypes Tryd.pinned.checked.prog).any (Tryd.pinned.checked.prog.loopsFrom ·)) : Bool) = true := by kernel_rfl
theorem fact_17 : ((Rows.fnExactLegsBackRow.wideKeys == (Tryd.f3.params.toList ++ Rows.fnExactLegsBackSpec.plain.varTypes Tryd.pinned.checked.prog ++ Tryd.f3.resultTypes.toList).any (Tryd.pinned.checked.prog.wideKeysFrom ·)) : Bool) = true := by kernel_rfl
theorem fact_18 : (Rows.fnExactLegsBackSpec.vars.all (Tryd.pinned.checked.prog.varReadable ·) : Bool) = true := by kernel_rfl
theorem fact_19 : (Tryd.f3.resultTypes.all (fun t => Tryd.pinned.checked.prog.readableRec t && decide (t < Tryd.pinned.checked.prog.types.size)) : Bool) = true := by kernel_rfl
theorem fact_20 : ((Rows.fnExactLegsBackRow.ifacesOut == Tryd.f3.resultTypes.toList.any (Tryd.pinned.checked.prog.ifacesRec ·)) : Bool) = true := by kernel_rfl
theorem fact_21 : ((Rows.fnExactLegsBackRow.loopsOut == Tryd.f3.resultTypes.toList.any (Tryd.pinned.checked.prog.loopsFrom ·)) : Bool) = true := by kernel_rfl
theorem fact_22 : ((Rows.fnExactLegsBackRow.plainKeys == Tryd.pinned.checked.prog.plainKeys) : Bool) = true := by kernel_rfl
theorem fact_23 : (Rows.fnExactLegsBackRow.shortTexts.isNone : Bool) = true := by kernel_rfl
theorem fact_24 : (Tryd.pinned.checked.prog.stopsHeard : Bool) = true := by kernel_rfl
theorem fact_25 : (Tryd.pinned.checked.prog.mayEnter : Bool) = true := by kernel_rfl
theorem fact_26 : ((Rows.fnExactLegsBackRow.lifted == Tryd.pinned.checked.prog.liftsFinal) : Bool) = true := by kernel_rfl
theorem fact_27 : ((Tryd.pinned.checked.prog.make == some Rows.fnExactLegsBackRow.make) : Bool) = true := by kernel_rfl
theorem fact_28 : ((Rows.fnExactLegsBackRow.kinds == (if Rows.fnExactLegsBackRow.domain.isEmpty then [] else Tryd.f3.params.toList.map fun t => match Tryd.pinned.checked.prog.underlying t with | some (.int k) => some k | _ => none)) : Bool) = true := by kernel_rfl
theorem fact_29 : ((Rows.fnExactLegsBackRow.pinned == Rows.fnExactLegsBackRow.pinnedBy) : Bool) = true := by kernel_rfl
theorem fact_30 : ((Rows.fnExactLegsBackRow.veiled == (Tryd.f3.params.toList ++ Rows.fnExactLegsBackSpec.plain.varTypes Tryd.pinned.checked.prog ++ Tryd.f3.resultTypes.toList).any (Tryd.pinned.checked.prog.veiledRec ·)) : Bool) = true := by kernel_rfl
theorem fact_31 : (Rows.fnExactLegsBackRow.veiledFits Tryd.pinned.checked.prog Tryd.f3.params.toList (Tryd.f3.params.toList ++ Rows.fnExactLegsBackSpec.plain.varTypes Tryd.pinned.checked.prog ++ Tryd.f3.resultTypes.toList) : Bool) = true := by kernel_rfl
set_option maxRecDepth 100000 in
set_option maxHeartbeats 4000000 in
theorem closed : joinedFacts Tryd.pinned.checked.prog 3 Tryd.f3 Rows.fnExactLegsBackSpec Rows.fnExactLegsBackRow = true := band (band (band (band (band (band (band (band (band (band (band (band (band (band (band (band (band (band (band (band (band (band (band (band (band (band (band (band (band (band (band (fact_0) fact_1) fact_2) fact_3) fact_4) fact_5) fact_6) fact_7) fact_8) fact_9) fact_10) fact_11) fact_12) fact_13) fact_14) fact_15) fact_16) fact_17) fact_18) fact_19) fact_20) fact_21) fact_22) fact_23) fact_24) fact_25) fact_26) fact_27) fact_28) fact_29) fact_30) fact_31
theorem over : Rows.fnExactLegsBackRow.holds Tryd.pinned (OpenSpec.ofChange Rows.fnExactLegsBackSpec) :=
  OpenClaim.holds_of_wide 3 Tryd.f3 rfl rfl rfl rfl rfl rfl rfl ⟨rfl, rfl, rfl, rfl, rfl⟩ rfl rfl rfl rfl rfl (by kernel_rfl) Tryd.func3 closed
    (of_decide_eq_true (by kernel_rfl)) (by unfold Func.isWrapper; first | (rw [if_pos (by decide +kernel)]; kernel_rfl) | (rw [if_neg (by decide +kernel)]; exact ⟨rfl, rfl⟩))
    (fun os started H enc _ => lifted os started H enc)
theorem proved : Rows.FnExactLegsBackCardSaid :=
  Claim7.holds_tied_plain_at .later [] [.data, .pinned] true (true, "76bcdb93f18b2ca087420ca0c20501f1db5d77d0f67b2c9d23bdf28b804111b7") false over (fun _ h => by cases h) (by kernel_rfl) (fun _ h => by cases h) fnExactLegsBack_row_tie rfl ⟨rfl, rfl⟩ (by kernel_rfl) rfl
    (fun f fn hf hfn => by
      obtain rfl : f = 3 := Option.some.inj ((show Tryd.prog.funcNamed "loop.example/g00221/laws.FnExactLegsBack" = some 3 by kernel_rfl).symm.trans hf) |>.symm
      obtain rfl : fn = Tryd.f3 := (Option.some.inj (Tryd.func3.symm.trans hfn)).symm
      exact ⟨by kernel_rfl, fun j t ht => by
        rw [Tryd.params3] at ht
        have hm : t ∈ [22] := by simpa using Array.mem_of_getElem? ht
        have hall : ([22].all fun u => !Tryd.prog.wantsStandIn u) = true := by kernel_rfl
        exact (show Tryd.prog.wantsStandIn t = false by simpa using List.all_eq_true.1 hall t hm)⟩)
    (by kernel_rfl)
#print axioms proved
end Go.Proofs.YtopeaemfnlcecaaDoor.fnExactLegsBack
namespace Go.Proofs.YtopeaemfnlcecaaDoor
/-- The row, under a short name, for the claim. -/
theorem fnExactLegsBack_holds : Rows.FnExactLegsBackCardSaid := fnExactLegsBack.proved
end Go.Proofs.YtopeaemfnlcecaaDoor
