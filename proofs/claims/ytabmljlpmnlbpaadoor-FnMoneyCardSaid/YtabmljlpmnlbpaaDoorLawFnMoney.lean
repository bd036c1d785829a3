-- laid by seedprint.py, a program of this session, over contracts that it gives by hand; Lean checks it
import Derived.Test.YtabmljlpmnlbpaaDoorCards
import Derived.Test.YtabmljlpmnlbpaaDoorTie
import Derived.Test.YtabmljlpmnlbpaaDoorRows
import Derived.Test.YtabmljlpmnlbpaaDoorPFnMoneyx7
import Derived.Test.YtabmljlpmnlbpaaDoorPureFnMoney
import Derived.Test.YtabmljlpmnlbpaaDoorQOpen
import Derived.Test.YtabmljlpmnlbpaaDoorQCard
import Derived.WalkKit
import Derived.ProofKit
import Derived.OpenShut
import Derived.ShutString
import Derived.ChangeOld
import Derived.Below
import Derived.SizedLaws
import Derived.HandedShaped
import Derived.Lay
import Derived.LaidLaws
import Derived.LaidOnce
import Derived.SevenTiedAt
import Derived.MakeChecks
namespace Go.Proofs.YtabmljlpmnlbpaaDoor.fnMoney
open Go.ChangeShapes Go.WideShapes Go.ChangeAt Go.RowKit
open Go.ChangeMaps (open_string shut_string)
open Go.Proofs.YtabmljlpmnlbpaaDoorW.PrintWords Go.Proofs.YtabmljlpmnlbpaaDoorW.PrintLast Go.Proofs.YtabmljlpmnlbpaaDoorW.PrintMore
open Go.Proofs.YtabmljlpmnlbpaaDoor.Q Go.Proofs.YtabmljlpmnlbpaaDoor.PFnMoney
set_option linter.unusedVariables false
set_option linter.unusedSimpArgs false
theorem own : ownKnob Tryd.prog.godebug = none := by kernel_rfl
theorem laidOut : laidOutB Tryd.prog = true := by kernel_rfl
set_option maxRecDepth 100000 in
set_option maxHeartbeats 4000000 in
theorem lifted (os : Os) (started : os.Started) (H : Type) (enc : TypeId × Value → H) :
    ReturnsInHanded {} Tryd.checked os 13 .any (fun w args => (Rows.fnMoneySpec.pre enc Tryd.prog Tryd.f13 Rows.fnMoneyRow.domain false w args ∧ laidMetH Tryd.prog Rows.fnMoneyRow.laid w) ∧ sizedMet enc Tryd.prog Tryd.f13 (OpenSpec.ofChange Rows.fnMoneySpec) false w args) (Rows.fnMoneySpec.post enc Tryd.prog Tryd.f13 false true false false) := by
  refine card_lift_shaped (C := Tryd.checked) (X := fun w _ => laidMetH Tryd.prog Rows.fnMoneyRow.laid w) (fun _ _ _ hh h => h.of_heap hh) own started (by kernel_rfl) Tryd.func13
    (ChangeSpec.witness_shaped (enc := enc) (C := Tryd.checked) (os := os) (X := fun w _ => laidMetH Tryd.prog Rows.fnMoneyRow.laid w) false (World.laidAll Tryd.prog os Rows.fnMoneyRow.laid) #[.slice none 0 0, .slice none 0 0] 8 (World.laidAll_os _ _ _)
      (World.shaped_of_ZipB (by kernel_rfl) (by kernel_rfl)) (by kernel_rfl) (by kernel_rfl) (by kernel_rfl)
      (by rw [MakeChecks.laidMetH_plain _ _ _ (by kernel_rfl)]; exact laidMet_laidAll _ (by kernel_rfl) (by kernel_rfl))) ?_
  intro W base args ds gs before hval0 hW hcnd hsz0 hL hshp _
  have hsz : (DataW.weightsEach Tryd.prog (Tryd.f13.params.toList ++ Rows.fnMoneySpec.plain.varTypes Tryd.prog) (ds ++ gs)).all (· ≤ reachBytes) = true := hsz0
  have hval : ∀ (j : Nat) t v, Tryd.f13.params[j]? = some t → args[j]? = some v → Value.okWide Tryd.prog W .any base t v := hval0
  have hW' := hW
  obtain ⟨p, q, hA0, hV, rfl, hfz, hnd⟩ := hW
  have hA : DataW.TrodAll enc Tryd.prog W 0 (fun _ => true) true Tryd.f13.params.toList args.toList ds p := hA0
  rw [Tryd.params13] at hA hval hsz
  obtain ⟨v0, vs0, d0, ds0, p0, q0, hargs, rfl, rfl, h0, r0⟩ := trodAll_cons hA
  obtain ⟨v1, vs1, d1, ds1, p1, q1, rfl, rfl, rfl, h1, r1⟩ := trodAll_cons r0
  obtain ⟨rfl, rfl, rfl⟩ := trodAll_nil r1
  obtain rfl : args = #[v0, v1] := by cases args; simp_all
  obtain ⟨rfl, rfl⟩ := trodVars_none hV
  obtain ⟨a0, len0, cap0, rfl⟩ := okWide_slice Tryd.underlying57 (hval 0 57 v0 rfl rfl)
  have k0 := h0
  have lt0 : ∀ x ∈ p0, x.block < W.heap.size := by obtain ⟨m, hm⟩ := k0; exact DataW.trod_lt m _ _ _ hm
  obtain ⟨fuel0, hf0⟩ := h0
  obtain ⟨x0, hK0, hF0⟩ := (opn_slice Tryd.underlying57 (by kernel_rfl) (opn_int Tryd.underlying5)) hf0
  replace hK0 : Kd.K (Kd.slice 5 (Kd.int .u8)) W x0 [.slice a0 len0 cap0] := hK0
  obtain ⟨A0, c0, hcs0, hc0, hC0⟩ := hK0
  simp only [List.cons.injEq, Value.slice.injEq, and_true] at hcs0
  obtain ⟨rfl, rfl, rfl⟩ := hcs0
  obtain ⟨a1, len1, cap1, rfl⟩ := okWide_slice Tryd.underlying57 (hval 1 57 v1 rfl rfl)
  have k1 := h1
  have lt1 : ∀ x ∈ p1, x.block < W.heap.size := by obtain ⟨m, hm⟩ := k1; exact DataW.trod_lt m _ _ _ hm
  obtain ⟨fuel1, hf1⟩ := h1
  obtain ⟨x1, hK1, hF1⟩ := (opn_slice Tryd.underlying57 (by kernel_rfl) (opn_int Tryd.underlying5)) hf1
  replace hK1 : Kd.K (Kd.slice 5 (Kd.int .u8)) W x1 [.slice a1 len1 cap1] := hK1
  obtain ⟨A1, c1, hcs1, hc1, hC1⟩ := hK1
  simp only [List.cons.injEq, Value.slice.injEq, and_true] at hcs1
  obtain ⟨rfl, rfl, rfl⟩ := hcs1
  rw [MakeChecks.laidMetH_plain _ _ _ (by kernel_rfl)] at hL
  clear hA0 hval0 hsz0 hsz
  obtain ⟨k, h⟩ := Pure.FnMoney x0 x1 hF0 hF1
  show Calls Tryd.prog 13 #[.slice a0 x0.length cap0, .slice a1 x1.length cap1] W _
  refine (laws_FnMoney.calls k _ _ x0 _ _ x1 true W hC0 hc0 hC1 hc1 (Sh.of hL hshp) h).mono ?_
  rintro e W' ⟨rfl, bel0⟩
  have bel : Below W.heap.size W W' := bel0
  exact ⟨_, rfl, _, _, _, [], _, [], hW', trodAll_mk1 (shut_bool Tryd.underlying4 _), (trodAll_cons_mk (Below.trod laidOut (by kernel_rfl) (of_decide_eq_true (by kernel_rfl)) k0 bel lt0) (trodAll_cons_mk (Below.trod laidOut (by kernel_rfl) (of_decide_eq_true (by kernel_rfl)) k1 bel lt1) trodAll_mk0)), rfl, bel.frame _, fun h => by cases h⟩
theorem band {a b : Bool} (x : a = true) (y : b = true) : (a && b) = true := by rw [x, y]; rfl
theorem fact_0 : (Rows.fnMoneyRow.wf (OpenSpec.ofChange Rows.fnMoneySpec) : Bool) = true := by kernel_rfl
theorem fact_1 : (laidOutB Tryd.pinned.checked.prog : Bool) = true := by kernel_rfl
theorem fact_2 : (mapsRowed Tryd.pinned.checked.prog : Bool) = true := by kernel_rfl
theorem fact_3 : (Tryd.f13.params.all (Tryd.pinned.checked.prog.readableRec ·) : Bool) = true := by kernel_rfl
theorem fact_4 : (namedTie Tryd.pinned.checked.prog Rows.fnMoneyRow.named Rows.fnMoneySpec.vars : Bool) = true := by kernel_rfl
theorem fact_5 : ((Rows.fnMoneyRow.stops == []) : Bool) = true := by kernel_rfl
theorem fact_6 : ((Tryd.pinned.checked.prog.stops == []) : Bool) = true := by kernel_rfl
theorem fact_7 : ((Rows.fnMoneyRow.knobs == []) : Bool) = true := by kernel_rfl
theorem fact_8 : ((Tryd.pinned.checked.prog.stopKnobs == []) : Bool) = true := by kernel_rfl
theorem fact_9 : ((Rows.fnMoneyRow.inPlace == Tryd.pinned.checked.prog.inPlace 13) : Bool) = true := by kernel_rfl
theorem fact_10 : ((Rows.fnMoneyRow.unfollowed == Tryd.pinned.checked.prog.unfollowed 13) : Bool) = true := by kernel_rfl
theorem fact_11 : ((Rows.fnMoneyRow.recurses == Tryd.pinned.checked.prog.recurses 13) : Bool) = true := by kernel_rfl
theorem fact_12 : ((Rows.fnMoneyRow.named == Tryd.pinned.checked.prog.varsNamed 13) : Bool) = true := by kernel_rfl
theorem fact_13 : ((Rows.fnMoneyRow.maps == (Tryd.f13.params.toList ++ Rows.fnMoneySpec.plain.varTypes Tryd.pinned.checked.prog).any (Tryd.pinned.checked.prog.mapsRec ·)) : Bool) = true := by kernel_rfl
theorem fact_14 : ((Rows.fnMoneyRow.ifaces == (Tryd.f13.params.toList ++ Rows.fnMoneySpec.plain.varTypes Tryd.pinned.checked.prog).any (Tryd.pinned.checked.prog.ifacesRec ·)) : Bool) = true := by kernel_rfl
theorem fact_15 : ((Rows.fnMoneyRow.mapsOut == Tryd.pinned.checked.prog.mapsAmong Tryd.f13.resultTypes.toList) : Bool) = true := by kernel_rfl
theorem fact_16 : ((Rows.fnMoneyRow.loops == (Tryd.f13.params.toList ++ Rows.fnMoneySpec.plain.varTypes Tryd.pinned.checked.prog).any (Tryd.pinned.checked.prog.loopsFrom ·)) : Bool) = true := by kernel_rfl
theorem fact_17 : ((Rows.fnMoneyRow.wideKeys == (Tryd.f13.params.toList ++ Rows.fnMoneySpec.plain.varTypes Tryd.pinned.checked.prog ++ Tryd.f13.resultTypes.toList).any (Tryd.pinned.checked.prog.wideKeysFrom ·)) : Bool) = true := by kernel_rfl
theorem fact_18 : (Rows.fnMoneySpec.vars.all (Tryd.pinned.checked.prog.varReadable ·) : Bool) = true := by kernel_rfl
theorem fact_19 : (Tryd.f13.resultTypes.all (fun t => Tryd.pinned.checked.prog.readableRec t && decide (t < Tryd.pinned.checked.prog.types.size)) : Bool) = true := by kernel_rfl
theorem fact_20 : ((Rows.fnMoneyRow.ifacesOut == Tryd.f13.resultTypes.toList.any (Tryd.pinned.checked.prog.ifacesRec ·)) : Bool) = true := by kernel_rfl
theorem fact_21 : ((Rows.fnMoneyRow.loopsOut == Tryd.f13.resultTypes.toList.any (Tryd.pinned.checked.prog.loopsFrom ·)) : Bool) = true := by kernel_rfl
theorem fact_22 : ((Rows.fnMoneyRow.plainKeys == Tryd.pinned.checked.prog.plainKeys) : Bool) = true := by kernel_rfl
theorem fact_23 : (Rows.fnMoneyRow.shortTexts.isNone : Bool) = true := by kernel_rfl
theorem fact_24 : (Tryd.pinned.checked.prog.stopsHeard : Bool) = true := by kernel_rfl
theorem fact_25 : (Tryd.pinned.checked.prog.mayEnter : Bool) = true := by kernel_rfl
theorem fact_26 : ((Rows.fnMoneyRow.lifted == Tryd.pinned.checked.prog.liftsFinal) : Bool) = true := by kernel_rfl
theorem fact_27 : ((Tryd.pinned.checked.prog.make == some Rows.fnMoneyRow.make) : Bool) = true := by kernel_rfl
theorem fact_28 : ((Rows.fnMoneyRow.kinds == (if Rows.fnMoneyRow.domain.isEmpty then [] else Tryd.f13.params.toList.map fun t => match Tryd.pinned.checked.prog.underlying t with | some (.int k) => some k | _ => none)) : Bool) = true := by kernel_rfl
theorem fact_29 : ((Rows.fnMoneyRow.pinned == Rows.fnMoneyRow.pinnedBy) : Bool) = true := by kernel_rfl
theorem fact_30 : ((Rows.fnMoneyRow.veiled == (Tryd.f13.params.toList ++ Rows.fnMoneySpec.plain.varTypes Tryd.pinned.checked.prog ++ Tryd.f13.resultTypes.toList).any (Tryd.pinned.checked.prog.veiledRec ·)) : Bool) = true := by kernel_rfl
theorem fact_31 : (Rows.fnMoneyRow.veiledFits Tryd.pinned.checked.prog Tryd.f13.params.toList (Tryd.f13.params.toList ++ Rows.fnMoneySpec.plain.varTypes Tryd.pinned.checked.prog ++ Tryd.f13.resultTypes.toList) : Bool) = true := by kernel_rfl
set_option maxRecDepth 100000 in
set_option maxHeartbeats 4000000 in
theorem closed : joinedFacts Tryd.pinned.checked.prog 13 Tryd.f13 Rows.fnMoneySpec Rows.fnMoneyRow = true := band (band (band (band (band (band (band (band (band (band (band (band (band (band (band (band (band (band (band (band (band (band (band (band (band (band (band (band (band (band (band (fact_0) fact_1) fact_2) fact_3) fact_4) fact_5) fact_6) fact_7) fact_8) fact_9) fact_10) fact_11) fact_12) fact_13) fact_14) fact_15) fact_16) fact_17) fact_18) fact_19) fact_20) fact_21) fact_22) fact_23) fact_24) fact_25) fact_26) fact_27) fact_28) fact_29) fact_30) fact_31
theorem over : Rows.fnMoneyRow.holds Tryd.pinned (OpenSpec.ofChange Rows.fnMoneySpec) :=
  OpenClaim.holds_of_wide 13 Tryd.f13 rfl rfl rfl rfl rfl rfl rfl ⟨rfl, rfl, rfl, rfl, rfl⟩ rfl rfl rfl rfl rfl (by kernel_rfl) Tryd.func13 closed
    (of_decide_eq_true (by kernel_rfl)) (by unfold Func.isWrapper; first | (rw [if_pos (by decide +kernel)]; kernel_rfl) | (rw [if_neg (by decide +kernel)]; exact ⟨rfl, rfl⟩))
    (fun os started H enc _ => lifted os started H enc)
theorem proved : Rows.FnMoneyCardSaid :=
  Claim7.holds_tied_plain_at .later [] [.data, .data, .data, .sentinel, .sentinel] true (true, "255205d595100641aa3e5aea5177d4b1fc2861e5474459051440b9d9241cdf44") true over (fun _ h => by cases h) (by kernel_rfl) (fun _ h => by cases h) fnMoney_row_tie rfl ⟨rfl, rfl⟩ (by kernel_rfl) rfl
    (fun f fn hf hfn => by
      obtain rfl : f = 13 := Option.some.inj ((show Tryd.prog.funcNamed "loop.example/g00221/laws.FnMoney" = some 13 by kernel_rfl).symm.trans hf) |>.symm
      obtain rfl : fn = Tryd.f13 := (Option.some.inj (Tryd.func13.symm.trans hfn)).symm
      exact ⟨by kernel_rfl, fun j t ht => by
        rw [Tryd.params13] at ht
        have hm : t ∈ [57, 57] := by simpa using Array.mem_of_getElem? ht
        have hall : ([57, 57].all fun u => !Tryd.prog.wantsStandIn u) = true := by kernel_rfl
        exact (show Tryd.prog.wantsStandIn t = false by simpa using List.all_eq_true.1 hall t hm)⟩)
    (by kernel_rfl)
#print axioms proved
end Go.Proofs.YtabmljlpmnlbpaaDoor.fnMoney
namespace Go.Proofs.YtabmljlpmnlbpaaDoor
/-- The row, under a short name, for the claim. -/
theorem fnMoney_holds : Rows.FnMoneyCardSaid := fnMoney.proved
end Go.Proofs.YtabmljlpmnlbpaaDoor
