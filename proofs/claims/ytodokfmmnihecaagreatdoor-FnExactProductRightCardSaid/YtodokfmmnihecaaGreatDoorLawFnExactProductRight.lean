-- laid by seedprint.py, a program of this session, over contracts that it gives by hand; Lean checks it
import Derived.Test.YtodokfmmnihecaaGreatDoorCards
import Derived.Test.YtodokfmmnihecaaGreatDoorTie
import Derived.Test.YtodokfmmnihecaaGreatDoorRows
import Derived.Test.YtodokfmmnihecaaGreatDoorPFnExactProductRightx15
import Derived.Test.YtodokfmmnihecaaGreatDoorPureFnExactProductRight
import Derived.Test.YtodokfmmnihecaaGreatDoorQOpen
import Derived.Test.YtodokfmmnihecaaGreatDoorQCard
import Derived.WalkKit
import Derived.ProofKit
import Derived.OpenShut
import Derived.ShutString
import Derived.ChangeOld
import Derived.Below
import Derived.SizedLaws
import Derived.HandedShaped
import Derived.Lay
import Derived.LaidLaws
import Derived.LaidOnce
import Derived.SevenTiedAt
import Derived.MakeChecks
namespace Go.Proofs.YtodokfmmnihecaaGreatDoor.fnExactProductRight
open Go.ChangeShapes Go.WideShapes Go.ChangeAt Go.RowKit
open Go.ChangeMaps (open_string shut_string)
open Go.Proofs.YtodokfmmnihecaaGreatDoorW.PrintWords Go.Proofs.YtodokfmmnihecaaGreatDoorW.PrintLast Go.Proofs.YtodokfmmnihecaaGreatDoorW.PrintMore
open Go.Proofs.YtodokfmmnihecaaGreatDoor.Q Go.Proofs.YtodokfmmnihecaaGreatDoor.PFnExactProductRight
set_option linter.unusedVariables false
set_option linter.unusedSimpArgs false
theorem own : ownKnob Tryz.prog.godebug = none := by kernel_rfl
theorem laidOut : laidOutB Tryz.prog = true := by kernel_rfl
set_option maxRecDepth 100000 in
set_option maxHeartbeats 4000000 in
theorem lifted (os : Os) (started : os.Started) (H : Type) (enc : TypeId × Value → H) :
    ReturnsInHanded {} Tryz.checked os 3 .any (fun w args => (Rows.fnExactProductRightSpec.pre enc Tryz.prog Tryz.f3 Rows.fnExactProductRightRow.domain false w args ∧ laidMetH Tryz.prog Rows.fnExactProductRightRow.laid w) ∧ sizedMet enc Tryz.prog Tryz.f3 (OpenSpec.ofChange Rows.fnExactProductRightSpec) false w args) (Rows.fnExactProductRightSpec.post enc Tryz.prog Tryz.f3 false true false false) := by
  refine card_lift_shaped (C := Tryz.checked) (X := fun w _ => laidMetH Tryz.prog Rows.fnExactProductRightRow.laid w) (fun _ _ _ hh h => h.of_heap hh) own started (by kernel_rfl) Tryz.func3
    (ChangeSpec.witness_shaped (enc := enc) (C := Tryz.checked) (os := os) (X := fun w _ => laidMetH Tryz.prog Rows.fnExactProductRightRow.laid w) false (World.laidAll Tryz.prog os Rows.fnExactProductRightRow.laid) #[.agg #[.string ByteArray.empty, .int .i64 0, .slice none 0 0, .slice none 0 0, .slice none 0 0, .slice none 0 0, .slice none 0 0, .slice none 0 0]] 8 (World.laidAll_os _ _ _)
      (World.shaped_of_ZipB (by kernel_rfl) (by kernel_rfl)) (by kernel_rfl) (by kernel_rfl) (by kernel_rfl)
      (by rw [MakeChecks.laidMetH_plain _ _ _ (by kernel_rfl)]; exact laidMet_laidAll _ (by kernel_rfl) (by kernel_rfl))) ?_
  intro W base args ds gs before hval0 hW hcnd hsz0 hL hshp _
  have hsz : (DataW.weightsEach Tryz.prog (Tryz.f3.params.toList ++ Rows.fnExactProductRightSpec.plain.varTypes Tryz.prog) (ds ++ gs)).all (· ≤ reachBytes) = true := hsz0
  have hval : ∀ (j : Nat) t v, Tryz.f3.params[j]? = some t → args[j]? = some v → Value.okWide Tryz.prog W .any base t v := hval0
  have hW' := hW
  obtain ⟨p, q, hA0, hV, rfl, hfz, hnd⟩ := hW
  have hA : DataW.TrodAll enc Tryz.prog W 0 (fun _ => true) true Tryz.f3.params.toList args.toList ds p := hA0
  rw [Tryz.params3] at hA hval hsz
  obtain ⟨v0, vs0, d0, ds0, p0, q0, hargs, rfl, rfl, h0, r0⟩ := trodAll_cons hA
  obtain ⟨rfl, rfl, rfl⟩ := trodAll_nil r0
  obtain rfl : args = #[v0] := by cases args; simp_all
  obtain ⟨rfl, rfl⟩ := trodVars_none hV
  obtain ⟨cs0, rfl, _⟩ := okWide_struct Tryz.underlying26 (hval 0 26 v0 rfl rfl)
  obtain ⟨cs0⟩ := cs0
  have k0 := h0
  have lt0 : ∀ x ∈ p0, x.block < W.heap.size := by obtain ⟨m, hm⟩ := k0; exact DataW.trod_lt m _ _ _ hm
  obtain ⟨fuel0, hf0⟩ := h0
  obtain ⟨x0, hK0, hF0⟩ := (opn_flat (d := (Kd.pair Kd.string (Kd.pair (Kd.int .i64) (Kd.pair (Kd.slice 9 Kd.string) (Kd.pair (Kd.slice 9 Kd.string) (Kd.pair (Kd.slice 174 k174) (Kd.pair (Kd.slice 176 k176) (Kd.pair (Kd.slice 176 k176) (Kd.slice 176 k176))))))))) Tryz.underlying26 (by kernel_rfl) (opnF_cons rfl rfl (by kernel_rfl) (opn_string Tryz.underlying9) (opnF_cons rfl rfl (by kernel_rfl) (opn_int Tryz.underlying2) (opnF_cons rfl rfl (by kernel_rfl) (opn_slice Tryz.underlying22 (by kernel_rfl) (opn_string Tryz.underlying9)) (opnF_cons rfl rfl (by kernel_rfl) (opn_slice Tryz.underlying22 (by kernel_rfl) (opn_string Tryz.underlying9)) (opnF_cons rfl rfl (by kernel_rfl) (opn_slice Tryz.underlying23 (by kernel_rfl) (opn_struct (d := (Kd.pair Kd.string (Kd.pair (Kd.int .i64) (Kd.pair (Kd.int .i64) (Kd.int .i64))))) Tryz.underlying174 (by kernel_rfl) (opnF_cons rfl rfl (by kernel_rfl) (opn_string Tryz.underlying9) (opnF_cons rfl rfl (by kernel_rfl) (opn_int Tryz.underlying2) (opnF_cons rfl rfl (by kernel_rfl) (opn_int Tryz.underlying2) (opnF_one rfl rfl (by kernel_rfl) (opn_int Tryz.underlying2))))) (fun x : S174 => (x.f0, x.f1, x.f2, x.f3)) (fun x => ⟨x.1, x.2.1, x.2.2.1, x.2.2.2⟩) (fun _ => rfl) : Opn Tryz.prog 174 k174 _)) (opnF_cons rfl rfl (by kernel_rfl) (opn_slice Tryz.underlying24 (by kernel_rfl) (opn_struct (d := (Kd.pair (Kd.int .i64) (Kd.pair Kd.string (Kd.pair Kd.string (Kd.pair (Kd.int .i64) (Kd.int .i64)))))) Tryz.underlying176 (by kernel_rfl) (opnF_cons rfl rfl (by kernel_rfl) (opn_int Tryz.underlying2) (opnF_cons rfl rfl (by kernel_rfl) (opn_string Tryz.underlying9) (opnF_cons rfl rfl (by kernel_rfl) (opn_string Tryz.underlying9) (opnF_cons rfl rfl (by kernel_rfl) (opn_int Tryz.underlying2) (opnF_one rfl rfl (by kernel_rfl) (opn_int Tryz.underlying2)))))) (fun x : S176 => (x.f0, x.f1, x.f2, x.f3, x.f4)) (fun x => ⟨x.1, x.2.1, x.2.2.1, x.2.2.2.1, x.2.2.2.2⟩) (fun _ => rfl) : Opn Tryz.prog 176 k176 _)) (opnF_cons rfl rfl (by kernel_rfl) (opn_slice Tryz.underlying24 (by kernel_rfl) (opn_struct (d := (Kd.pair (Kd.int .i64) (Kd.pair Kd.string (Kd.pair Kd.string (Kd.pair (Kd.int .i64) (Kd.int .i64)))))) Tryz.underlying176 (by kernel_rfl) (opnF_cons rfl rfl (by kernel_rfl) (opn_int Tryz.underlying2) (opnF_cons rfl rfl (by kernel_rfl) (opn_string Tryz.underlying9) (opnF_cons rfl rfl (by kernel_rfl) (opn_string Tryz.underlying9) (opnF_cons rfl rfl (by kernel_rfl) (opn_int Tryz.underlying2) (opnF_one rfl rfl (by kernel_rfl) (opn_int Tryz.underlying2)))))) (fun x : S176 => (x.f0, x.f1, x.f2, x.f3, x.f4)) (fun x => ⟨x.1, x.2.1, x.2.2.1, x.2.2.2.1, x.2.2.2.2⟩) (fun _ => rfl) : Opn Tryz.prog 176 k176 _)) (opnF_one rfl rfl (by kernel_rfl) (opn_slice Tryz.underlying24 (by kernel_rfl) (opn_struct (d := (Kd.pair (Kd.int .i64) (Kd.pair Kd.string (Kd.pair Kd.string (Kd.pair (Kd.int .i64) (Kd.int .i64)))))) Tryz.underlying176 (by kernel_rfl) (opnF_cons rfl rfl (by kernel_rfl) (opn_int Tryz.underlying2) (opnF_cons rfl rfl (by kernel_rfl) (opn_string Tryz.underlying9) (opnF_cons rfl rfl (by kernel_rfl) (opn_string Tryz.underlying9) (opnF_cons rfl rfl (by kernel_rfl) (opn_int Tryz.underlying2) (opnF_one rfl rfl (by kernel_rfl) (opn_int Tryz.underlying2)))))) (fun x : S176 => (x.f0, x.f1, x.f2, x.f3, x.f4)) (fun x => ⟨x.1, x.2.1, x.2.2.1, x.2.2.2.1, x.2.2.2.2⟩) (fun _ => rfl) : Opn Tryz.prog 176 k176 _))))))))))) hf0
  replace hK0 : Kd.K (Kd.pair Kd.string (Kd.pair (Kd.int .i64) (Kd.pair (Kd.slice 9 Kd.string) (Kd.pair (Kd.slice 9 Kd.string) (Kd.pair (Kd.slice 174 k174) (Kd.pair (Kd.slice 176 k176) (Kd.pair (Kd.slice 176 k176) (Kd.slice 176 k176)))))))) W x0 cs0 := hK0
  obtain ⟨a0_0, ⟨a0_1, ⟨l0_2, ⟨l0_3, ⟨l0_4, ⟨l0_5, ⟨l0_6, l0_7⟩⟩⟩⟩⟩⟩⟩ := x0
  obtain ⟨_, _, rfl, rfl, ⟨_, _, rfl, rfl, ⟨_, _, rfl, ⟨A0_2, c0_2, rfl, hc0_2, hC0_2⟩, ⟨_, _, rfl, ⟨A0_3, c0_3, rfl, hc0_3, hC0_3⟩, ⟨_, _, rfl, ⟨A0_4, c0_4, rfl, hc0_4, hC0_4⟩, ⟨_, _, rfl, ⟨A0_5, c0_5, rfl, hc0_5, hC0_5⟩, ⟨_, _, rfl, ⟨A0_6, c0_6, rfl, hc0_6, hC0_6⟩, ⟨A0_7, c0_7, rfl, hc0_7, hC0_7⟩⟩⟩⟩⟩⟩⟩⟩ := hK0
  obtain ⟨w0_0, ⟨w0_1, ⟨w0_2, ⟨w0_3, ⟨w0_4, ⟨w0_5, ⟨w0_6, w0_7⟩⟩⟩⟩⟩⟩⟩ := hF0
  rw [MakeChecks.laidMetH_plain _ _ _ (by kernel_rfl)] at hL
  clear hA0 hval0 hsz0 hsz
  obtain ⟨k, h⟩ := Pure.FnExactProductRight a0_0 a0_1 l0_2 l0_3 l0_4 l0_5 l0_6 l0_7 w0_0 w0_1 w0_2 w0_3 w0_4 w0_5 w0_6 w0_7
  show Calls Tryz.prog 3 #[.agg #[.string a0_0, .int .i64 a0_1, .slice A0_2 l0_2.length c0_2, .slice A0_3 l0_3.length c0_3, .slice A0_4 l0_4.length c0_4, .slice A0_5 l0_5.length c0_5, .slice A0_6 l0_6.length c0_6, .slice A0_7 l0_7.length c0_7]] W _
  refine (laws_FnExactProductRight.calls k a0_0 a0_1 A0_2 c0_2 l0_2 A0_3 c0_3 l0_3 A0_4 c0_4 l0_4 A0_5 c0_5 l0_5 A0_6 c0_6 l0_6 A0_7 c0_7 l0_7 true W hC0_2 hc0_2 hC0_3 hc0_3 hC0_4 hc0_4 hC0_5 hc0_5 hC0_6 hc0_6 hC0_7 hc0_7 (Sh.of hshp) h).mono ?_
  rintro e W' ⟨rfl, bel0⟩
  have bel : Below W.heap.size W W' := bel0
  exact ⟨_, rfl, _, _, _, [], _, [], hW', trodAll_mk1 (shut_bool Tryz.underlying4 _), (trodAll_cons_mk (Below.trod laidOut (by kernel_rfl) (of_decide_eq_true (by kernel_rfl)) k0 bel lt0) trodAll_mk0), rfl, bel.frame _, fun h => by cases h⟩
theorem band {a b : Bool} (x : a = true) (y : b = true) : (a && b) = true := by rw [x, y]; rfl
theorem fact_0 : (Rows.fnExactProductRightRow.wf (OpenSpec.ofChange Rows.fnExactProductRightSpec) : Bool) = true := by kernel_rfl
theorem fact_1 : (laidOutB Tryz.pinned.checked.prog : Bool) = true := by kernel_rfl
theorem fact_2 : (mapsRowed Tryz.pinned.checked.prog : Bool) = true := by kernel_rfl
theorem fact_3 : (Tryz.f3.params.all (Tryz.pinned.checked.prog.readableRec ·) : Bool) = true := by kernel_rfl
theorem fact_4 : (namedTie Tryz.pinned.checked.prog Rows.fnExactProductRightRow.named Rows.fnExactProductRightSpec.vars : Bool) = true := by kernel_rfl
theorem fact_5 : ((Rows.fnExactProductRightRow.stops == []) : Bool) = true := by kernel_rfl
theorem fact_6 : ((Tryz.pinned.checked.prog.stops == []) : Bool) = true := by kernel_rfl
theorem fact_7 : ((Rows.fnExactProductRightRow.knobs == []) : Bool) = true := by kernel_rfl
theorem fact_8 : ((Tryz.pinned.checked.prog.stopKnobs == []) : Bool) = true := by kernel_rfl
theorem fact_9 : ((Rows.fnExactProductRightRow.inPlace == Tryz.pinned.checked.prog.inPlace 3) : Bool) = true := by kernel_rfl
theorem fact_10 : ((Rows.fnExactProductRightRow.unfollowed == Tryz.pinned.checked.prog.unfollowed 3) : Bool) = true := by kernel_rfl
theorem fact_11 : ((Rows.fnExactProductRightRow.recurses == Tryz.pinned.checked.prog.recurses 3) : Bool) = true := by kernel_rfl
theorem fact_12 : ((Rows.fnExactProductRightRow.named == Tryz.pinned.checked.prog.varsNamed 3) : Bool) = true := by kernel_rfl
theorem fact_13 : ((Rows.fnExactProductRightRow.maps == (Tryz.f3.params.toList ++ Rows.fnExactProductRightSpec.plain.varTypes Tryz.pinned.checked.prog).any (Tryz.pinned.checked.prog.mapsRec ·)) : Bool) = true := by kernel_rfl
theorem fact_14 : ((Rows.fnExactProductRightRow.ifaces == (Tryz.f3.params.toList ++ Rows.fnExactProductRightSpec.plain.varTypes Tryz.pinned.checked.prog).any (Tryz.pinned.checked.prog.ifacesRec ·)) : Bool) = true := by kernel_rfl
theorem fact_15 : ((Rows.fnExactProductRightRow.mapsOut == Tryz.pinned.checked.prog.mapsAmong Tryz.f3.resultTypes.toList) : Bool) = true := by kernel_rfl
theorem fact_16 : ((Rows.fnExactProductRightRow.loops == (Tryz.f3.params.toList ++ Rows.fnExactProductRightSpec.plain.varTypes Tryz.pinned.checked.prog).any (Tryz.pinned.checked.prog.loopsFrom ·)) : Bool) = true := by kernel_rfl
theorem fact_17 : ((Rows.fnExactProductRightRow.wideKeys == (Tryz.f3.params.toList ++ Rows.fnExactProductRightSpec.plain.varTypes Tryz.pinned.checked.prog ++ Tryz.f3.resultTypes.toList).any (Tryz.pinned.checked.prog.wideKeysFrom ·)) : Bool) = true := by kernel_rfl
theorem fact_18 : (Rows.fnExactProductRightSpec.vars.all (Tryz.pinned.checked.prog.varReadable ·) : Bool) = true := by kernel_rfl
theorem fact_19 : (Tryz.f3.resultTypes.all (fun t => Tryz.pinned.checked.prog.readableRec t && decide (t < Tryz.pinned.checked.prog.types.size)) : Bool) = true := by kernel_rfl
theorem fact_20 : ((Rows.fnExactProductRightRow.ifacesOut == Tryz.f3.resultTypes.toList.any (Tryz.pinned.checked.prog.ifacesRec ·)) : Bool) = true := by kernel_rfl
theorem fact_21 : ((Rows.fnExactProductRightRow.loopsOut == Tryz.f3.resultTypes.toList.any (Tryz.pinned.checked.prog.loopsFrom ·)) : Bool) = true := by kernel_rfl
theorem fact_22 : ((Rows.fnExactProductRightRow.plainKeys == Tryz.pinned.checked.prog.plainKeys) : Bool) = true := by kernel_rfl
theorem fact_23 : (Rows.fnExactProductRightRow.shortTexts.isNone : Bool) = true := by kernel_rfl
theorem fact_24 : (Tryz.pinned.checked.prog.stopsHeard : Bool) = true := by kernel_rfl
theorem fact_25 : (Tryz.pinned.checked.prog.mayEnter : Bool) = true := by kernel_rfl
theorem fact_26 : ((Rows.fnExactProductRightRow.lifted == Tryz.pinned.checked.prog.liftsFinal) : Bool) = true := by kernel_rfl
theorem fact_27 : ((Tryz.pinned.checked.prog.make == some Rows.fnExactProductRightRow.make) : Bool) = true := by kernel_rfl
theorem fact_28 : ((Rows.fnExactProductRightRow.kinds == (if Rows.fnExactProductRightRow.domain.isEmpty then [] else Tryz.f3.params.toList.map fun t => match Tryz.pinned.checked.prog.underlying t with | some (.int k) => some k | _ => none)) : Bool) = true := by kernel_rfl
theorem fact_29 : ((Rows.fnExactProductRightRow.pinned == Rows.fnExactProductRightRow.pinnedBy) : Bool) = true := by kernel_rfl
theorem fact_30 : ((Rows.fnExactProductRightRow.veiled == (Tryz.f3.params.toList ++ Rows.fnExactProductRightSpec.plain.varTypes Tryz.pinned.checked.prog ++ Tryz.f3.resultTypes.toList).any (Tryz.pinned.checked.prog.veiledRec ·)) : Bool) = true := by kernel_rfl
theorem fact_31 : (Rows.fnExactProductRightRow.veiledFits Tryz.pinned.checked.prog Tryz.f3.params.toList (Tryz.f3.params.toList ++ Rows.fnExactProductRightSpec.plain.varTypes Tryz.pinned.checked.prog ++ Tryz.f3.resultTypes.toList) : Bool) = true := by kernel_rfl
set_option maxRecDepth 100000 in
set_option maxHeartbeats 4000000 in
theorem closed : joinedFacts Tryz.pinned.checked.prog 3 Tryz.f3 Rows.fnExactProductRightSpec Rows.fnExactProductRightRow = true := band (band (band (band (band (band (band (band (band (band (band (band (band (band (band (band (band (band (band (band (band (band (band (band (band (band (band (band (band (band (band (fact_0) fact_1) fact_2) fact_3) fact_4) fact_5) fact_6) fact_7) fact_8) fact_9) fact_10) fact_11) fact_12) fact_13) fact_14) fact_15) fact_16) fact_17) fact_18) fact_19) fact_20) fact_21) fact_22) fact_23) fact_24) fact_25) fact_26) fact_27) fact_28) fact_29) fact_30) fact_31
theorem over : Rows.fnExactProductRightRow.holds Tryz.pinned (OpenSpec.ofChange Rows.fnExactProductRightSpec) :=
  OpenClaim.holds_of_wide 3 Tryz.f3 rfl rfl rfl rfl rfl rfl rfl ⟨rfl, rfl, rfl, rfl, rfl⟩ rfl rfl rfl rfl rfl (by kernel_rfl) Tryz.func3 closed
    (of_decide_eq_true (by kernel_rfl)) (by unfold Func.isWrapper; first | (rw [if_pos (by decide +kernel)]; kernel_rfl) | (rw [if_neg (by decide +kernel)]; exact ⟨rfl, rfl⟩))
    (fun os started H enc _ => lifted os started H enc)
theorem proved : Rows.FnExactProductRightCardSaid :=
  Claim7.holds_tied_plain_at .later [] [.data, .pinned] true (true, "dfc9b6bd8b9f44c8602e2c5acae741785819d46f98435b7a29db98393543abd8") false over (fun _ h => by cases h) (by kernel_rfl) (fun _ h => by cases h) fnExactProductRight_row_tie rfl ⟨rfl, rfl⟩ (by kernel_rfl) rfl
    (fun f fn hf hfn => by
      obtain rfl : f = 3 := Option.some.inj ((show Tryz.prog.funcNamed "loop.example/g00221/laws.FnExactProductRight" = some 3 by kernel_rfl).symm.trans hf) |>.symm
      obtain rfl : fn = Tryz.f3 := (Option.some.inj (Tryz.func3.symm.trans hfn)).symm
      exact ⟨by kernel_rfl, fun j t ht => by
        rw [Tryz.params3] at ht
        have hm : t ∈ [26] := by simpa using Array.mem_of_getElem? ht
        have hall : ([26].all fun u => !Tryz.prog.wantsStandIn u) = true := by kernel_rfl
        exact (show Tryz.prog.wantsStandIn t = false by simpa using List.all_eq_true.1 hall t hm)⟩)
    (by kernel_rfl)
#print axioms proved
end Go.Proofs.YtodokfmmnihecaaGreatDoor.fnExactProductRight
namespace Go.Proofs.YtodokfmmnihecaaGreatDoor
/-- The row, under a short name, for the claim. -/
theorem fnExactProductRight_holds : Rows.FnExactProductRightCardSaid := fnExactProductRight.proved
end Go.Proofs.YtodokfmmnihecaaGreatDoor
