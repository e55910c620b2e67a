/- The law FnExactNewJournal holds of the given program: at every input that reads as data it returns true, and its arguments read behind the call as before. No condition. -/
import Derived.Test.YtknmijgiefkijaaDoorGxdSW
import Derived.Test.YtknmijgiefkijaaDoorGxHdSF
import Derived.Test.YtknmijgiefkijaaDoorGxEO0
import Derived.Test.YtknmijgiefkijaaDoorCards
import Derived.Test.YtknmijgiefkijaaDoorTie
import Derived.LaidMore
import Derived.Stop.Joined
import Derived.SevenTiedAt
import Derived.Test.YtknmijgiefkijaaDoorGxEP1
namespace Go.Proofs.YtknmijgiefkijaaDoor
open Go.Gx Go.ChangeShapes Go.WideShapes Go.ChangeAt Go.RowKit

theorem reads_t2 : ReadsAs Tryd.prog 2 eI I64 := reads_int (by kernel_rfl) (by kernel_rfl)
theorem reads_t22 : ReadsAs Tryd.prog 22 (eS eI) (AllL I64) := reads_slice (by kernel_rfl) (by kernel_rfl) (by decide) eI_ok reads_t2
theorem reads_t48 : ReadsAs Tryd.prog 48 eXPath R.XPath := reads_struct (e := eXPath) (fs := #[⟨"Start", 2, 0, false, "", "", 0⟩, ⟨"Edges", 22, 1, false, "", "", 8⟩]) (by kernel_rfl) (by kernel_rfl) (seg_cons rfl reads_t2 (seg_one rfl reads_t22)) (fun x => ⟨x.1, x.2⟩) (fun _ => rfl) rfl _ (fun _ h => h)
theorem reads_t23 : ReadsAs Tryd.prog 23 (eS eXPath) (AllL R.XPath) := reads_slice (by kernel_rfl) (by kernel_rfl) (by decide) eXPath_ok reads_t48
theorem reads_t25 : ReadsAs Tryd.prog 25 eXSchema R.XSchema := reads_struct (e := eXSchema) (fs := #[⟨"Nodes", 2, 0, false, "", "", 0⟩, ⟨"From", 22, 1, false, "", "", 8⟩, ⟨"To", 22, 2, false, "", "", 32⟩, ⟨"Left", 23, 3, false, "", "", 56⟩, ⟨"Right", 23, 4, false, "", "", 80⟩]) (by kernel_rfl) (by kernel_rfl) (seg_cons rfl reads_t2 (seg_cons rfl reads_t22 (seg_cons rfl reads_t22 (seg_cons rfl reads_t23 (seg_one rfl reads_t23))))) (fun x => ⟨x.1, x.2.1, x.2.2.1, x.2.2.2.1, x.2.2.2.2⟩) (fun _ => rfl) rfl _ (fun _ h => h)

theorem args_read : ArgsAs Tryd.prog [25] (fun x : XSchema × Unit => [.agg (eXSchema.b x.1)]) (fun x => (R.XSchema x.1) ∧ True) := (args_cons (arg_agg (fs := #[⟨"Nodes", 2, 0, false, "", "", 0⟩, ⟨"From", 22, 1, false, "", "", 8⟩, ⟨"To", 22, 2, false, "", "", 32⟩, ⟨"Left", 23, 3, false, "", "", 56⟩, ⟨"Right", 23, 4, false, "", "", 80⟩]) (by kernel_rfl) reads_t25) (args_nil))

theorem spec_shape (H : Type) : ∀ ds : List (DataW H), ds.length = 1 → Rows.fnExactNewJournalSpec.fn H ds = ⟨[.lit (.bool true)], ds, []⟩
  | [_], _ => rfl

theorem door_met (os : Os) (args : Array Value) : laidMetH Tryd.prog Rows.fnExactNewJournalRow.laid ((World.doorLaid Tryd.prog 400 os).forCall (fun _ _ => 0) ⟨#[], args, []⟩).memory :=
  laidMetH_of_parts3 (fuel := 8) (laidMet_of_run' 8 (by kernel_rfl) (by kernel_rfl)) (by kernel_rfl) (by kernel_rfl)

set_option maxRecDepth 100000 in
theorem lifted (os : Os) (started : os.Started) (H : Type) (enc : TypeId × Value → H) :
    ReturnsInHanded {} Tryd.checked os 3 .any (fun w args => (Rows.fnExactNewJournalSpec.pre enc Tryd.prog Tryd.f3 [] false w args ∧ laidMetH Tryd.prog Rows.fnExactNewJournalRow.laid w) ∧ sizedMet enc Tryd.prog Tryd.f3 (OpenSpec.ofChange Rows.fnExactNewJournalSpec) false w args) (Rows.fnExactNewJournalSpec.post enc Tryd.prog Tryd.f3 false true false false) := by
  refine returnsInHanded_of_change_and (C := Tryd.checked) (X := fun w _ => laidMetH Tryd.prog Rows.fnExactNewJournalRow.laid w) (fun _ _ _ hh h => h.of_heap hh) own started (by kernel_rfl) Tryd.func3
    (ChangeSpec.witness_shaped (enc := enc) (C := Tryd.checked) (os := os) (X := fun w _ => laidMetH Tryd.prog Rows.fnExactNewJournalRow.laid w) false (World.doorLaid Tryd.prog 400 os) #[.agg #[.int .i64 0, .slice .none 0 0, .slice .none 0 0, .slice .none 0 0, .slice .none 0 0]] 8 rfl (World.shaped_of_RefB (by kernel_rfl) (by kernel_rfl)) (by kernel_rfl) (by kernel_rfl) (by kernel_rfl) (door_met os _)) ?_
  intro W base args ds gs before hval0 hW _ _ _ _
  have hval : ∀ (j : Nat) t v, Tryd.f3.params[j]? = some t → args[j]? = some v → Value.okWide Tryd.prog W .any base t v := hval0
  have hW2 : DataW.Whole enc Tryd.prog Tryd.f3.params.toList Rows.fnExactNewJournalSpec.vars false W args.toList ds gs before := hW
  obtain ⟨p, q, hA0, _⟩ := id hW2
  have hA : DataW.TrodAll enc Tryd.prog W 0 (fun _ => true) true Tryd.f3.params.toList args.toList ds p := hA0
  rw [Tryd.params3] at hA hval
  obtain ⟨x, hx, hr⟩ := args_read (fun j t v e1 e2 => hval j t v (by simpa using e1) (by simpa using e2)) hA
  exact (calls_true (WdS.laws_FnExactNewJournal_c x.1 true (law_NewJournal hx.1)) hr).mono fun e W' ⟨he, hb⟩ => ⟨_, he, post_true laidOut (by kernel_rfl) rfl (by kernel_rfl) rfl (n := 1) rfl (spec_shape H) hW2 hb⟩

theorem k1 : Rows.fnExactNewJournalRow.wf (OpenSpec.ofChange Rows.fnExactNewJournalSpec) = true := by kernel_rfl
theorem k4 : Tryd.f3.params.all (Tryd.prog.readableRec ·) = true := by kernel_rfl
theorem k5 : namedTie Tryd.prog Rows.fnExactNewJournalRow.named Rows.fnExactNewJournalSpec.vars = true := by kernel_rfl
theorem k6 : (Rows.fnExactNewJournalRow.stops == []) = true := by kernel_rfl
theorem k8 : (Rows.fnExactNewJournalRow.knobs == []) = true := by kernel_rfl
theorem k10 : (Rows.fnExactNewJournalRow.inPlace == Tryd.prog.inPlace 3) = true := by kernel_rfl
theorem k11 : (Rows.fnExactNewJournalRow.unfollowed == Tryd.prog.unfollowed 3) = true := by kernel_rfl
theorem k12 : (Rows.fnExactNewJournalRow.recurses == Tryd.prog.recurses 3) = true := by kernel_rfl
theorem k13 : (Rows.fnExactNewJournalRow.named == Tryd.prog.varsNamed 3) = true := by kernel_rfl
theorem k14 : (Rows.fnExactNewJournalRow.maps == (Tryd.f3.params.toList ++ Rows.fnExactNewJournalSpec.plain.varTypes Tryd.prog).any (Tryd.prog.mapsRec ·)) = true := by kernel_rfl
theorem k15 : (Rows.fnExactNewJournalRow.ifaces == (Tryd.f3.params.toList ++ Rows.fnExactNewJournalSpec.plain.varTypes Tryd.prog).any (Tryd.prog.ifacesRec ·)) = true := by kernel_rfl
theorem k16 : (Rows.fnExactNewJournalRow.mapsOut == Tryd.prog.mapsAmong Tryd.f3.resultTypes.toList) = true := by kernel_rfl
theorem k17 : (Rows.fnExactNewJournalRow.loops == (Tryd.f3.params.toList ++ Rows.fnExactNewJournalSpec.plain.varTypes Tryd.prog).any (Tryd.prog.loopsFrom ·)) = true := by kernel_rfl
theorem k17b : (Rows.fnExactNewJournalRow.wideKeys == (Tryd.f3.params.toList ++ Rows.fnExactNewJournalSpec.plain.varTypes Tryd.prog ++ Tryd.f3.resultTypes.toList).any (Tryd.prog.wideKeysFrom ·)) = true := by kernel_rfl
theorem k18 : Rows.fnExactNewJournalSpec.vars.all (Tryd.prog.varReadable ·) = true := by kernel_rfl
theorem k19 : Tryd.f3.resultTypes.all (fun t => Tryd.prog.readableRec t && decide (t < Tryd.prog.types.size)) = true := by kernel_rfl
theorem k20 : (Rows.fnExactNewJournalRow.ifacesOut == Tryd.f3.resultTypes.toList.any (Tryd.prog.ifacesRec ·)) = true := by kernel_rfl
theorem k21 : (Rows.fnExactNewJournalRow.loopsOut == Tryd.f3.resultTypes.toList.any (Tryd.prog.loopsFrom ·)) = true := by kernel_rfl
theorem k22 : (Rows.fnExactNewJournalRow.plainKeys == Tryd.prog.plainKeys) = true := by kernel_rfl
theorem k23 : Rows.fnExactNewJournalRow.shortTexts.isNone = true := by kernel_rfl
theorem k24b : (Rows.fnExactNewJournalRow.lifted == Tryd.prog.liftsFinal) = true := by rw [seatFinal]; rfl
theorem k24c : (Tryd.prog.make == some Rows.fnExactNewJournalRow.make) = true := by kernel_rfl
theorem k26 : (Rows.fnExactNewJournalRow.pinned == Rows.fnExactNewJournalRow.pinnedBy) = true := by kernel_rfl
theorem k27 : (Rows.fnExactNewJournalRow.veiled == (Tryd.f3.params.toList ++ Rows.fnExactNewJournalSpec.plain.varTypes Tryd.prog ++ Tryd.f3.resultTypes.toList).any (Tryd.prog.veiledRec ·)) = true := by kernel_rfl
theorem k28 : Rows.fnExactNewJournalRow.veiledFits Tryd.prog Tryd.f3.params.toList (Tryd.f3.params.toList ++ Rows.fnExactNewJournalSpec.plain.varTypes Tryd.prog ++ Tryd.f3.resultTypes.toList) = true := by kernel_rfl
theorem named : Tryd.prog.funcNamed Rows.fnExactNewJournalRow.func = some 3 := by kernel_rfl
theorem closed : joinedFacts Tryd.prog 3 Tryd.f3 Rows.fnExactNewJournalSpec Rows.fnExactNewJournalRow = true := by
  simp only [joinedFacts, Bool.and_eq_true]
  exact ⟨⟨⟨⟨⟨⟨⟨⟨⟨⟨⟨⟨⟨⟨⟨⟨⟨⟨⟨⟨⟨⟨⟨⟨⟨⟨⟨⟨⟨⟨⟨k1, laidOut⟩, seatRowed⟩, k4⟩, k5⟩, k6⟩, seatStops⟩, k8⟩, seatKnobs⟩, k10⟩, k11⟩, k12⟩, k13⟩, k14⟩, k15⟩, k16⟩, k17⟩, k17b⟩, k18⟩, k19⟩, k20⟩, k21⟩, k22⟩, k23⟩, seatHeard⟩, seatEnter⟩, k24b⟩, k24c⟩, (by kernel_rfl)⟩, k26⟩, k27⟩, k28⟩

theorem inst : Tryd.f3.isInstance Tryd.prog Rows.fnExactNewJournalRow.origin Rows.fnExactNewJournalRow.targs := of_decide_eq_true (by kernel_rfl)
theorem wrap : Tryd.f3.isWrapper Tryd.prog Rows.fnExactNewJournalRow.wrapper Rows.fnExactNewJournalRow.mainSum := by unfold Func.isWrapper; first | (rw [if_pos (by decide +kernel)]; kernel_rfl) | (rw [if_neg (by decide +kernel)]; exact ⟨rfl, rfl⟩)

theorem row_holds : Rows.FnExactNewJournalSaid :=
  OpenClaim.holds_of_wide 3 Tryd.f3 rfl rfl rfl rfl rfl rfl rfl ⟨rfl, rfl, rfl, rfl, rfl⟩ rfl rfl rfl rfl rfl named Tryd.func3 closed inst wrap
    (fun os started H enc _ => lifted os started H enc)
theorem fnExactNewJournal : Rows.FnExactNewJournalCardSaid :=
  Claim7.holds_tied_plain_at .later [] [.data, .data, .data] true (true, "c88e9463120d88202f97f219e50235dbd90f4dc08a9ac55328ce1862e406c07c") false
    row_holds (fun _ h => by cases h) (by kernel_rfl) (fun _ h => by cases h) fnExactNewJournal_row_tie rfl ⟨rfl, rfl⟩ (by kernel_rfl) rfl
    (fun f fn hf hfn => by
      obtain rfl : f = 3 := Option.some.inj (named.symm.trans hf) |>.symm
      obtain rfl : fn = Tryd.f3 := (Option.some.inj (Tryd.func3.symm.trans hfn)).symm
      exact ⟨by kernel_rfl, fun j t ht => by
        rw [Tryd.params3] at ht
        have hm : t ∈ [25] := by simpa using Array.mem_of_getElem? ht
        have hall : ([25].all fun u => !Tryd.prog.wantsStandIn u) = true := by kernel_rfl
        exact (show Tryd.prog.wantsStandIn t = false by simpa using List.all_eq_true.1 hall t hm)⟩)
    (by kernel_rfl)
#print axioms fnExactNewJournal
end Go.Proofs.YtknmijgiefkijaaDoor
