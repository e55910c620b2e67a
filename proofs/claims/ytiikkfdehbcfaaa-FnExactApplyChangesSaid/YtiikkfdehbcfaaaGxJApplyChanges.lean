/- The law FnExactApplyChanges holds of the given program: at every input that reads as data it returns true, and its arguments read behind the call as before. No condition. -/
import Derived.Test.YtiikkfdehbcfaaaGxzKW3
import Derived.Test.YtiikkfdehbcfaaaGxH1SF
import Derived.Test.YtiikkfdehbcfaaaGxEO0
import Derived.Test.YtiikkfdehbcfaaaGxEP1
namespace Go.Proofs.Ytiikkfdehbcfaaa
open Go.Gx Go.ChangeShapes Go.WideShapes Go.ChangeAt Go.RowKit

theorem reads_t2 : ReadsAs Try.prog 2 eI I64 := reads_int (by kernel_rfl) (by kernel_rfl)
theorem reads_t22 : ReadsAs Try.prog 22 (eS eI) (AllL I64) := reads_slice (by kernel_rfl) (by kernel_rfl) (by decide) eI_ok reads_t2
theorem reads_t224 : ReadsAs Try.prog 224 eXPath R.XPath := reads_struct (e := eXPath) (fs := #[⟨"Start", 2, 0, false, "", "", 0⟩, ⟨"Edges", 22, 1, false, "", "", 8⟩]) (by kernel_rfl) (by kernel_rfl) (seg_cons rfl reads_t2 (seg_one rfl reads_t22)) (fun x => ⟨x.1, x.2⟩) (fun _ => rfl) rfl _ (fun _ h => h)
theorem reads_t43 : ReadsAs Try.prog 43 (eS eXPath) (AllL R.XPath) := reads_slice (by kernel_rfl) (by kernel_rfl) (by decide) eXPath_ok reads_t224
theorem reads_t45 : ReadsAs Try.prog 45 eXSchema R.XSchema := reads_struct (e := eXSchema) (fs := #[⟨"Nodes", 2, 0, false, "", "", 0⟩, ⟨"From", 22, 1, false, "", "", 8⟩, ⟨"To", 22, 2, false, "", "", 32⟩, ⟨"Left", 43, 3, false, "", "", 56⟩, ⟨"Right", 43, 4, false, "", "", 80⟩]) (by kernel_rfl) (by kernel_rfl) (seg_cons rfl reads_t2 (seg_cons rfl reads_t22 (seg_cons rfl reads_t22 (seg_cons rfl reads_t43 (seg_one rfl reads_t43))))) (fun x => ⟨x.1, x.2.1, x.2.2.1, x.2.2.2.1, x.2.2.2.2⟩) (fun _ => rfl) rfl _ (fun _ h => h)
theorem reads_t23 : ReadsAs Try.prog 23 (eS (eS eI)) (AllL (AllL I64)) := reads_slice (by kernel_rfl) (by kernel_rfl) (by decide) (eS_ok eI_ok) reads_t22
theorem reads_t134 : ReadsAs Try.prog 134 eXChange R.XChange := reads_struct (e := eXChange) (fs := #[⟨"Kind", 2, 0, false, "", "", 0⟩, ⟨"First", 2, 1, false, "", "", 8⟩, ⟨"Second", 2, 2, false, "", "", 16⟩, ⟨"Third", 2, 3, false, "", "", 24⟩]) (by kernel_rfl) (by kernel_rfl) (seg_cons rfl reads_t2 (seg_cons rfl reads_t2 (seg_cons rfl reads_t2 (seg_one rfl reads_t2)))) (fun x => ⟨x.1, x.2.1, x.2.2.1, x.2.2.2⟩) (fun _ => rfl) rfl _ (fun _ h => h)
theorem reads_t46 : ReadsAs Try.prog 46 (eS eXChange) (AllL R.XChange) := reads_slice (by kernel_rfl) (by kernel_rfl) (by decide) eXChange_ok reads_t134

theorem args_read : ArgsAs Try.prog [45, 22, 23, 46] (fun x : XSchema × (List Int) × (List (List Int)) × (List XChange) × Unit => [.agg (eXSchema.b x.1), .sl x.2.1.length 0 (x.2.1.flatMap eI.b), .sl x.2.2.1.length 0 (x.2.2.1.flatMap (eS eI).b), .sl x.2.2.2.1.length 0 (x.2.2.2.1.flatMap eXChange.b)]) (fun x => (R.XSchema x.1) ∧ (AllL I64 x.2.1) ∧ (AllL (AllL I64) x.2.2.1) ∧ (AllL R.XChange x.2.2.2.1) ∧ True) := (args_cons (arg_agg (fs := #[⟨"Nodes", 2, 0, false, "", "", 0⟩, ⟨"From", 22, 1, false, "", "", 8⟩, ⟨"To", 22, 2, false, "", "", 32⟩, ⟨"Left", 43, 3, false, "", "", 56⟩, ⟨"Right", 43, 4, false, "", "", 80⟩]) (by kernel_rfl) reads_t45) (args_cons (arg_slice (e := 2) (by kernel_rfl) reads_t22) (args_cons (arg_slice (e := 22) (by kernel_rfl) reads_t23) (args_cons (arg_slice (e := 134) (by kernel_rfl) reads_t46) (args_nil)))))

theorem spec_shape (H : Type) : ∀ ds : List (DataW H), ds.length = 4 → Rows.fnExactApplyChangesSpec.fn H ds = ⟨[.lit (.bool true)], ds, []⟩
  | [_, _, _, _], _ => rfl

set_option maxRecDepth 100000 in
theorem lifted (os : Os) (started : os.Started) (H : Type) (enc : TypeId × Value → H) :
    ReturnsInHanded {} Try.checked os 4 .any (Rows.fnExactApplyChangesSpec.pre6 enc Try.prog Try.f4 Rows.fnExactApplyChangesRow.domain false) (Rows.fnExactApplyChangesSpec.post enc Try.prog Try.f4 false true false false) := by
  refine returnsInHanded_of_change (C := Try.checked) own started (by kernel_rfl) Try.func4
    (ChangeSpec.witness6 (enc := enc) (C := Try.checked) false ⟨#[], #[.agg #[.int .i64 0, .slice .none 0 0, .slice .none 0 0, .slice .none 0 0, .slice .none 0 0], .slice .none 0 0, .slice .none 0 0, .slice .none 0 0], []⟩ 8 (by kernel_rfl) (by kernel_rfl) (by kernel_rfl) (by kernel_rfl)) ?_
  intro W base args ds gs before hval0 hW _ _
  have hval : ∀ (j : Nat) t v, Try.f4.params[j]? = some t → args[j]? = some v → Value.okWide Try.prog W .any base t v := hval0
  have hW2 : DataW.Whole enc Try.prog Try.f4.params.toList Rows.fnExactApplyChangesSpec.vars false W args.toList ds gs before := hW
  obtain ⟨p, q, hA0, _⟩ := id hW2
  have hA : DataW.TrodAll enc Try.prog W 0 (fun _ => true) true Try.f4.params.toList args.toList ds p := hA0
  rw [Try.params4] at hA hval
  obtain ⟨x, hx, hr⟩ := args_read (fun j t v e1 e2 => hval j t v (by simpa using e1) (by simpa using e2)) hA
  exact (calls_true (WzK.laws_FnExactApplyChanges_c x.1 x.2.1 x.2.2.1 x.2.2.2.1 true (law_ApplyChanges hx.1 hx.2.1 hx.2.2.1 hx.2.2.2.1)) hr).mono fun e W' ⟨he, hb⟩ => ⟨_, he, post_true laidOut (by kernel_rfl) rfl (by kernel_rfl) rfl (n := 4) rfl (spec_shape H) hW2 hb⟩

theorem k1 : Rows.fnExactApplyChangesRow.wf (OpenSpec.ofChange Rows.fnExactApplyChangesSpec) = true := by kernel_rfl
theorem k4 : Try.f4.params.all (Try.prog.readableRec ·) = true := by kernel_rfl
theorem k5 : namedTie Try.prog Rows.fnExactApplyChangesRow.named Rows.fnExactApplyChangesSpec.vars = true := by kernel_rfl
theorem k6 : (Rows.fnExactApplyChangesRow.stops == []) = true := by kernel_rfl
theorem k8 : (Rows.fnExactApplyChangesRow.knobs == []) = true := by kernel_rfl
theorem k10 : (Rows.fnExactApplyChangesRow.inPlace == Try.prog.inPlace 4) = true := by kernel_rfl
theorem k11 : (Rows.fnExactApplyChangesRow.unfollowed == Try.prog.unfollowed 4) = true := by kernel_rfl
theorem k12 : (Rows.fnExactApplyChangesRow.recurses == Try.prog.recurses 4) = true := by kernel_rfl
theorem k13 : (Rows.fnExactApplyChangesRow.named == Try.prog.varsNamed 4) = true := by kernel_rfl
theorem k14 : (Rows.fnExactApplyChangesRow.maps == (Try.f4.params.toList ++ Rows.fnExactApplyChangesSpec.plain.varTypes Try.prog).any (Try.prog.mapsRec ·)) = true := by kernel_rfl
theorem k15 : (Rows.fnExactApplyChangesRow.ifaces == (Try.f4.params.toList ++ Rows.fnExactApplyChangesSpec.plain.varTypes Try.prog).any (Try.prog.ifacesRec ·)) = true := by kernel_rfl
theorem k16 : (Rows.fnExactApplyChangesRow.mapsOut == Try.prog.mapsAmong Try.f4.resultTypes.toList) = true := by kernel_rfl
theorem k17 : (Rows.fnExactApplyChangesRow.loops == (Try.f4.params.toList ++ Rows.fnExactApplyChangesSpec.plain.varTypes Try.prog).any (Try.prog.loopsFrom ·)) = true := by kernel_rfl
theorem k17b : (Rows.fnExactApplyChangesRow.wideKeys == (Try.f4.params.toList ++ Rows.fnExactApplyChangesSpec.plain.varTypes Try.prog ++ Try.f4.resultTypes.toList).any (Try.prog.wideKeysFrom ·)) = true := by kernel_rfl
theorem k18 : Rows.fnExactApplyChangesSpec.vars.all (Try.prog.varReadable ·) = true := by kernel_rfl
theorem k19 : Try.f4.resultTypes.all (fun t => Try.prog.readableRec t && decide (t < Try.prog.types.size)) = true := by kernel_rfl
theorem k20 : (Rows.fnExactApplyChangesRow.ifacesOut == Try.f4.resultTypes.toList.any (Try.prog.ifacesRec ·)) = true := by kernel_rfl
theorem k21 : (Rows.fnExactApplyChangesRow.loopsOut == Try.f4.resultTypes.toList.any (Try.prog.loopsFrom ·)) = true := by kernel_rfl
theorem k22 : (Rows.fnExactApplyChangesRow.plainKeys == Try.prog.plainKeys) = true := by kernel_rfl
theorem k23 : Rows.fnExactApplyChangesRow.shortTexts.isNone = true := by kernel_rfl
theorem k24b : (Rows.fnExactApplyChangesRow.lifted == Try.prog.liftsFinal) = true := by rw [seatFinal]; rfl
theorem k24c : (Try.prog.make == some Rows.fnExactApplyChangesRow.make) = true := by kernel_rfl
theorem k26 : (Rows.fnExactApplyChangesRow.pinned == Rows.fnExactApplyChangesRow.pinnedBy) = true := by kernel_rfl
theorem k27 : (Rows.fnExactApplyChangesRow.veiled == (Try.f4.params.toList ++ Rows.fnExactApplyChangesSpec.plain.varTypes Try.prog ++ Try.f4.resultTypes.toList).any (Try.prog.veiledRec ·)) = true := by kernel_rfl
theorem k28 : Rows.fnExactApplyChangesRow.veiledFits Try.prog Try.f4.params.toList (Try.f4.params.toList ++ Rows.fnExactApplyChangesSpec.plain.varTypes Try.prog ++ Try.f4.resultTypes.toList) = true := by kernel_rfl
theorem named : Try.prog.funcNamed Rows.fnExactApplyChangesRow.func = some 4 := by kernel_rfl
theorem closed : joinedFacts Try.prog 4 Try.f4 Rows.fnExactApplyChangesSpec Rows.fnExactApplyChangesRow = true := by
  simp only [joinedFacts, Bool.and_eq_true]
  exact ⟨⟨⟨⟨⟨⟨⟨⟨⟨⟨⟨⟨⟨⟨⟨⟨⟨⟨⟨⟨⟨⟨⟨⟨⟨⟨⟨⟨⟨⟨⟨k1, laidOut⟩, seatRowed⟩, k4⟩, k5⟩, k6⟩, seatStops⟩, k8⟩, seatKnobs⟩, k10⟩, k11⟩, k12⟩, k13⟩, k14⟩, k15⟩, k16⟩, k17⟩, k17b⟩, k18⟩, k19⟩, k20⟩, k21⟩, k22⟩, k23⟩, seatHeard⟩, seatEnter⟩, k24b⟩, k24c⟩, (by kernel_rfl)⟩, k26⟩, k27⟩, k28⟩

theorem inst : Try.f4.isInstance Try.prog Rows.fnExactApplyChangesRow.origin Rows.fnExactApplyChangesRow.targs := of_decide_eq_true (by kernel_rfl)
theorem wrap : Try.f4.isWrapper Try.prog Rows.fnExactApplyChangesRow.wrapper Rows.fnExactApplyChangesRow.mainSum := by unfold Func.isWrapper; first | (rw [if_pos (by decide +kernel)]; kernel_rfl) | (rw [if_neg (by decide +kernel)]; exact ⟨rfl, rfl⟩)

theorem fnExactApplyChanges : Rows.FnExactApplyChangesSaid :=
  OpenClaim.holds_of_wide 4 Try.f4 rfl rfl rfl rfl rfl rfl rfl ⟨rfl, rfl, rfl, rfl, rfl⟩ rfl rfl rfl rfl rfl named Try.func4 closed inst wrap
    (fun os started H enc _ => lifted os started H enc)
#print axioms fnExactApplyChanges
end Go.Proofs.Ytiikkfdehbcfaaa
