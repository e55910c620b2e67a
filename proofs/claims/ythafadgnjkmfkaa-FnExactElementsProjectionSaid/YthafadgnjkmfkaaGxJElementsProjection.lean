/- The law FnExactElementsProjection holds of the given program: at every input that reads as data it returns true, and its arguments read behind the call as before. No condition. -/
import Derived.Test.YthafadgnjkmfkaaGxzEW3
import Derived.Test.YthafadgnjkmfkaaGxH6SF
import Derived.Test.YthafadgnjkmfkaaGxEO0
import Derived.Test.YthafadgnjkmfkaaGxEP1
namespace Go.Proofs.Ythafadgnjkmfkaa
open Go.Gx Go.ChangeShapes Go.WideShapes Go.ChangeAt Go.RowKit

theorem reads_t2 : ReadsAs Try.prog 2 eI I64 := reads_int (by kernel_rfl) (by kernel_rfl)
theorem reads_t22 : ReadsAs Try.prog 22 (eS eI) (AllL I64) := reads_slice (by kernel_rfl) (by kernel_rfl) (by decide) eI_ok reads_t2
theorem reads_t23 : ReadsAs Try.prog 23 (eS (eS eI)) (AllL (AllL I64)) := reads_slice (by kernel_rfl) (by kernel_rfl) (by decide) (eS_ok eI_ok) reads_t22
theorem reads_t25 : ReadsAs Try.prog 25 eXCategory R.XCategory := reads_struct (e := eXCategory) (fs := #[⟨"Objects", 2, 0, false, "", "", 0⟩, ⟨"From", 22, 1, false, "", "", 8⟩, ⟨"To", 22, 2, false, "", "", 32⟩, ⟨"Identity", 22, 3, false, "", "", 56⟩, ⟨"Composites", 23, 4, false, "", "", 80⟩]) (by kernel_rfl) (by kernel_rfl) (seg_cons rfl reads_t2 (seg_cons rfl reads_t22 (seg_cons rfl reads_t22 (seg_cons rfl reads_t22 (seg_one rfl reads_t23))))) (fun x => ⟨x.1, x.2.1, x.2.2.1, x.2.2.2.1, x.2.2.2.2⟩) (fun _ => rfl) rfl _ (fun _ h => h)
theorem reads_t27 : ReadsAs Try.prog 27 eXSetFunctor R.XSetFunctor := reads_struct (e := eXSetFunctor) (fs := #[⟨"Shape", 25, 0, false, "", "", 0⟩, ⟨"Sizes", 22, 5, false, "", "", 104⟩, ⟨"Actions", 23, 6, false, "", "", 128⟩]) (by kernel_rfl) (by kernel_rfl) (seg_cons rfl reads_t25 (seg_cons rfl reads_t22 (seg_one rfl reads_t23))) (fun x => ⟨x.1, x.2.1, x.2.2⟩) (fun _ => rfl) rfl _ (fun _ h => h)

theorem args_read : ArgsAs Try.prog [27] (fun x : XSetFunctor × Unit => [.agg (eXSetFunctor.b x.1)]) (fun x => (R.XSetFunctor x.1) ∧ True) := (args_cons (arg_agg (fs := #[⟨"Shape", 25, 0, false, "", "", 0⟩, ⟨"Sizes", 22, 5, false, "", "", 104⟩, ⟨"Actions", 23, 6, false, "", "", 128⟩]) (by kernel_rfl) reads_t27) (args_nil))

theorem spec_shape (H : Type) : ∀ ds : List (DataW H), ds.length = 1 → Rows.fnExactElementsProjectionSpec.fn H ds = ⟨[.lit (.bool true)], ds, []⟩
  | [_], _ => rfl

set_option maxRecDepth 100000 in
theorem lifted (os : Os) (started : os.Started) (H : Type) (enc : TypeId × Value → H) :
    ReturnsInHanded {} Try.checked os 3 .any (Rows.fnExactElementsProjectionSpec.pre6 enc Try.prog Try.f3 Rows.fnExactElementsProjectionRow.domain false) (Rows.fnExactElementsProjectionSpec.post enc Try.prog Try.f3 false true false false) := by
  refine returnsInHanded_of_change (C := Try.checked) own started (by kernel_rfl) Try.func3
    (ChangeSpec.witness6 (enc := enc) (C := Try.checked) false ⟨#[], #[.agg #[.int .i64 0, .slice .none 0 0, .slice .none 0 0, .slice .none 0 0, .slice .none 0 0, .slice .none 0 0, .slice .none 0 0]], []⟩ 8 (by kernel_rfl) (by kernel_rfl) (by kernel_rfl) (by kernel_rfl)) ?_
  intro W base args ds gs before hval0 hW _ _
  have hval : ∀ (j : Nat) t v, Try.f3.params[j]? = some t → args[j]? = some v → Value.okWide Try.prog W .any base t v := hval0
  have hW2 : DataW.Whole enc Try.prog Try.f3.params.toList Rows.fnExactElementsProjectionSpec.vars false W args.toList ds gs before := hW
  obtain ⟨p, q, hA0, _⟩ := id hW2
  have hA : DataW.TrodAll enc Try.prog W 0 (fun _ => true) true Try.f3.params.toList args.toList ds p := hA0
  rw [Try.params3] at hA hval
  obtain ⟨x, hx, hr⟩ := args_read (fun j t v e1 e2 => hval j t v (by simpa using e1) (by simpa using e2)) hA
  exact (calls_true (WzE.laws_FnExactElementsProjection_c x.1 true (law_ElementsProjection hx.1)) hr).mono fun e W' ⟨he, hb⟩ => ⟨_, he, post_true laidOut (by kernel_rfl) rfl (by kernel_rfl) rfl (n := 1) rfl (spec_shape H) hW2 hb⟩

theorem k1 : Rows.fnExactElementsProjectionRow.wf (OpenSpec.ofChange Rows.fnExactElementsProjectionSpec) = true := by kernel_rfl
theorem k4 : Try.f3.params.all (Try.prog.readableRec ·) = true := by kernel_rfl
theorem k5 : namedTie Try.prog Rows.fnExactElementsProjectionRow.named Rows.fnExactElementsProjectionSpec.vars = true := by kernel_rfl
theorem k6 : (Rows.fnExactElementsProjectionRow.stops == []) = true := by kernel_rfl
theorem k8 : (Rows.fnExactElementsProjectionRow.knobs == []) = true := by kernel_rfl
theorem k10 : (Rows.fnExactElementsProjectionRow.inPlace == Try.prog.inPlace 3) = true := by kernel_rfl
theorem k11 : (Rows.fnExactElementsProjectionRow.unfollowed == Try.prog.unfollowed 3) = true := by kernel_rfl
theorem k12 : (Rows.fnExactElementsProjectionRow.recurses == Try.prog.recurses 3) = true := by kernel_rfl
theorem k13 : (Rows.fnExactElementsProjectionRow.named == Try.prog.varsNamed 3) = true := by kernel_rfl
theorem k14 : (Rows.fnExactElementsProjectionRow.maps == (Try.f3.params.toList ++ Rows.fnExactElementsProjectionSpec.plain.varTypes Try.prog).any (Try.prog.mapsRec ·)) = true := by kernel_rfl
theorem k15 : (Rows.fnExactElementsProjectionRow.ifaces == (Try.f3.params.toList ++ Rows.fnExactElementsProjectionSpec.plain.varTypes Try.prog).any (Try.prog.ifacesRec ·)) = true := by kernel_rfl
theorem k16 : (Rows.fnExactElementsProjectionRow.mapsOut == Try.prog.mapsAmong Try.f3.resultTypes.toList) = true := by kernel_rfl
theorem k17 : (Rows.fnExactElementsProjectionRow.loops == (Try.f3.params.toList ++ Rows.fnExactElementsProjectionSpec.plain.varTypes Try.prog).any (Try.prog.loopsFrom ·)) = true := by kernel_rfl
theorem k17b : (Rows.fnExactElementsProjectionRow.wideKeys == (Try.f3.params.toList ++ Rows.fnExactElementsProjectionSpec.plain.varTypes Try.prog ++ Try.f3.resultTypes.toList).any (Try.prog.wideKeysFrom ·)) = true := by kernel_rfl
theorem k18 : Rows.fnExactElementsProjectionSpec.vars.all (Try.prog.varReadable ·) = true := by kernel_rfl
theorem k19 : Try.f3.resultTypes.all (fun t => Try.prog.readableRec t && decide (t < Try.prog.types.size)) = true := by kernel_rfl
theorem k20 : (Rows.fnExactElementsProjectionRow.ifacesOut == Try.f3.resultTypes.toList.any (Try.prog.ifacesRec ·)) = true := by kernel_rfl
theorem k21 : (Rows.fnExactElementsProjectionRow.loopsOut == Try.f3.resultTypes.toList.any (Try.prog.loopsFrom ·)) = true := by kernel_rfl
theorem k22 : (Rows.fnExactElementsProjectionRow.plainKeys == Try.prog.plainKeys) = true := by kernel_rfl
theorem k23 : Rows.fnExactElementsProjectionRow.shortTexts.isNone = true := by kernel_rfl
theorem k24b : (Rows.fnExactElementsProjectionRow.lifted == Try.prog.liftsFinal) = true := by rw [seatFinal]; rfl
theorem k24c : (Try.prog.make == some Rows.fnExactElementsProjectionRow.make) = true := by kernel_rfl
theorem k26 : (Rows.fnExactElementsProjectionRow.pinned == Rows.fnExactElementsProjectionRow.pinnedBy) = true := by kernel_rfl
theorem k27 : (Rows.fnExactElementsProjectionRow.veiled == (Try.f3.params.toList ++ Rows.fnExactElementsProjectionSpec.plain.varTypes Try.prog ++ Try.f3.resultTypes.toList).any (Try.prog.veiledRec ·)) = true := by kernel_rfl
theorem k28 : Rows.fnExactElementsProjectionRow.veiledFits Try.prog Try.f3.params.toList (Try.f3.params.toList ++ Rows.fnExactElementsProjectionSpec.plain.varTypes Try.prog ++ Try.f3.resultTypes.toList) = true := by kernel_rfl
theorem named : Try.prog.funcNamed Rows.fnExactElementsProjectionRow.func = some 3 := by kernel_rfl
theorem closed : joinedFacts Try.prog 3 Try.f3 Rows.fnExactElementsProjectionSpec Rows.fnExactElementsProjectionRow = true := by
  simp only [joinedFacts, Bool.and_eq_true]
  exact ⟨⟨⟨⟨⟨⟨⟨⟨⟨⟨⟨⟨⟨⟨⟨⟨⟨⟨⟨⟨⟨⟨⟨⟨⟨⟨⟨⟨⟨⟨⟨k1, laidOut⟩, seatRowed⟩, k4⟩, k5⟩, k6⟩, seatStops⟩, k8⟩, seatKnobs⟩, k10⟩, k11⟩, k12⟩, k13⟩, k14⟩, k15⟩, k16⟩, k17⟩, k17b⟩, k18⟩, k19⟩, k20⟩, k21⟩, k22⟩, k23⟩, seatHeard⟩, seatEnter⟩, k24b⟩, k24c⟩, (by kernel_rfl)⟩, k26⟩, k27⟩, k28⟩

theorem inst : Try.f3.isInstance Try.prog Rows.fnExactElementsProjectionRow.origin Rows.fnExactElementsProjectionRow.targs := of_decide_eq_true (by kernel_rfl)
theorem wrap : Try.f3.isWrapper Try.prog Rows.fnExactElementsProjectionRow.wrapper Rows.fnExactElementsProjectionRow.mainSum := by unfold Func.isWrapper; first | (rw [if_pos (by decide +kernel)]; kernel_rfl) | (rw [if_neg (by decide +kernel)]; exact ⟨rfl, rfl⟩)

theorem fnExactElementsProjection : Rows.FnExactElementsProjectionSaid :=
  OpenClaim.holds_of_wide 3 Try.f3 rfl rfl rfl rfl rfl rfl rfl ⟨rfl, rfl, rfl, rfl, rfl⟩ rfl rfl rfl rfl rfl named Try.func3 closed inst wrap
    (fun os started H enc _ => lifted os started H enc)
#print axioms fnExactElementsProjection
end Go.Proofs.Ythafadgnjkmfkaa
