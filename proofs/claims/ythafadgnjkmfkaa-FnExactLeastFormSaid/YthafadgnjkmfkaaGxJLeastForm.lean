import Derived.Test.YthafadgnjkmfkaaGxzOW
import Derived.Test.YthafadgnjkmfkaaGxH6SF
import Derived.Test.YthafadgnjkmfkaaGxEO0
import Derived.Test.YthafadgnjkmfkaaGxEP1
namespace Go.Proofs.Ythafadgnjkmfkaa
open Go.Gx Go.ChangeShapes Go.WideShapes Go.ChangeAt Go.RowKit
theorem reads_t2 : ReadsAs Try.prog 2 eI I64 := reads_int (by kernel_rfl) (by kernel_rfl)
theorem reads_t22 : ReadsAs Try.prog 22 (eS eI) (AllL I64) := reads_slice (by kernel_rfl) (by kernel_rfl) (by decide) eI_ok reads_t2
theorem reads_t23 : ReadsAs Try.prog 23 (eS (eS eI)) (AllL (AllL I64)) := reads_slice (by kernel_rfl) (by kernel_rfl) (by decide) (eS_ok eI_ok) reads_t22
theorem reads_t25 : ReadsAs Try.prog 25 eXCategory R.XCategory := reads_struct (e := eXCategory) (fs := #[⟨"Objects", 2, 0, false, "", "", 0⟩, ⟨"From", 22, 1, false, "", "", 8⟩, ⟨"To", 22, 2, false, "", "", 32⟩, ⟨"Identity", 22, 3, false, "", "", 56⟩, ⟨"Composites", 23, 4, false, "", "", 80⟩]) (by kernel_rfl) (by kernel_rfl) (seg_cons rfl reads_t2 (seg_cons rfl reads_t22 (seg_cons rfl reads_t22 (seg_cons rfl reads_t22 (seg_one rfl reads_t23))))) (fun x => ⟨x.1, x.2.1, x.2.2.1, x.2.2.2.1, x.2.2.2.2⟩) (fun _ => rfl) rfl _ (fun _ h => h)
theorem args_read : ArgsAs Try.prog [25] (fun x : XCategory × Unit => [.agg (eXCategory.b x.1)]) (fun x => (R.XCategory x.1) ∧ True) := (args_cons (arg_agg (fs := #[⟨"Objects", 2, 0, false, "", "", 0⟩, ⟨"From", 22, 1, false, "", "", 8⟩, ⟨"To", 22, 2, false, "", "", 32⟩, ⟨"Identity", 22, 3, false, "", "", 56⟩, ⟨"Composites", 23, 4, false, "", "", 80⟩]) (by kernel_rfl) reads_t25) (args_nil))
theorem spec_shape (H : Type) : ∀ ds : List (DataW H), ds.length = 1 → Rows.fnExactLeastFormSpec.fn H ds = ⟨[.lit (.bool true)], ds, []⟩
  | [_], _ => rfl
set_option maxRecDepth 100000 in
theorem lifted (os : Os) (started : os.Started) (H : Type) (enc : TypeId × Value → H) :
    ReturnsInHanded {} Try.checked os 5 .any (Rows.fnExactLeastFormSpec.pre6 enc Try.prog Try.f5 Rows.fnExactLeastFormRow.domain false) (Rows.fnExactLeastFormSpec.post enc Try.prog Try.f5 false true false false) := by
  refine returnsInHanded_of_change (C := Try.checked) own started (by kernel_rfl) Try.func5
    (ChangeSpec.witness6 (enc := enc) (C := Try.checked) false ⟨#[], #[.agg #[.int .i64 0, .slice .none 0 0, .slice .none 0 0, .slice .none 0 0, .slice .none 0 0]], []⟩ 8 (by kernel_rfl) (by kernel_rfl) (by kernel_rfl) (by kernel_rfl)) ?_
  intro W base args ds gs before hval0 hW _ _
  have hval : ∀ (j : Nat) t v, Try.f5.params[j]? = some t → args[j]? = some v → Value.okWide Try.prog W .any base t v := hval0
  have hW2 : DataW.Whole enc Try.prog Try.f5.params.toList Rows.fnExactLeastFormSpec.vars false W args.toList ds gs before := hW
  obtain ⟨p, q, hA0, _⟩ := id hW2
  have hA : DataW.TrodAll enc Try.prog W 0 (fun _ => true) true Try.f5.params.toList args.toList ds p := hA0
  rw [Try.params5] at hA hval
  obtain ⟨x, hx, hr⟩ := args_read (fun j t v e1 e2 => hval j t v (by simpa using e1) (by simpa using e2)) hA
  exact (calls_true (WzO.laws_FnExactLeastForm_c x.1 true (law_LeastForm hx.1)) hr).mono fun e W' ⟨he, hb⟩ => ⟨_, he, post_true laidOut (by kernel_rfl) rfl (by kernel_rfl) rfl (n := 1) rfl (spec_shape H) hW2 hb⟩
theorem k1 : Rows.fnExactLeastFormRow.wf (OpenSpec.ofChange Rows.fnExactLeastFormSpec) = true := by kernel_rfl
theorem k4 : Try.f5.params.all (Try.prog.readableRec ·) = true := by kernel_rfl
theorem k5 : namedTie Try.prog Rows.fnExactLeastFormRow.named Rows.fnExactLeastFormSpec.vars = true := by kernel_rfl
theorem k6 : (Rows.fnExactLeastFormRow.stops == []) = true := by kernel_rfl
theorem k8 : (Rows.fnExactLeastFormRow.knobs == []) = true := by kernel_rfl
theorem k10 : (Rows.fnExactLeastFormRow.inPlace == Try.prog.inPlace 5) = true := by kernel_rfl
theorem k11 : (Rows.fnExactLeastFormRow.unfollowed == Try.prog.unfollowed 5) = true := by kernel_rfl
theorem k12 : (Rows.fnExactLeastFormRow.recurses == Try.prog.recurses 5) = true := by kernel_rfl
theorem k13 : (Rows.fnExactLeastFormRow.named == Try.prog.varsNamed 5) = true := by kernel_rfl
theorem k14 : (Rows.fnExactLeastFormRow.maps == (Try.f5.params.toList ++ Rows.fnExactLeastFormSpec.plain.varTypes Try.prog).any (Try.prog.mapsRec ·)) = true := by kernel_rfl
theorem k15 : (Rows.fnExactLeastFormRow.ifaces == (Try.f5.params.toList ++ Rows.fnExactLeastFormSpec.plain.varTypes Try.prog).any (Try.prog.ifacesRec ·)) = true := by kernel_rfl
theorem k16 : (Rows.fnExactLeastFormRow.mapsOut == Try.prog.mapsAmong Try.f5.resultTypes.toList) = true := by kernel_rfl
theorem k17 : (Rows.fnExactLeastFormRow.loops == (Try.f5.params.toList ++ Rows.fnExactLeastFormSpec.plain.varTypes Try.prog).any (Try.prog.loopsFrom ·)) = true := by kernel_rfl
theorem k17b : (Rows.fnExactLeastFormRow.wideKeys == (Try.f5.params.toList ++ Rows.fnExactLeastFormSpec.plain.varTypes Try.prog ++ Try.f5.resultTypes.toList).any (Try.prog.wideKeysFrom ·)) = true := by kernel_rfl
theorem k18 : Rows.fnExactLeastFormSpec.vars.all (Try.prog.varReadable ·) = true := by kernel_rfl
theorem k19 : Try.f5.resultTypes.all (fun t => Try.prog.readableRec t && decide (t < Try.prog.types.size)) = true := by kernel_rfl
theorem k20 : (Rows.fnExactLeastFormRow.ifacesOut == Try.f5.resultTypes.toList.any (Try.prog.ifacesRec ·)) = true := by kernel_rfl
theorem k21 : (Rows.fnExactLeastFormRow.loopsOut == Try.f5.resultTypes.toList.any (Try.prog.loopsFrom ·)) = true := by kernel_rfl
theorem k22 : (Rows.fnExactLeastFormRow.plainKeys == Try.prog.plainKeys) = true := by kernel_rfl
theorem k23 : Rows.fnExactLeastFormRow.shortTexts.isNone = true := by kernel_rfl
theorem k24b : (Rows.fnExactLeastFormRow.lifted == Try.prog.liftsFinal) = true := by rw [seatFinal]; rfl
theorem k24c : (Try.prog.make == some Rows.fnExactLeastFormRow.make) = true := by kernel_rfl
theorem k26 : (Rows.fnExactLeastFormRow.pinned == Rows.fnExactLeastFormRow.pinnedBy) = true := by kernel_rfl
theorem k27 : (Rows.fnExactLeastFormRow.veiled == (Try.f5.params.toList ++ Rows.fnExactLeastFormSpec.plain.varTypes Try.prog ++ Try.f5.resultTypes.toList).any (Try.prog.veiledRec ·)) = true := by kernel_rfl
theorem k28 : Rows.fnExactLeastFormRow.veiledFits Try.prog Try.f5.params.toList (Try.f5.params.toList ++ Rows.fnExactLeastFormSpec.plain.varTypes Try.prog ++ Try.f5.resultTypes.toList) = true := by kernel_rfl
theorem named : Try.prog.funcNamed Rows.fnExactLeastFormRow.func = some 5 := by kernel_rfl
theorem closed : joinedFacts Try.prog 5 Try.f5 Rows.fnExactLeastFormSpec Rows.fnExactLeastFormRow = true := by
  simp only [joinedFacts, Bool.and_eq_true]
  exact ⟨⟨⟨⟨⟨⟨⟨⟨⟨⟨⟨⟨⟨⟨⟨⟨⟨⟨⟨⟨⟨⟨⟨⟨⟨⟨⟨⟨⟨⟨⟨k1, laidOut⟩, seatRowed⟩, k4⟩, k5⟩, k6⟩, seatStops⟩, k8⟩, seatKnobs⟩, k10⟩, k11⟩, k12⟩, k13⟩, k14⟩, k15⟩, k16⟩, k17⟩, k17b⟩, k18⟩, k19⟩, k20⟩, k21⟩, k22⟩, k23⟩, seatHeard⟩, seatEnter⟩, k24b⟩, k24c⟩, (by kernel_rfl)⟩, k26⟩, k27⟩, k28⟩
theorem inst : Try.f5.isInstance Try.prog Rows.fnExactLeastFormRow.origin Rows.fnExactLeastFormRow.targs := of_decide_eq_true (by kernel_rfl)
theorem wrap : Try.f5.isWrapper Try.prog Rows.fnExactLeastFormRow.wrapper Rows.fnExactLeastFormRow.mainSum := by unfold Func.isWrapper; first | (rw [if_pos (by decide +kernel)]; kernel_rfl) | (rw [if_neg (by decide +kernel)]; exact ⟨rfl, rfl⟩)
theorem fnExactLeastForm : Rows.FnExactLeastFormSaid :=
  OpenClaim.holds_of_wide 5 Try.f5 rfl rfl rfl rfl rfl rfl rfl ⟨rfl, rfl, rfl, rfl, rfl⟩ rfl rfl rfl rfl rfl named Try.func5 closed inst wrap
    (fun os started H enc _ => lifted os started H enc)
#print axioms fnExactLeastForm
end Go.Proofs.Ythafadgnjkmfkaa
