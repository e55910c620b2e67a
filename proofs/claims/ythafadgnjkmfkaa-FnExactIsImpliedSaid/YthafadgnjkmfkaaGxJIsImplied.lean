/- The law FnExactIsImplied holds of the given program: at every input that reads as data it returns true, and its arguments read behind the call as before. No condition. -/
import Derived.Test.YthafadgnjkmfkaaGxzIW5
import Derived.Test.YthafadgnjkmfkaaGxH6SF
import Derived.Test.YthafadgnjkmfkaaGxEO0
import Derived.Test.YthafadgnjkmfkaaGxEP2
namespace Go.Proofs.Ythafadgnjkmfkaa
open Go.Gx Go.ChangeShapes Go.WideShapes Go.ChangeAt Go.RowKit

theorem reads_t2 : ReadsAs Try.prog 2 eI I64 := reads_int (by kernel_rfl) (by kernel_rfl)
theorem reads_t22 : ReadsAs Try.prog 22 (eS eI) (AllL I64) := reads_slice (by kernel_rfl) (by kernel_rfl) (by decide) eI_ok reads_t2
theorem reads_t23 : ReadsAs Try.prog 23 (eS (eS eI)) (AllL (AllL I64)) := reads_slice (by kernel_rfl) (by kernel_rfl) (by decide) (eS_ok eI_ok) reads_t22
theorem reads_t25 : ReadsAs Try.prog 25 eXCategory R.XCategory := reads_struct (e := eXCategory) (fs := #[⟨"Objects", 2, 0, false, "", "", 0⟩, ⟨"From", 22, 1, false, "", "", 8⟩, ⟨"To", 22, 2, false, "", "", 32⟩, ⟨"Identity", 22, 3, false, "", "", 56⟩, ⟨"Composites", 23, 4, false, "", "", 80⟩]) (by kernel_rfl) (by kernel_rfl) (seg_cons rfl reads_t2 (seg_cons rfl reads_t22 (seg_cons rfl reads_t22 (seg_cons rfl reads_t22 (seg_one rfl reads_t23))))) (fun x => ⟨x.1, x.2.1, x.2.2.1, x.2.2.2.1, x.2.2.2.2⟩) (fun _ => rfl) rfl _ (fun _ h => h)
theorem reads_t46 : ReadsAs Try.prog 46 eXTerm R.XTerm := reads_struct (e := eXTerm) (fs := #[⟨"Variable", 2, 0, false, "", "", 0⟩, ⟨"Arrow", 2, 1, false, "", "", 8⟩]) (by kernel_rfl) (by kernel_rfl) (seg_cons rfl reads_t2 (seg_one rfl reads_t2)) (fun x => ⟨x.1, x.2⟩) (fun _ => rfl) rfl _ (fun _ h => h)
theorem reads_t42 : ReadsAs Try.prog 42 (eS eXTerm) (AllL R.XTerm) := reads_slice (by kernel_rfl) (by kernel_rfl) (by decide) eXTerm_ok reads_t46
theorem reads_t44 : ReadsAs Try.prog 44 eXQuery R.XQuery := reads_struct (e := eXQuery) (fs := #[⟨"Variables", 22, 0, false, "", "", 0⟩, ⟨"Left", 42, 1, false, "", "", 24⟩, ⟨"Right", 42, 2, false, "", "", 48⟩, ⟨"Output", 22, 3, false, "", "", 72⟩]) (by kernel_rfl) (by kernel_rfl) (seg_cons rfl reads_t22 (seg_cons rfl reads_t42 (seg_cons rfl reads_t42 (seg_one rfl reads_t22)))) (fun x => ⟨x.1, x.2.1, x.2.2.1, x.2.2.2⟩) (fun _ => rfl) rfl _ (fun _ h => h)

theorem args_read : ArgsAs Try.prog [25, 44, 46, 46] (fun x : XCategory × XQuery × XTerm × XTerm × Unit => [.agg (eXCategory.b x.1), .agg (eXQuery.b x.2.1), .agg (eXTerm.b x.2.2.1), .agg (eXTerm.b x.2.2.2.1)]) (fun x => (R.XCategory x.1) ∧ (R.XQuery x.2.1) ∧ (R.XTerm x.2.2.1) ∧ (R.XTerm x.2.2.2.1) ∧ True) := (args_cons (arg_agg (fs := #[⟨"Objects", 2, 0, false, "", "", 0⟩, ⟨"From", 22, 1, false, "", "", 8⟩, ⟨"To", 22, 2, false, "", "", 32⟩, ⟨"Identity", 22, 3, false, "", "", 56⟩, ⟨"Composites", 23, 4, false, "", "", 80⟩]) (by kernel_rfl) reads_t25) (args_cons (arg_agg (fs := #[⟨"Variables", 22, 0, false, "", "", 0⟩, ⟨"Left", 42, 1, false, "", "", 24⟩, ⟨"Right", 42, 2, false, "", "", 48⟩, ⟨"Output", 22, 3, false, "", "", 72⟩]) (by kernel_rfl) reads_t44) (args_cons (arg_agg (fs := #[⟨"Variable", 2, 0, false, "", "", 0⟩, ⟨"Arrow", 2, 1, false, "", "", 8⟩]) (by kernel_rfl) reads_t46) (args_cons (arg_agg (fs := #[⟨"Variable", 2, 0, false, "", "", 0⟩, ⟨"Arrow", 2, 1, false, "", "", 8⟩]) (by kernel_rfl) reads_t46) (args_nil)))))

theorem spec_shape (H : Type) : ∀ ds : List (DataW H), ds.length = 4 → Rows.fnExactIsImpliedSpec.fn H ds = ⟨[.lit (.bool true)], ds, []⟩
  | [_, _, _, _], _ => rfl

set_option maxRecDepth 100000 in
theorem lifted (os : Os) (started : os.Started) (H : Type) (enc : TypeId × Value → H) :
    ReturnsInHanded {} Try.checked os 4 .any (Rows.fnExactIsImpliedSpec.pre6 enc Try.prog Try.f4 Rows.fnExactIsImpliedRow.domain false) (Rows.fnExactIsImpliedSpec.post enc Try.prog Try.f4 false true false false) := by
  refine returnsInHanded_of_change (C := Try.checked) own started (by kernel_rfl) Try.func4
    (ChangeSpec.witness6 (enc := enc) (C := Try.checked) false ⟨#[], #[.agg #[.int .i64 0, .slice .none 0 0, .slice .none 0 0, .slice .none 0 0, .slice .none 0 0], .agg #[.slice .none 0 0, .slice .none 0 0, .slice .none 0 0, .slice .none 0 0], .agg #[.int .i64 0, .int .i64 0], .agg #[.int .i64 0, .int .i64 0]], []⟩ 8 (by kernel_rfl) (by kernel_rfl) (by kernel_rfl) (by kernel_rfl)) ?_
  intro W base args ds gs before hval0 hW _ _
  have hval : ∀ (j : Nat) t v, Try.f4.params[j]? = some t → args[j]? = some v → Value.okWide Try.prog W .any base t v := hval0
  have hW2 : DataW.Whole enc Try.prog Try.f4.params.toList Rows.fnExactIsImpliedSpec.vars false W args.toList ds gs before := hW
  obtain ⟨p, q, hA0, _⟩ := id hW2
  have hA : DataW.TrodAll enc Try.prog W 0 (fun _ => true) true Try.f4.params.toList args.toList ds p := hA0
  rw [Try.params4] at hA hval
  obtain ⟨x, hx, hr⟩ := args_read (fun j t v e1 e2 => hval j t v (by simpa using e1) (by simpa using e2)) hA
  exact (calls_true (WzI.laws_FnExactIsImplied_c x.1 x.2.1 x.2.2.1 x.2.2.2.1 true (law_IsImplied hx.1 hx.2.1 hx.2.2.1 hx.2.2.2.1)) hr).mono fun e W' ⟨he, hb⟩ => ⟨_, he, post_true laidOut (by kernel_rfl) rfl (by kernel_rfl) rfl (n := 4) rfl (spec_shape H) hW2 hb⟩

theorem k1 : Rows.fnExactIsImpliedRow.wf (OpenSpec.ofChange Rows.fnExactIsImpliedSpec) = true := by kernel_rfl
theorem k4 : Try.f4.params.all (Try.prog.readableRec ·) = true := by kernel_rfl
theorem k5 : namedTie Try.prog Rows.fnExactIsImpliedRow.named Rows.fnExactIsImpliedSpec.vars = true := by kernel_rfl
theorem k6 : (Rows.fnExactIsImpliedRow.stops == []) = true := by kernel_rfl
theorem k8 : (Rows.fnExactIsImpliedRow.knobs == []) = true := by kernel_rfl
theorem k10 : (Rows.fnExactIsImpliedRow.inPlace == Try.prog.inPlace 4) = true := by kernel_rfl
theorem k11 : (Rows.fnExactIsImpliedRow.unfollowed == Try.prog.unfollowed 4) = true := by kernel_rfl
theorem k12 : (Rows.fnExactIsImpliedRow.recurses == Try.prog.recurses 4) = true := by kernel_rfl
theorem k13 : (Rows.fnExactIsImpliedRow.named == Try.prog.varsNamed 4) = true := by kernel_rfl
theorem k14 : (Rows.fnExactIsImpliedRow.maps == (Try.f4.params.toList ++ Rows.fnExactIsImpliedSpec.plain.varTypes Try.prog).any (Try.prog.mapsRec ·)) = true := by kernel_rfl
theorem k15 : (Rows.fnExactIsImpliedRow.ifaces == (Try.f4.params.toList ++ Rows.fnExactIsImpliedSpec.plain.varTypes Try.prog).any (Try.prog.ifacesRec ·)) = true := by kernel_rfl
theorem k16 : (Rows.fnExactIsImpliedRow.mapsOut == Try.prog.mapsAmong Try.f4.resultTypes.toList) = true := by kernel_rfl
theorem k17 : (Rows.fnExactIsImpliedRow.loops == (Try.f4.params.toList ++ Rows.fnExactIsImpliedSpec.plain.varTypes Try.prog).any (Try.prog.loopsFrom ·)) = true := by kernel_rfl
theorem k17b : (Rows.fnExactIsImpliedRow.wideKeys == (Try.f4.params.toList ++ Rows.fnExactIsImpliedSpec.plain.varTypes Try.prog ++ Try.f4.resultTypes.toList).any (Try.prog.wideKeysFrom ·)) = true := by kernel_rfl
theorem k18 : Rows.fnExactIsImpliedSpec.vars.all (Try.prog.varReadable ·) = true := by kernel_rfl
theorem k19 : Try.f4.resultTypes.all (fun t => Try.prog.readableRec t && decide (t < Try.prog.types.size)) = true := by kernel_rfl
theorem k20 : (Rows.fnExactIsImpliedRow.ifacesOut == Try.f4.resultTypes.toList.any (Try.prog.ifacesRec ·)) = true := by kernel_rfl
theorem k21 : (Rows.fnExactIsImpliedRow.loopsOut == Try.f4.resultTypes.toList.any (Try.prog.loopsFrom ·)) = true := by kernel_rfl
theorem k22 : (Rows.fnExactIsImpliedRow.plainKeys == Try.prog.plainKeys) = true := by kernel_rfl
theorem k23 : Rows.fnExactIsImpliedRow.shortTexts.isNone = true := by kernel_rfl
theorem k24b : (Rows.fnExactIsImpliedRow.lifted == Try.prog.liftsFinal) = true := by rw [seatFinal]; rfl
theorem k24c : (Try.prog.make == some Rows.fnExactIsImpliedRow.make) = true := by kernel_rfl
theorem k26 : (Rows.fnExactIsImpliedRow.pinned == Rows.fnExactIsImpliedRow.pinnedBy) = true := by kernel_rfl
theorem k27 : (Rows.fnExactIsImpliedRow.veiled == (Try.f4.params.toList ++ Rows.fnExactIsImpliedSpec.plain.varTypes Try.prog ++ Try.f4.resultTypes.toList).any (Try.prog.veiledRec ·)) = true := by kernel_rfl
theorem k28 : Rows.fnExactIsImpliedRow.veiledFits Try.prog Try.f4.params.toList (Try.f4.params.toList ++ Rows.fnExactIsImpliedSpec.plain.varTypes Try.prog ++ Try.f4.resultTypes.toList) = true := by kernel_rfl
theorem named : Try.prog.funcNamed Rows.fnExactIsImpliedRow.func = some 4 := by kernel_rfl
theorem closed : joinedFacts Try.prog 4 Try.f4 Rows.fnExactIsImpliedSpec Rows.fnExactIsImpliedRow = true := by
  simp only [joinedFacts, Bool.and_eq_true]
  exact ⟨⟨⟨⟨⟨⟨⟨⟨⟨⟨⟨⟨⟨⟨⟨⟨⟨⟨⟨⟨⟨⟨⟨⟨⟨⟨⟨⟨⟨⟨⟨k1, laidOut⟩, seatRowed⟩, k4⟩, k5⟩, k6⟩, seatStops⟩, k8⟩, seatKnobs⟩, k10⟩, k11⟩, k12⟩, k13⟩, k14⟩, k15⟩, k16⟩, k17⟩, k17b⟩, k18⟩, k19⟩, k20⟩, k21⟩, k22⟩, k23⟩, seatHeard⟩, seatEnter⟩, k24b⟩, k24c⟩, (by kernel_rfl)⟩, k26⟩, k27⟩, k28⟩

theorem inst : Try.f4.isInstance Try.prog Rows.fnExactIsImpliedRow.origin Rows.fnExactIsImpliedRow.targs := of_decide_eq_true (by kernel_rfl)
theorem wrap : Try.f4.isWrapper Try.prog Rows.fnExactIsImpliedRow.wrapper Rows.fnExactIsImpliedRow.mainSum := by unfold Func.isWrapper; first | (rw [if_pos (by decide +kernel)]; kernel_rfl) | (rw [if_neg (by decide +kernel)]; exact ⟨rfl, rfl⟩)

theorem fnExactIsImplied : Rows.FnExactIsImpliedSaid :=
  OpenClaim.holds_of_wide 4 Try.f4 rfl rfl rfl rfl rfl rfl rfl ⟨rfl, rfl, rfl, rfl, rfl⟩ rfl rfl rfl rfl rfl named Try.func4 closed inst wrap
    (fun os started H enc _ => lifted os started H enc)
#print axioms fnExactIsImplied
end Go.Proofs.Ythafadgnjkmfkaa
