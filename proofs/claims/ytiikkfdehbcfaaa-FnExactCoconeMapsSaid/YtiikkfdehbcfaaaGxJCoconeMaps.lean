/- The law FnExactCoconeMaps holds of the given program: at every input that reads as data it returns true, and its arguments read behind the call as before. No condition. -/
import Derived.Test.YtiikkfdehbcfaaaGxz23W1
import Derived.Test.YtiikkfdehbcfaaaGxH1SF
import Derived.Test.YtiikkfdehbcfaaaGxEO0
import Derived.Test.YtiikkfdehbcfaaaGxEP5
namespace Go.Proofs.Ytiikkfdehbcfaaa
open Go.Gx Go.ChangeShapes Go.WideShapes Go.ChangeAt Go.RowKit

theorem reads_t2 : ReadsAs Try.prog 2 eI I64 := reads_int (by kernel_rfl) (by kernel_rfl)
theorem reads_t22 : ReadsAs Try.prog 22 (eS eI) (AllL I64) := reads_slice (by kernel_rfl) (by kernel_rfl) (by decide) eI_ok reads_t2
theorem reads_t23 : ReadsAs Try.prog 23 (eS (eS eI)) (AllL (AllL I64)) := reads_slice (by kernel_rfl) (by kernel_rfl) (by decide) (eS_ok eI_ok) reads_t22
theorem reads_t25 : ReadsAs Try.prog 25 eXCategory R.XCategory := reads_struct (e := eXCategory) (fs := #[⟨"Objects", 2, 0, false, "", "", 0⟩, ⟨"From", 22, 1, false, "", "", 8⟩, ⟨"To", 22, 2, false, "", "", 32⟩, ⟨"Identity", 22, 3, false, "", "", 56⟩, ⟨"Composites", 23, 4, false, "", "", 80⟩]) (by kernel_rfl) (by kernel_rfl) (seg_cons rfl reads_t2 (seg_cons rfl reads_t22 (seg_cons rfl reads_t22 (seg_cons rfl reads_t22 (seg_one rfl reads_t23))))) (fun x => ⟨x.1, x.2.1, x.2.2.1, x.2.2.2.1, x.2.2.2.2⟩) (fun _ => rfl) rfl _ (fun _ h => h)
theorem reads_t27 : ReadsAs Try.prog 27 eXFunctor R.XFunctor := reads_struct (e := eXFunctor) (fs := #[⟨"Source", 25, 0, false, "", "", 0⟩, ⟨"Target", 25, 5, false, "", "", 104⟩, ⟨"Objects", 22, 10, false, "", "", 208⟩, ⟨"Arrows", 22, 11, false, "", "", 232⟩]) (by kernel_rfl) (by kernel_rfl) (seg_cons rfl reads_t25 (seg_cons rfl reads_t25 (seg_cons rfl reads_t22 (seg_one rfl reads_t22)))) (fun x => ⟨x.1, x.2.1, x.2.2.1, x.2.2.2⟩) (fun _ => rfl) rfl _ (fun _ h => h)
theorem reads_t29 : ReadsAs Try.prog 29 eXCone R.XCone := reads_struct (e := eXCone) (fs := #[⟨"Apex", 2, 0, false, "", "", 0⟩, ⟨"Legs", 22, 1, false, "", "", 8⟩]) (by kernel_rfl) (by kernel_rfl) (seg_cons rfl reads_t2 (seg_one rfl reads_t22)) (fun x => ⟨x.1, x.2⟩) (fun _ => rfl) rfl _ (fun _ h => h)

theorem args_read : ArgsAs Try.prog [27, 29, 29] (fun x : XFunctor × XCone × XCone × Unit => [.agg (eXFunctor.b x.1), .agg (eXCone.b x.2.1), .agg (eXCone.b x.2.2.1)]) (fun x => (R.XFunctor x.1) ∧ (R.XCone x.2.1) ∧ (R.XCone x.2.2.1) ∧ True) := (args_cons (arg_agg (fs := #[⟨"Source", 25, 0, false, "", "", 0⟩, ⟨"Target", 25, 5, false, "", "", 104⟩, ⟨"Objects", 22, 10, false, "", "", 208⟩, ⟨"Arrows", 22, 11, false, "", "", 232⟩]) (by kernel_rfl) reads_t27) (args_cons (arg_agg (fs := #[⟨"Apex", 2, 0, false, "", "", 0⟩, ⟨"Legs", 22, 1, false, "", "", 8⟩]) (by kernel_rfl) reads_t29) (args_cons (arg_agg (fs := #[⟨"Apex", 2, 0, false, "", "", 0⟩, ⟨"Legs", 22, 1, false, "", "", 8⟩]) (by kernel_rfl) reads_t29) (args_nil))))

theorem spec_shape (H : Type) : ∀ ds : List (DataW H), ds.length = 3 → Rows.fnExactCoconeMapsSpec.fn H ds = ⟨[.lit (.bool true)], ds, []⟩
  | [_, _, _], _ => rfl

set_option maxRecDepth 100000 in
theorem lifted (os : Os) (started : os.Started) (H : Type) (enc : TypeId × Value → H) :
    ReturnsInHanded {} Try.checked os 9 .any (Rows.fnExactCoconeMapsSpec.pre6 enc Try.prog Try.f9 Rows.fnExactCoconeMapsRow.domain false) (Rows.fnExactCoconeMapsSpec.post enc Try.prog Try.f9 false true false false) := by
  refine returnsInHanded_of_change (C := Try.checked) own started (by kernel_rfl) Try.func9
    (ChangeSpec.witness6 (enc := enc) (C := Try.checked) false ⟨#[], #[.agg #[.int .i64 0, .slice .none 0 0, .slice .none 0 0, .slice .none 0 0, .slice .none 0 0, .int .i64 0, .slice .none 0 0, .slice .none 0 0, .slice .none 0 0, .slice .none 0 0, .slice .none 0 0, .slice .none 0 0], .agg #[.int .i64 0, .slice .none 0 0], .agg #[.int .i64 0, .slice .none 0 0]], []⟩ 8 (by kernel_rfl) (by kernel_rfl) (by kernel_rfl) (by kernel_rfl)) ?_
  intro W base args ds gs before hval0 hW _ _
  have hval : ∀ (j : Nat) t v, Try.f9.params[j]? = some t → args[j]? = some v → Value.okWide Try.prog W .any base t v := hval0
  have hW2 : DataW.Whole enc Try.prog Try.f9.params.toList Rows.fnExactCoconeMapsSpec.vars false W args.toList ds gs before := hW
  obtain ⟨p, q, hA0, _⟩ := id hW2
  have hA : DataW.TrodAll enc Try.prog W 0 (fun _ => true) true Try.f9.params.toList args.toList ds p := hA0
  rw [Try.params9] at hA hval
  obtain ⟨x, hx, hr⟩ := args_read (fun j t v e1 e2 => hval j t v (by simpa using e1) (by simpa using e2)) hA
  exact (calls_true (Wz23.laws_FnExactCoconeMaps_c x.1 x.2.1 x.2.2.1 true (law_CoconeMaps hx.1 hx.2.1 hx.2.2.1)) hr).mono fun e W' ⟨he, hb⟩ => ⟨_, he, post_true laidOut (by kernel_rfl) rfl (by kernel_rfl) rfl (n := 3) rfl (spec_shape H) hW2 hb⟩

theorem k1 : Rows.fnExactCoconeMapsRow.wf (OpenSpec.ofChange Rows.fnExactCoconeMapsSpec) = true := by kernel_rfl
theorem k4 : Try.f9.params.all (Try.prog.readableRec ·) = true := by kernel_rfl
theorem k5 : namedTie Try.prog Rows.fnExactCoconeMapsRow.named Rows.fnExactCoconeMapsSpec.vars = true := by kernel_rfl
theorem k6 : (Rows.fnExactCoconeMapsRow.stops == []) = true := by kernel_rfl
theorem k8 : (Rows.fnExactCoconeMapsRow.knobs == []) = true := by kernel_rfl
theorem k10 : (Rows.fnExactCoconeMapsRow.inPlace == Try.prog.inPlace 9) = true := by kernel_rfl
theorem k11 : (Rows.fnExactCoconeMapsRow.unfollowed == Try.prog.unfollowed 9) = true := by kernel_rfl
theorem k12 : (Rows.fnExactCoconeMapsRow.recurses == Try.prog.recurses 9) = true := by kernel_rfl
theorem k13 : (Rows.fnExactCoconeMapsRow.named == Try.prog.varsNamed 9) = true := by kernel_rfl
theorem k14 : (Rows.fnExactCoconeMapsRow.maps == (Try.f9.params.toList ++ Rows.fnExactCoconeMapsSpec.plain.varTypes Try.prog).any (Try.prog.mapsRec ·)) = true := by kernel_rfl
theorem k15 : (Rows.fnExactCoconeMapsRow.ifaces == (Try.f9.params.toList ++ Rows.fnExactCoconeMapsSpec.plain.varTypes Try.prog).any (Try.prog.ifacesRec ·)) = true := by kernel_rfl
theorem k16 : (Rows.fnExactCoconeMapsRow.mapsOut == Try.prog.mapsAmong Try.f9.resultTypes.toList) = true := by kernel_rfl
theorem k17 : (Rows.fnExactCoconeMapsRow.loops == (Try.f9.params.toList ++ Rows.fnExactCoconeMapsSpec.plain.varTypes Try.prog).any (Try.prog.loopsFrom ·)) = true := by kernel_rfl
theorem k17b : (Rows.fnExactCoconeMapsRow.wideKeys == (Try.f9.params.toList ++ Rows.fnExactCoconeMapsSpec.plain.varTypes Try.prog ++ Try.f9.resultTypes.toList).any (Try.prog.wideKeysFrom ·)) = true := by kernel_rfl
theorem k18 : Rows.fnExactCoconeMapsSpec.vars.all (Try.prog.varReadable ·) = true := by kernel_rfl
theorem k19 : Try.f9.resultTypes.all (fun t => Try.prog.readableRec t && decide (t < Try.prog.types.size)) = true := by kernel_rfl
theorem k20 : (Rows.fnExactCoconeMapsRow.ifacesOut == Try.f9.resultTypes.toList.any (Try.prog.ifacesRec ·)) = true := by kernel_rfl
theorem k21 : (Rows.fnExactCoconeMapsRow.loopsOut == Try.f9.resultTypes.toList.any (Try.prog.loopsFrom ·)) = true := by kernel_rfl
theorem k22 : (Rows.fnExactCoconeMapsRow.plainKeys == Try.prog.plainKeys) = true := by kernel_rfl
theorem k23 : Rows.fnExactCoconeMapsRow.shortTexts.isNone = true := by kernel_rfl
theorem k24b : (Rows.fnExactCoconeMapsRow.lifted == Try.prog.liftsFinal) = true := by rw [seatFinal]; rfl
theorem k24c : (Try.prog.make == some Rows.fnExactCoconeMapsRow.make) = true := by kernel_rfl
theorem k26 : (Rows.fnExactCoconeMapsRow.pinned == Rows.fnExactCoconeMapsRow.pinnedBy) = true := by kernel_rfl
theorem k27 : (Rows.fnExactCoconeMapsRow.veiled == (Try.f9.params.toList ++ Rows.fnExactCoconeMapsSpec.plain.varTypes Try.prog ++ Try.f9.resultTypes.toList).any (Try.prog.veiledRec ·)) = true := by kernel_rfl
theorem k28 : Rows.fnExactCoconeMapsRow.veiledFits Try.prog Try.f9.params.toList (Try.f9.params.toList ++ Rows.fnExactCoconeMapsSpec.plain.varTypes Try.prog ++ Try.f9.resultTypes.toList) = true := by kernel_rfl
theorem named : Try.prog.funcNamed Rows.fnExactCoconeMapsRow.func = some 9 := by kernel_rfl
theorem closed : joinedFacts Try.prog 9 Try.f9 Rows.fnExactCoconeMapsSpec Rows.fnExactCoconeMapsRow = true := by
  simp only [joinedFacts, Bool.and_eq_true]
  exact ⟨⟨⟨⟨⟨⟨⟨⟨⟨⟨⟨⟨⟨⟨⟨⟨⟨⟨⟨⟨⟨⟨⟨⟨⟨⟨⟨⟨⟨⟨⟨k1, laidOut⟩, seatRowed⟩, k4⟩, k5⟩, k6⟩, seatStops⟩, k8⟩, seatKnobs⟩, k10⟩, k11⟩, k12⟩, k13⟩, k14⟩, k15⟩, k16⟩, k17⟩, k17b⟩, k18⟩, k19⟩, k20⟩, k21⟩, k22⟩, k23⟩, seatHeard⟩, seatEnter⟩, k24b⟩, k24c⟩, (by kernel_rfl)⟩, k26⟩, k27⟩, k28⟩

theorem inst : Try.f9.isInstance Try.prog Rows.fnExactCoconeMapsRow.origin Rows.fnExactCoconeMapsRow.targs := of_decide_eq_true (by kernel_rfl)
theorem wrap : Try.f9.isWrapper Try.prog Rows.fnExactCoconeMapsRow.wrapper Rows.fnExactCoconeMapsRow.mainSum := by unfold Func.isWrapper; first | (rw [if_pos (by decide +kernel)]; kernel_rfl) | (rw [if_neg (by decide +kernel)]; exact ⟨rfl, rfl⟩)

theorem fnExactCoconeMaps : Rows.FnExactCoconeMapsSaid :=
  OpenClaim.holds_of_wide 9 Try.f9 rfl rfl rfl rfl rfl rfl rfl ⟨rfl, rfl, rfl, rfl, rfl⟩ rfl rfl rfl rfl rfl named Try.func9 closed inst wrap
    (fun os started H enc _ => lifted os started H enc)
#print axioms fnExactCoconeMaps
end Go.Proofs.Ytiikkfdehbcfaaa
