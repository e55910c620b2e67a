/- The law FnExactIsDistributiveLaw holds of the given program: at every input that reads as data it returns true, and its arguments read behind the call as before. No condition. -/
import Derived.Test.YtpfdieaiogfihaaGxw50W
import Derived.Test.YtpfdieaiogfihaaGxcSF
import Derived.Test.YtpfdieaiogfihaaGxOq
import Derived.Test.YtpfdieaiogfihaaGxQ50
namespace Go.Proofs.Ytpfdieaiogfihaa
open Go.Gx Go.ChangeShapes Go.WideShapes Go.ChangeAt Go.RowKit

theorem reads_t2 : ReadsAs Try.prog 2 eI I64 := reads_int (by kernel_rfl) (by kernel_rfl)
theorem reads_t22 : ReadsAs Try.prog 22 (eS eI) (AllL I64) := reads_slice (by kernel_rfl) (by kernel_rfl) (by decide) eI_ok reads_t2
theorem reads_t23 : ReadsAs Try.prog 23 (eS (eS eI)) (AllL (AllL I64)) := reads_slice (by kernel_rfl) (by kernel_rfl) (by decide) (eS_ok eI_ok) reads_t22
theorem reads_t25 : ReadsAs Try.prog 25 eXCategory R.XCategory := reads_struct (e := eXCategory) (fs := #[⟨"Objects", 2, 0, false, "", "", 0⟩, ⟨"From", 22, 1, false, "", "", 8⟩, ⟨"To", 22, 2, false, "", "", 32⟩, ⟨"Identity", 22, 3, false, "", "", 56⟩, ⟨"Composites", 23, 4, false, "", "", 80⟩]) (by kernel_rfl) (by kernel_rfl) (seg_cons rfl reads_t2 (seg_cons rfl reads_t22 (seg_cons rfl reads_t22 (seg_cons rfl reads_t22 (seg_one rfl reads_t23))))) (fun x => ⟨x.1, x.2.1, x.2.2.1, x.2.2.2.1, x.2.2.2.2⟩) (fun _ => rfl) rfl _ (fun _ h => h)
theorem reads_t27 : ReadsAs Try.prog 27 eXFunctor R.XFunctor := reads_struct (e := eXFunctor) (fs := #[⟨"Source", 25, 0, false, "", "", 0⟩, ⟨"Target", 25, 5, false, "", "", 104⟩, ⟨"Objects", 22, 10, false, "", "", 208⟩, ⟨"Arrows", 22, 11, false, "", "", 232⟩]) (by kernel_rfl) (by kernel_rfl) (seg_cons rfl reads_t25 (seg_cons rfl reads_t25 (seg_cons rfl reads_t22 (seg_one rfl reads_t22)))) (fun x => ⟨x.1, x.2.1, x.2.2.1, x.2.2.2⟩) (fun _ => rfl) rfl _ (fun _ h => h)
theorem reads_t29 : ReadsAs Try.prog 29 eXMonad R.XMonad := reads_struct (e := eXMonad) (fs := #[⟨"On", 27, 0, false, "", "", 0⟩, ⟨"Unit", 22, 12, false, "", "", 256⟩, ⟨"Join", 22, 13, false, "", "", 280⟩]) (by kernel_rfl) (by kernel_rfl) (seg_cons rfl reads_t27 (seg_cons rfl reads_t22 (seg_one rfl reads_t22))) (fun x => ⟨x.1, x.2.1, x.2.2⟩) (fun _ => rfl) rfl _ (fun _ h => h)

theorem args_read : ArgsAs Try.prog [29, 29, 22] (fun x : XMonad × XMonad × (List Int) × Unit => [.agg (eXMonad.b x.1), .agg (eXMonad.b x.2.1), .sl x.2.2.1.length 0 (x.2.2.1.flatMap eI.b)]) (fun x => (R.XMonad x.1) ∧ (R.XMonad x.2.1) ∧ (AllL I64 x.2.2.1) ∧ True) := (args_cons (arg_agg (fs := #[⟨"On", 27, 0, false, "", "", 0⟩, ⟨"Unit", 22, 12, false, "", "", 256⟩, ⟨"Join", 22, 13, false, "", "", 280⟩]) (by kernel_rfl) reads_t29) (args_cons (arg_agg (fs := #[⟨"On", 27, 0, false, "", "", 0⟩, ⟨"Unit", 22, 12, false, "", "", 256⟩, ⟨"Join", 22, 13, false, "", "", 280⟩]) (by kernel_rfl) reads_t29) (args_cons (arg_slice (e := 2) (by kernel_rfl) reads_t22) (args_nil))))

theorem spec_shape (H : Type) : ∀ ds : List (DataW H), ds.length = 3 → Rows.fnExactIsDistributiveLawSpec.fn H ds = ⟨[.lit (.bool true)], ds, []⟩
  | [_, _, _], _ => rfl

set_option maxRecDepth 100000 in
theorem lifted (os : Os) (started : os.Started) (H : Type) (enc : TypeId × Value → H) :
    ReturnsInHanded {} Try.checked os 13 .any (Rows.fnExactIsDistributiveLawSpec.pre6 enc Try.prog Try.f13 Rows.fnExactIsDistributiveLawRow.domain false) (Rows.fnExactIsDistributiveLawSpec.post enc Try.prog Try.f13 false true false false) := by
  refine returnsInHanded_of_change (C := Try.checked) own started (by kernel_rfl) Try.func13
    (ChangeSpec.witness6 (enc := enc) (C := Try.checked) false ⟨#[], #[.agg #[.int .i64 0, .slice .none 0 0, .slice .none 0 0, .slice .none 0 0, .slice .none 0 0, .int .i64 0, .slice .none 0 0, .slice .none 0 0, .slice .none 0 0, .slice .none 0 0, .slice .none 0 0, .slice .none 0 0, .slice .none 0 0, .slice .none 0 0], .agg #[.int .i64 0, .slice .none 0 0, .slice .none 0 0, .slice .none 0 0, .slice .none 0 0, .int .i64 0, .slice .none 0 0, .slice .none 0 0, .slice .none 0 0, .slice .none 0 0, .slice .none 0 0, .slice .none 0 0, .slice .none 0 0, .slice .none 0 0], .slice .none 0 0], []⟩ 8 (by kernel_rfl) (by kernel_rfl) (by kernel_rfl) (by kernel_rfl)) ?_
  intro W base args ds gs before hval0 hW _ _
  have hval : ∀ (j : Nat) t v, Try.f13.params[j]? = some t → args[j]? = some v → Value.okWide Try.prog W .any base t v := hval0
  have hW2 : DataW.Whole enc Try.prog Try.f13.params.toList Rows.fnExactIsDistributiveLawSpec.vars false W args.toList ds gs before := hW
  obtain ⟨p, q, hA0, _⟩ := id hW2
  have hA : DataW.TrodAll enc Try.prog W 0 (fun _ => true) true Try.f13.params.toList args.toList ds p := hA0
  rw [Try.params13] at hA hval
  obtain ⟨x, hx, hr⟩ := args_read (fun j t v e1 e2 => hval j t v (by simpa using e1) (by simpa using e2)) hA
  exact (calls_true (Ww50.laws_FnExactIsDistributiveLaw_c x.1 x.2.1 x.2.2.1 true (law_IsDistributiveLaw hx.1 hx.2.1 hx.2.2.1)) hr).mono fun e W' ⟨he, hb⟩ => ⟨_, he, post_true laidOut (by kernel_rfl) rfl (by kernel_rfl) rfl (n := 3) rfl (spec_shape H) hW2 hb⟩

theorem k1 : Rows.fnExactIsDistributiveLawRow.wf (OpenSpec.ofChange Rows.fnExactIsDistributiveLawSpec) = true := by kernel_rfl
theorem k4 : Try.f13.params.all (Try.prog.readableRec ·) = true := by kernel_rfl
theorem k5 : namedTie Try.prog Rows.fnExactIsDistributiveLawRow.named Rows.fnExactIsDistributiveLawSpec.vars = true := by kernel_rfl
theorem k6 : (Rows.fnExactIsDistributiveLawRow.stops == []) = true := by kernel_rfl
theorem k8 : (Rows.fnExactIsDistributiveLawRow.knobs == []) = true := by kernel_rfl
theorem k10 : (Rows.fnExactIsDistributiveLawRow.inPlace == Try.prog.inPlace 13) = true := by kernel_rfl
theorem k11 : (Rows.fnExactIsDistributiveLawRow.unfollowed == Try.prog.unfollowed 13) = true := by kernel_rfl
theorem k12 : (Rows.fnExactIsDistributiveLawRow.recurses == Try.prog.recurses 13) = true := by kernel_rfl
theorem k13 : (Rows.fnExactIsDistributiveLawRow.named == Try.prog.varsNamed 13) = true := by kernel_rfl
theorem k14 : (Rows.fnExactIsDistributiveLawRow.maps == (Try.f13.params.toList ++ Rows.fnExactIsDistributiveLawSpec.plain.varTypes Try.prog).any (Try.prog.mapsRec ·)) = true := by kernel_rfl
theorem k15 : (Rows.fnExactIsDistributiveLawRow.ifaces == (Try.f13.params.toList ++ Rows.fnExactIsDistributiveLawSpec.plain.varTypes Try.prog).any (Try.prog.ifacesRec ·)) = true := by kernel_rfl
theorem k16 : (Rows.fnExactIsDistributiveLawRow.mapsOut == Try.prog.mapsAmong Try.f13.resultTypes.toList) = true := by kernel_rfl
theorem k17 : (Rows.fnExactIsDistributiveLawRow.loops == (Try.f13.params.toList ++ Rows.fnExactIsDistributiveLawSpec.plain.varTypes Try.prog).any (Try.prog.loopsFrom ·)) = true := by kernel_rfl
theorem k17b : (Rows.fnExactIsDistributiveLawRow.wideKeys == (Try.f13.params.toList ++ Rows.fnExactIsDistributiveLawSpec.plain.varTypes Try.prog ++ Try.f13.resultTypes.toList).any (Try.prog.wideKeysFrom ·)) = true := by kernel_rfl
theorem k18 : Rows.fnExactIsDistributiveLawSpec.vars.all (Try.prog.varReadable ·) = true := by kernel_rfl
theorem k19 : Try.f13.resultTypes.all (fun t => Try.prog.readableRec t && decide (t < Try.prog.types.size)) = true := by kernel_rfl
theorem k20 : (Rows.fnExactIsDistributiveLawRow.ifacesOut == Try.f13.resultTypes.toList.any (Try.prog.ifacesRec ·)) = true := by kernel_rfl
theorem k21 : (Rows.fnExactIsDistributiveLawRow.loopsOut == Try.f13.resultTypes.toList.any (Try.prog.loopsFrom ·)) = true := by kernel_rfl
theorem k22 : (Rows.fnExactIsDistributiveLawRow.plainKeys == Try.prog.plainKeys) = true := by kernel_rfl
theorem k23 : Rows.fnExactIsDistributiveLawRow.shortTexts.isNone = true := by kernel_rfl
theorem k24b : (Rows.fnExactIsDistributiveLawRow.lifted == Try.prog.liftsFinal) = true := by rw [seatFinal]; rfl
theorem k24c : (Try.prog.make == some Rows.fnExactIsDistributiveLawRow.make) = true := by kernel_rfl
theorem k26 : (Rows.fnExactIsDistributiveLawRow.pinned == Rows.fnExactIsDistributiveLawRow.pinnedBy) = true := by kernel_rfl
theorem k27 : (Rows.fnExactIsDistributiveLawRow.veiled == (Try.f13.params.toList ++ Rows.fnExactIsDistributiveLawSpec.plain.varTypes Try.prog ++ Try.f13.resultTypes.toList).any (Try.prog.veiledRec ·)) = true := by kernel_rfl
theorem k28 : Rows.fnExactIsDistributiveLawRow.veiledFits Try.prog Try.f13.params.toList (Try.f13.params.toList ++ Rows.fnExactIsDistributiveLawSpec.plain.varTypes Try.prog ++ Try.f13.resultTypes.toList) = true := by kernel_rfl
theorem named : Try.prog.funcNamed Rows.fnExactIsDistributiveLawRow.func = some 13 := by kernel_rfl
theorem closed : joinedFacts Try.prog 13 Try.f13 Rows.fnExactIsDistributiveLawSpec Rows.fnExactIsDistributiveLawRow = true := by
  simp only [joinedFacts, Bool.and_eq_true]
  exact ⟨⟨⟨⟨⟨⟨⟨⟨⟨⟨⟨⟨⟨⟨⟨⟨⟨⟨⟨⟨⟨⟨⟨⟨⟨⟨⟨⟨⟨⟨⟨k1, laidOut⟩, seatRowed⟩, k4⟩, k5⟩, k6⟩, seatStops⟩, k8⟩, seatKnobs⟩, k10⟩, k11⟩, k12⟩, k13⟩, k14⟩, k15⟩, k16⟩, k17⟩, k17b⟩, k18⟩, k19⟩, k20⟩, k21⟩, k22⟩, k23⟩, seatHeard⟩, seatEnter⟩, k24b⟩, k24c⟩, (by kernel_rfl)⟩, k26⟩, k27⟩, k28⟩

theorem inst : Try.f13.isInstance Try.prog Rows.fnExactIsDistributiveLawRow.origin Rows.fnExactIsDistributiveLawRow.targs := of_decide_eq_true (by kernel_rfl)
theorem wrap : Try.f13.isWrapper Try.prog Rows.fnExactIsDistributiveLawRow.wrapper Rows.fnExactIsDistributiveLawRow.mainSum := by unfold Func.isWrapper; first | (rw [if_pos (by decide +kernel)]; kernel_rfl) | (rw [if_neg (by decide +kernel)]; exact ⟨rfl, rfl⟩)

theorem fnExactIsDistributiveLaw : Rows.FnExactIsDistributiveLawSaid :=
  OpenClaim.holds_of_wide 13 Try.f13 rfl rfl rfl rfl rfl rfl rfl ⟨rfl, rfl, rfl, rfl, rfl⟩ rfl rfl rfl rfl rfl named Try.func13 closed inst wrap
    (fun os started H enc _ => lifted os started H enc)
#print axioms fnExactIsDistributiveLaw
end Go.Proofs.Ytpfdieaiogfihaa
