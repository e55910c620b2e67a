/- Walks. Printed by wip/gen. -/
import Derived.Test.YtjmjhhhglbeacaaGxvQW0
namespace Go.Proofs.Ytjmjhhhglbeacaa.WvQ
open Go.Gx Go.Proofs.Ytjmjhhhglbeacaa.WvB Go.Proofs.Ytjmjhhhglbeacaa.WvS

theorem ok29 : CallOk Try.prog 29 := callOk_of Try.func29 (by kernel_rfl) (by kernel_rfl)
theorem laws_markSetFunctor_c (a0 : XSetFunctor) (a1 : Int) (r : Int × XSetFunctor) (hM : M.laws_markSetFunctor a0 a1 = some r) :
    FnC Try.prog 29 [(101, .arr 1 (a0.Shape.From.flatMap eI.o) []), (102, .arr 1 (a0.Shape.To.flatMap eI.o) []), (103, .arr 1 (a0.Shape.Identity.flatMap eI.o) []), (104, .arr 1 (a0.Shape.Composites.flatMap (eS eI).o) []), (105, .arr 1 (a0.Sizes.flatMap eI.o) []), (106, .arr 1 (a0.Actions.flatMap (eS eI).o) [])] [.agg [iv a0.Shape.Objects, .rs 101 0 a0.Shape.From.length, .rs 102 0 a0.Shape.To.length, .rs 103 0 a0.Shape.Identity.length, .rs 104 0 a0.Shape.Composites.length, .rs 105 0 a0.Sizes.length, .rs 106 0 a0.Actions.length], iv a1] [(101, .arr 1 (r.2.Shape.From.flatMap eI.o) []), (102, .arr 1 (r.2.Shape.To.flatMap eI.o) []), (103, .arr 1 (r.2.Shape.Identity.flatMap eI.o) []), (104, .arr 1 (r.2.Shape.Composites.flatMap (eS eI).o) []), (105, .arr 1 (r.2.Sizes.flatMap eI.o) []), (106, .arr 1 (r.2.Actions.flatMap (eS eI).o) [])] (iv r.1) := by
  refine fnc_startG (N := 18) (np := 500) hT Try.func29 rfl rfl (by kernel_rfl) ?_
  unfold M.laws_markSetFunctor at hM
  refine tr_start (ks := [0, 2, 203, 205, 207, 209, 211, 213]) (st' := ([(0, .d (.agg (rsC 100 (eXSetFunctor.o a0)))), (2, .d (iv a1))] ++ rsS 100 (eXSetFunctor.o a0))) (by kernel_rfl) ?_
  refine tr_sr hT hm [] [2, 4, 203, 205, 207, 209, 211, 213, 2005] ([(2, .d (iv a1)), (4, .d (.rp 1002 0))] ++ rsS 100 (eXSetFunctor.o a0) ++ [bxO 2005 100 (eXSetFunctor.o a0)]) .nil (by kernel_rfl) (by kernel_rfl) ?_
  obtain ⟨v1, hv1, hM⟩ := bind_some' hM
  refine tr_sr hT hm [(3, .call [] [(101, 101), (102, 102), (103, 103), (104, 104)] [.agg [iv a0.Shape.Objects, .rs 101 0 a0.Shape.From.length, .rs 102 0 a0.Shape.To.length, .rs 103 0 a0.Shape.Identity.length, .rs 104 0 a0.Shape.Composites.length], iv a1] [(101, .arr 1 (v1.2.From.flatMap eI.o) []), (102, .arr 1 (v1.2.To.flatMap eI.o) []), (103, .arr 1 (v1.2.Identity.flatMap eI.o) []), (104, .arr 1 (v1.2.Composites.flatMap (eS eI).o) [])] (iv v1.1))] [2, 4, 203, 205, 207, 209, 211, 213, 2005] [(2, .d (iv v1.1)), (4, .d (.rp 1002 0)), (203, .r (.arr 1 (v1.2.From.flatMap eI.o) [])), (205, .r (.arr 1 (v1.2.To.flatMap eI.o) [])), (207, .r (.arr 1 (v1.2.Identity.flatMap eI.o) [])), (209, .r (.arr 1 (v1.2.Composites.flatMap (eS eI).o) [])), (211, .r (.arr 1 (a0.Sizes.flatMap eI.o) [])), (213, .r (.arr 1 (a0.Actions.flatMap (eS eI).o) [])), bxO 2005 100 (eXSetFunctor.o a0)] (cc (B := []) (ρ := [(101, 101), (102, 102), (103, 103), (104, 104)]) (rB := []) ok53 (laws_markCategory_c a0.Shape a1 _ hv1) (.cons (.aggA (.cons (.same rfl) (.cons (.pass (.rs rfl)) (.cons (.pass (.rs rfl)) (.cons (.pass (.rs rfl)) (.cons (.pass (.rs rfl)) .nil)))))) (.cons (.same rfl) .nil)) (.inl rfl) .nil) (by kernel_rfl) (by kernel_rfl) ?_
  refine Tr.by (imp_cvB (r := 1002) (sz := 1) (cells := [iv a0.Shape.Objects, .rs 101 0 a0.Shape.From.length, .rs 102 0 a0.Shape.To.length, .rs 103 0 a0.Shape.Identity.length, .rs 104 0 a0.Shape.Composites.length, .rs 105 0 a0.Sizes.length, .rs 106 0 a0.Actions.length]) (cells' := [iv a0.Shape.Objects, .rs 101 0 v1.2.From.length, .rs 102 0 a0.Shape.To.length, .rs 103 0 a0.Shape.Identity.length, .rs 104 0 a0.Shape.Composites.length, .rs 105 0 a0.Sizes.length, .rs 106 0 a0.Actions.length]) (refs := [101, 102, 103, 104, 105, 106]) (refs' := [101, 102, 103, 104, 105, 106]) (.cons (.refl _) (.cons (Sub.of_eq (congrArg (D.rs 101 0) ((M.len_markCategory hv1).2.1 : a0.Shape.From.length = v1.2.From.length))) (.cons (.refl _) (.cons (.refl _) (.cons (.refl _) (.cons (.refl _) (.cons (.refl _) .nil))))))) (by kernel_rfl) (by kernel_rfl) (by kernel_rfl)) ?_
  refine Tr.by (imp_cvB (r := 1002) (sz := 1) (cells := [iv a0.Shape.Objects, .rs 101 0 v1.2.From.length, .rs 102 0 a0.Shape.To.length, .rs 103 0 a0.Shape.Identity.length, .rs 104 0 a0.Shape.Composites.length, .rs 105 0 a0.Sizes.length, .rs 106 0 a0.Actions.length]) (cells' := [iv a0.Shape.Objects, .rs 101 0 v1.2.From.length, .rs 102 0 v1.2.To.length, .rs 103 0 a0.Shape.Identity.length, .rs 104 0 a0.Shape.Composites.length, .rs 105 0 a0.Sizes.length, .rs 106 0 a0.Actions.length]) (refs := [101, 102, 103, 104, 105, 106]) (refs' := [101, 102, 103, 104, 105, 106]) (.cons (.refl _) (.cons (.refl _) (.cons (Sub.of_eq (congrArg (D.rs 102 0) ((M.len_markCategory hv1).2.2.1 : a0.Shape.To.length = v1.2.To.length))) (.cons (.refl _) (.cons (.refl _) (.cons (.refl _) (.cons (.refl _) .nil))))))) (by kernel_rfl) (by kernel_rfl) (by kernel_rfl)) ?_
  refine Tr.by (imp_cvB (r := 1002) (sz := 1) (cells := [iv a0.Shape.Objects, .rs 101 0 v1.2.From.length, .rs 102 0 v1.2.To.length, .rs 103 0 a0.Shape.Identity.length, .rs 104 0 a0.Shape.Composites.length, .rs 105 0 a0.Sizes.length, .rs 106 0 a0.Actions.length]) (cells' := [iv a0.Shape.Objects, .rs 101 0 v1.2.From.length, .rs 102 0 v1.2.To.length, .rs 103 0 v1.2.Identity.length, .rs 104 0 a0.Shape.Composites.length, .rs 105 0 a0.Sizes.length, .rs 106 0 a0.Actions.length]) (refs := [101, 102, 103, 104, 105, 106]) (refs' := [101, 102, 103, 104, 105, 106]) (.cons (.refl _) (.cons (.refl _) (.cons (.refl _) (.cons (Sub.of_eq (congrArg (D.rs 103 0) ((M.len_markCategory hv1).2.2.2.1 : a0.Shape.Identity.length = v1.2.Identity.length))) (.cons (.refl _) (.cons (.refl _) (.cons (.refl _) .nil))))))) (by kernel_rfl) (by kernel_rfl) (by kernel_rfl)) ?_
  refine Tr.by (imp_cvB (r := 1002) (sz := 1) (cells := [iv a0.Shape.Objects, .rs 101 0 v1.2.From.length, .rs 102 0 v1.2.To.length, .rs 103 0 v1.2.Identity.length, .rs 104 0 a0.Shape.Composites.length, .rs 105 0 a0.Sizes.length, .rs 106 0 a0.Actions.length]) (cells' := [iv a0.Shape.Objects, .rs 101 0 v1.2.From.length, .rs 102 0 v1.2.To.length, .rs 103 0 v1.2.Identity.length, .rs 104 0 v1.2.Composites.length, .rs 105 0 a0.Sizes.length, .rs 106 0 a0.Actions.length]) (refs := [101, 102, 103, 104, 105, 106]) (refs' := [101, 102, 103, 104, 105, 106]) (.cons (.refl _) (.cons (.refl _) (.cons (.refl _) (.cons (.refl _) (.cons (Sub.of_eq (congrArg (D.rs 104 0) ((M.len_markCategory hv1).2.2.2.2 : a0.Shape.Composites.length = v1.2.Composites.length))) (.cons (.refl _) (.cons (.refl _) .nil))))))) (by kernel_rfl) (by kernel_rfl) (by kernel_rfl)) ?_
  obtain ⟨v2, hv2, hM⟩ := bind_some' hM
  refine tr_sr hT hm [(3, .call [] [(0, 105)] [.rs 0 0 a0.Sizes.length, iv v1.1] [(0, .arr 1 (v2.2.flatMap eI.o) [])] (iv v2.1))] [2, 4, 203, 205, 207, 209, 211, 213, 2005] [(2, .d (iv v2.1)), (4, .d (.rp 1002 0)), (203, .r (.arr 1 (v1.2.From.flatMap eI.o) [])), (205, .r (.arr 1 (v1.2.To.flatMap eI.o) [])), (207, .r (.arr 1 (v1.2.Identity.flatMap eI.o) [])), (209, .r (.arr 1 (v1.2.Composites.flatMap (eS eI).o) [])), (211, .r (.arr 1 (v2.2.flatMap eI.o) [])), (213, .r (.arr 1 (a0.Actions.flatMap (eS eI).o) [])), (2005, .r (.arr 1 [iv a0.Shape.Objects, .rs 101 0 v1.2.From.length, .rs 102 0 v1.2.To.length, .rs 103 0 v1.2.Identity.length, .rs 104 0 v1.2.Composites.length, .rs 105 0 a0.Sizes.length, .rs 106 0 a0.Actions.length] [101, 102, 103, 104, 105, 106]))] (cc (B := []) (ρ := [(0, 105)]) (rB := []) ok89 (laws_markInt64S_c a0.Sizes v1.1 _ hv2) (.cons (.pass (.rs rfl)) (.cons (.same rfl) .nil)) (.inl rfl) .nil) (by kernel_rfl) (by kernel_rfl) ?_
  refine Tr.by (imp_cvB (r := 1002) (sz := 1) (cells := [iv a0.Shape.Objects, .rs 101 0 v1.2.From.length, .rs 102 0 v1.2.To.length, .rs 103 0 v1.2.Identity.length, .rs 104 0 v1.2.Composites.length, .rs 105 0 a0.Sizes.length, .rs 106 0 a0.Actions.length]) (cells' := [iv a0.Shape.Objects, .rs 101 0 v1.2.From.length, .rs 102 0 v1.2.To.length, .rs 103 0 v1.2.Identity.length, .rs 104 0 v1.2.Composites.length, .rs 105 0 v2.2.length, .rs 106 0 a0.Actions.length]) (refs := [101, 102, 103, 104, 105, 106]) (refs' := [101, 102, 103, 104, 105, 106]) (.cons (.refl _) (.cons (.refl _) (.cons (.refl _) (.cons (.refl _) (.cons (.refl _) (.cons (Sub.of_eq (congrArg (D.rs 105 0) ((M.len_markInt64S hv2) : a0.Sizes.length = v2.2.length))) (.cons (.refl _) .nil))))))) (by kernel_rfl) (by kernel_rfl) (by kernel_rfl)) ?_
  obtain ⟨v3, hv3, hM⟩ := bind_some' hM
  refine tr_sr hT hm [(3, .call [] [(0, 106)] [.rs 0 0 a0.Actions.length, iv v2.1] [(0, .arr 1 (v3.2.flatMap (eS eI).o) [])] (iv v3.1))] [2, 203, 205, 207, 209, 211, 213] [(2, .d (iv v3.1)), (203, .r (.arr 1 (v1.2.From.flatMap eI.o) [])), (205, .r (.arr 1 (v1.2.To.flatMap eI.o) [])), (207, .r (.arr 1 (v1.2.Identity.flatMap eI.o) [])), (209, .r (.arr 1 (v1.2.Composites.flatMap (eS eI).o) [])), (211, .r (.arr 1 (v2.2.flatMap eI.o) [])), (213, .r (.arr 1 (v3.2.flatMap (eS eI).o) []))] (cc (B := []) (ρ := [(0, 106)]) (rB := []) ok90 (laws_markInt64SS_c a0.Actions v2.1 _ hv3) (.cons (.pass (.rs rfl)) (.cons (.same rfl) .nil)) (.inl rfl) .nil) (by kernel_rfl) (by kernel_rfl) ?_
  refine tr_sr hT hm [] [8, 203, 205, 207, 209, 211, 213] [(8, .d (iv v3.1)), (203, .r (.arr 1 (v1.2.From.flatMap eI.o) [])), (205, .r (.arr 1 (v1.2.To.flatMap eI.o) [])), (207, .r (.arr 1 (v1.2.Identity.flatMap eI.o) [])), (209, .r (.arr 1 (v1.2.Composites.flatMap (eS eI).o) [])), (211, .r (.arr 1 (v2.2.flatMap eI.o) [])), (213, .r (.arr 1 (v3.2.flatMap (eS eI).o) []))] .nil (by kernel_rfl) (by kernel_rfl) ?_
  refine tr_ret (rg_r ?_)
  obtain rfl := Option.some.inj hM
  exact retg (names := [101, 102, 103, 104, 105, 106]) .nil (by kernel_rfl)

theorem ok30 : CallOk Try.prog 30 := callOk_of Try.func30 (by kernel_rfl) (by kernel_rfl)
theorem laws_heldSetFunctor_c (a0 : XSetFunctor) (a1 : Int) (r : Int) (hM : M.laws_heldSetFunctor a0 a1 = some r) :
    FnC Try.prog 30 [] [.agg (eXSetFunctor.b a0), iv a1] [] (iv r) := by
  refine fnc_startG (N := 24) (np := 500) hT Try.func30 rfl rfl (by kernel_rfl) ?_
  unfold M.laws_heldSetFunctor at hM
  refine tr_start (ks := [0, 2]) (st' := [(0, .d (.agg (eXSetFunctor.b a0))), (2, .d (iv a1))]) (by kernel_rfl) ?_
  refine tr_sr hT hm [] [2, 4, 2005] [(2, .d (iv a1)), (4, .d (.rp 1002 0)), bxB 2005 (eXSetFunctor.b a0)] .nil (by kernel_rfl) (by kernel_rfl) ?_
  obtain ⟨v1, hv1, hM⟩ := bind_some' hM
  refine tr_sr hT hm [(3, .call [] [] [.agg (eXCategory.b a0.Shape), iv a1] [] (iv v1))] [2, 4, 2005] [(2, .d (iv v1)), (4, .d (.rp 1002 0)), bxB 2005 (eXSetFunctor.b a0)] (cc0 ok91 (laws_heldCategory_c a0.Shape a1 _ hv1) (by kernel_rfl) .nil) (by kernel_rfl) (by kernel_rfl) ?_
  refine tr_seq ?_
  refine tr_sr hT hm [] [2, 4, 20, 2005] [(2, .d (iv v1)), (4, .d (.rp 1002 0)), (20, .d (bv (decide (v1 < 0)))), bxB 2005 (eXSetFunctor.b a0)] .nil (by kernel_rfl) (by kernel_rfl) ?_
  rcases Bool.eq_false_or_eq_true (decide (v1 < 0)) with h2 | h2
  · have hM := ite_true' hM h2
    refine tr_condTe (e := decide (v1 < 0)) h2 (by kernel_rfl) ?_
    refine tr_sr hT hm [] [8] [(8, .d (iv (-1)))] .nil (by kernel_rfl) (by kernel_rfl) ?_
    refine tr_ret (q_r (rg_r ?_))
    obtain rfl := Option.some.inj hM
    exact retg (names := []) .nil (by kernel_rfl)
  · have hM := ite_false' hM h2
    refine tr_condFe (e := decide (v1 < 0)) h2 (by kernel_rfl) ?_
    refine tr_skip (q_n ?_)
    obtain ⟨v3, hv3, hM⟩ := bind_some' hM
    refine tr_sr hT hm [(3, .call [] [] [.sl a0.Sizes.length 0 (a0.Sizes.flatMap eI.b), iv v1] [] (iv v3))] [2, 4, 2005] [(2, .d (iv v3)), (4, .d (.rp 1002 0)), bxB 2005 (eXSetFunctor.b a0)] (cc0 ok92 (laws_heldInt64S_c a0.Sizes v1 _ hv3) (by kernel_rfl) .nil) (by kernel_rfl) (by kernel_rfl) ?_
    refine tr_seq ?_
    refine tr_sr hT hm [] [2, 4, 32, 2005] [(2, .d (iv v3)), (4, .d (.rp 1002 0)), (32, .d (bv (decide (v3 < 0)))), bxB 2005 (eXSetFunctor.b a0)] .nil (by kernel_rfl) (by kernel_rfl) ?_
    rcases Bool.eq_false_or_eq_true (decide (v3 < 0)) with h4 | h4
    · have hM := ite_true' hM h4
      refine tr_condTe (e := decide (v3 < 0)) h4 (by kernel_rfl) ?_
      refine tr_sr hT hm [] [8] [(8, .d (iv (-1)))] .nil (by kernel_rfl) (by kernel_rfl) ?_
      refine tr_ret (q_r (rg_r ?_))
      obtain rfl := Option.some.inj hM
      exact retg (names := []) .nil (by kernel_rfl)
    · have hM := ite_false' hM h4
      refine tr_condFe (e := decide (v3 < 0)) h4 (by kernel_rfl) ?_
      refine tr_skip (q_n ?_)
      obtain ⟨v5, hv5, hM⟩ := bind_some' hM
      refine tr_sr hT hm [(3, .call [] [] [.sl a0.Actions.length 0 (a0.Actions.flatMap (eS eI).b), iv v3] [] (iv v5))] [2] [(2, .d (iv v5))] (cc0 ok93 (laws_heldInt64SS_c a0.Actions v3 _ hv5) (by kernel_rfl) .nil) (by kernel_rfl) (by kernel_rfl) ?_
      refine tr_seq ?_
      refine tr_sr hT hm [] [2, 44] [(2, .d (iv v5)), (44, .d (bv (decide (v5 < 0))))] .nil (by kernel_rfl) (by kernel_rfl) ?_
      rcases Bool.eq_false_or_eq_true (decide (v5 < 0)) with h6 | h6
      · have hM := ite_true' hM h6
        refine tr_condTe (e := decide (v5 < 0)) h6 (by kernel_rfl) ?_
        refine tr_sr hT hm [] [8] [(8, .d (iv (-1)))] .nil (by kernel_rfl) (by kernel_rfl) ?_
        refine tr_ret (q_r (rg_r ?_))
        obtain rfl := Option.some.inj hM
        exact retg (names := []) .nil (by kernel_rfl)
      · have hM := ite_false' hM h6
        refine tr_condFe (e := decide (v5 < 0)) h6 (by kernel_rfl) ?_
        refine tr_skip (q_n ?_)
        refine tr_sr hT hm [] [8] [(8, .d (iv v5))] .nil (by kernel_rfl) (by kernel_rfl) ?_
        refine tr_ret (rg_r ?_)
        obtain rfl := Option.some.inj hM
        exact retg (names := []) .nil (by kernel_rfl)

end Go.Proofs.Ytjmjhhhglbeacaa.WvQ
