/- Walks. Printed by wip/gen. -/
import Derived.Test.YtjmjhhhglbeacaaGxy32W
namespace Go.Proofs.Ytjmjhhhglbeacaa.Wy32
open Go.Gx Go.Proofs.Ytjmjhhhglbeacaa.WvB Go.Proofs.Ytjmjhhhglbeacaa.WvS Go.Proofs.Ytjmjhhhglbeacaa.WvH Go.Proofs.Ytjmjhhhglbeacaa.WvI

theorem ok105 : CallOk Try.prog 105 := callOk_of Try.func105 (by kernel_rfl) (by kernel_rfl)
theorem laws_szCategoryS_c (a0 : List XCategory) (a1 : Int) (r : Int) (hM : M.laws_szCategoryS a0 a1 = some r) :
    FnC Try.prog 105 [] [.sl a0.length 0 (a0.flatMap eXCategory.b), iv a1] [] (iv r) := by
  refine fnc_startG (N := 27) (np := 500) hT Try.func105 rfl rfl (by kernel_rfl) ?_
  unfold M.laws_szCategoryS at hM
  refine tr_start (ks := [0, 2]) (st' := [(0, .d (.sl a0.length 0 (a0.flatMap eXCategory.b))), (2, .d (iv a1))]) (by kernel_rfl) ?_
  refine tr_sr hT hm [] [0, 2] [(0, .d (.sl a0.length 0 (a0.flatMap eXCategory.b))), (2, .d (iv a1))] .nil (by kernel_rfl) (by kernel_rfl) ?_
  refine tr_sr hT hm [] [0, 2] [(0, .d (.sl a0.length 0 (a0.flatMap eXCategory.b))), (2, .d (iv (IntKind.i64.wrap (a1 - (a0.length : Int)))))] .nil (by kernel_rfl) (by kernel_rfl) ?_
  refine tr_seq ?_
  refine tr_sr hT hm [] [0, 2, 22] [(0, .d (.sl a0.length 0 (a0.flatMap eXCategory.b))), (2, .d (iv (IntKind.i64.wrap (a1 - (a0.length : Int))))), (22, .d (bv (decide ((IntKind.i64.wrap (a1 - (a0.length : Int))) < 0))))] .nil (by kernel_rfl) (by kernel_rfl) ?_
  rcases Bool.eq_false_or_eq_true (decide ((IntKind.i64.wrap (a1 - (a0.length : Int))) < 0)) with h1 | h1
  · have hM := ite_true' hM h1
    refine tr_condTe (e := decide ((IntKind.i64.wrap (a1 - (a0.length : Int))) < 0)) h1 (by kernel_rfl) ?_
    refine tr_sr hT hm [] [8] [(8, .d (iv (-1)))] .nil (by kernel_rfl) (by kernel_rfl) ?_
    refine tr_ret (q_r (rg_r ?_))
    obtain rfl := Option.some.inj hM
    exact retg (names := []) .nil (by kernel_rfl)
  · have hM := ite_false' hM h1
    refine tr_condFe (e := decide ((IntKind.i64.wrap (a1 - (a0.length : Int))) < 0)) h1 (by kernel_rfl) ?_
    refine tr_skip (q_n ?_)
    refine tr_seq ?_
    refine tr_sr hT hm [] [0, 2, 10] [(0, .d (.sl a0.length 0 (a0.flatMap eXCategory.b))), (2, .d (iv (IntKind.i64.wrap (a1 - (a0.length : Int))))), (10, .d (iv 0))] .nil (by kernel_rfl) (by kernel_rfl) ?_
    refine tr_block ?_
    refine tr_iterS (fun (s2 : Int × Int) => [(0, .d (.sl a0.length 0 (a0.flatMap eXCategory.b))), (2, .d (iv s2.1)), (10, .d (iv s2.2))]) (IntKind.i64.wrap (a1 - (a0.length : Int)), 0) [0, 2, 10] (by kernel_rfl) hM ?_
    intro n5 next3 ih4 s2 hM
    refine tr_seq ?_
    refine tr_sr hT hm [] [0, 2, 10, 30] [(0, .d (.sl a0.length 0 (a0.flatMap eXCategory.b))), (2, .d (iv s2.1)), (10, .d (iv s2.2)), (30, .d (bv (decide (s2.2 < (a0.length : Int)))))] .nil (by kernel_rfl) (by kernel_rfl) ?_
    rcases Bool.eq_false_or_eq_true (decide (s2.2 < (a0.length : Int))) with h6 | h6
    · have hM := ite_true' hM h6
      refine tr_condTe (e := decide (s2.2 < (a0.length : Int))) h6 (by kernel_rfl) ?_
      refine tr_skip (q_n ?_)
      refine tr_seq ?_
      refine tr_block ?_
      obtain ⟨y7, hy7, hM⟩ := bind_some' hM
      have hy7' := idx_some hy7
      obtain ⟨v8, hv8, hM⟩ := bind_some' hM
      refine tr_sr hT hm [(3, .val (.agg [iv y7.Objects, .sl y7.From.length 0 (y7.From.flatMap eI.b), .sl y7.To.length 0 (y7.To.flatMap eI.b), .sl y7.Identity.length 0 (y7.Identity.flatMap eI.b), .sl y7.Composites.length 0 (y7.Composites.flatMap (eS eI).b)])), (5, .call [] [] [.agg (eXCategory.b y7), iv s2.1] [] (iv v8))] [0, 2, 10] [(0, .d (.sl a0.length 0 (a0.flatMap eXCategory.b))), (2, .d (iv v8)), (10, .d (iv s2.2))] (.cons hy7'.1 (.cons hy7'.2.1 (.cons (sub_b eXCategory_ok hy7'.2.2) (cc0 ok47 (laws_szCategory_c y7 s2.1 _ hv8) (by kernel_rfl) .nil)))) (by kernel_rfl) (by kernel_rfl) ?_
      refine tr_sr hT hm [] [0, 2, 10, 50] [(0, .d (.sl a0.length 0 (a0.flatMap eXCategory.b))), (2, .d (iv v8)), (10, .d (iv s2.2)), (50, .d (bv (decide (v8 < 0))))] .nil (by kernel_rfl) (by kernel_rfl) ?_
      rcases Bool.eq_false_or_eq_true (decide (v8 < 0)) with h9 | h9
      · have hM := ite_true' hM h9
        refine tr_condTe (e := decide (v8 < 0)) h9 (by kernel_rfl) ?_
        refine tr_sr hT hm [] [8] [(8, .d (iv (-1)))] .nil (by kernel_rfl) (by kernel_rfl) ?_
        refine tr_ret (b_r (q_r (l_r (b_r (q_r (rg_r ?_))))))
        obtain rfl := Option.some.inj hM
        exact retg (names := []) .nil (by kernel_rfl)
      · have hM := ite_false' hM h9
        refine tr_condFe (e := decide (v8 < 0)) h9 (by kernel_rfl) ?_
        refine tr_skip (b_n (q_n ?_))
        refine tr_r hT hm [] [0, 2, 10] [(0, .d (.sl a0.length 0 (a0.flatMap eXCategory.b))), (2, .d (iv v8)), (10, .d (iv (IntKind.i64.wrap (s2.2 + 1))))] .nil (by kernel_rfl) (by kernel_rfl) (l_n ?_)
        exact trl_start (ks := [0, 2, 10]) (by kernel_rfl) (ih4 (v8, IntKind.i64.wrap (s2.2 + 1)) hM)
    · have hM := ite_false' hM h6
      refine tr_condFe (e := decide (s2.2 < (a0.length : Int))) h6 (by kernel_rfl) ?_
      refine tr_exit (q_x (l_x (b_h (q_n ?_))))
      refine tr_sr hT hm [] [8] [(8, .d (iv s2.1))] .nil (by kernel_rfl) (by kernel_rfl) ?_
      refine tr_ret (rg_r ?_)
      obtain rfl := Option.some.inj hM
      exact retg (names := []) .nil (by kernel_rfl)

theorem ok106 : CallOk Try.prog 106 := callOk_of Try.func106 (by kernel_rfl) (by kernel_rfl)
theorem laws_szFunctorS_c (a0 : List XFunctor) (a1 : Int) (r : Int) (hM : M.laws_szFunctorS a0 a1 = some r) :
    FnC Try.prog 106 [] [.sl a0.length 0 (a0.flatMap eXFunctor.b), iv a1] [] (iv r) := by
  refine fnc_startG (N := 27) (np := 500) hT Try.func106 rfl rfl (by kernel_rfl) ?_
  unfold M.laws_szFunctorS at hM
  refine tr_start (ks := [0, 2]) (st' := [(0, .d (.sl a0.length 0 (a0.flatMap eXFunctor.b))), (2, .d (iv a1))]) (by kernel_rfl) ?_
  refine tr_sr hT hm [] [0, 2] [(0, .d (.sl a0.length 0 (a0.flatMap eXFunctor.b))), (2, .d (iv a1))] .nil (by kernel_rfl) (by kernel_rfl) ?_
  refine tr_sr hT hm [] [0, 2] [(0, .d (.sl a0.length 0 (a0.flatMap eXFunctor.b))), (2, .d (iv (IntKind.i64.wrap (a1 - (a0.length : Int)))))] .nil (by kernel_rfl) (by kernel_rfl) ?_
  refine tr_seq ?_
  refine tr_sr hT hm [] [0, 2, 22] [(0, .d (.sl a0.length 0 (a0.flatMap eXFunctor.b))), (2, .d (iv (IntKind.i64.wrap (a1 - (a0.length : Int))))), (22, .d (bv (decide ((IntKind.i64.wrap (a1 - (a0.length : Int))) < 0))))] .nil (by kernel_rfl) (by kernel_rfl) ?_
  rcases Bool.eq_false_or_eq_true (decide ((IntKind.i64.wrap (a1 - (a0.length : Int))) < 0)) with h1 | h1
  · have hM := ite_true' hM h1
    refine tr_condTe (e := decide ((IntKind.i64.wrap (a1 - (a0.length : Int))) < 0)) h1 (by kernel_rfl) ?_
    refine tr_sr hT hm [] [8] [(8, .d (iv (-1)))] .nil (by kernel_rfl) (by kernel_rfl) ?_
    refine tr_ret (q_r (rg_r ?_))
    obtain rfl := Option.some.inj hM
    exact retg (names := []) .nil (by kernel_rfl)
  · have hM := ite_false' hM h1
    refine tr_condFe (e := decide ((IntKind.i64.wrap (a1 - (a0.length : Int))) < 0)) h1 (by kernel_rfl) ?_
    refine tr_skip (q_n ?_)
    refine tr_seq ?_
    refine tr_sr hT hm [] [0, 2, 10] [(0, .d (.sl a0.length 0 (a0.flatMap eXFunctor.b))), (2, .d (iv (IntKind.i64.wrap (a1 - (a0.length : Int))))), (10, .d (iv 0))] .nil (by kernel_rfl) (by kernel_rfl) ?_
    refine tr_block ?_
    refine tr_iterS (fun (s2 : Int × Int) => [(0, .d (.sl a0.length 0 (a0.flatMap eXFunctor.b))), (2, .d (iv s2.1)), (10, .d (iv s2.2))]) (IntKind.i64.wrap (a1 - (a0.length : Int)), 0) [0, 2, 10] (by kernel_rfl) hM ?_
    intro n5 next3 ih4 s2 hM
    refine tr_seq ?_
    refine tr_sr hT hm [] [0, 2, 10, 30] [(0, .d (.sl a0.length 0 (a0.flatMap eXFunctor.b))), (2, .d (iv s2.1)), (10, .d (iv s2.2)), (30, .d (bv (decide (s2.2 < (a0.length : Int)))))] .nil (by kernel_rfl) (by kernel_rfl) ?_
    rcases Bool.eq_false_or_eq_true (decide (s2.2 < (a0.length : Int))) with h6 | h6
    · have hM := ite_true' hM h6
      refine tr_condTe (e := decide (s2.2 < (a0.length : Int))) h6 (by kernel_rfl) ?_
      refine tr_skip (q_n ?_)
      refine tr_seq ?_
      refine tr_block ?_
      obtain ⟨y7, hy7, hM⟩ := bind_some' hM
      have hy7' := idx_some hy7
      obtain ⟨v8, hv8, hM⟩ := bind_some' hM
      refine tr_sr hT hm [(3, .val (.agg [iv y7.Source.Objects, .sl y7.Source.From.length 0 (y7.Source.From.flatMap eI.b), .sl y7.Source.To.length 0 (y7.Source.To.flatMap eI.b), .sl y7.Source.Identity.length 0 (y7.Source.Identity.flatMap eI.b), .sl y7.Source.Composites.length 0 (y7.Source.Composites.flatMap (eS eI).b), iv y7.Target.Objects, .sl y7.Target.From.length 0 (y7.Target.From.flatMap eI.b), .sl y7.Target.To.length 0 (y7.Target.To.flatMap eI.b), .sl y7.Target.Identity.length 0 (y7.Target.Identity.flatMap eI.b), .sl y7.Target.Composites.length 0 (y7.Target.Composites.flatMap (eS eI).b), .sl y7.Objects.length 0 (y7.Objects.flatMap eI.b), .sl y7.Arrows.length 0 (y7.Arrows.flatMap eI.b)])), (5, .call [] [] [.agg (eXFunctor.b y7), iv s2.1] [] (iv v8))] [0, 2, 10] [(0, .d (.sl a0.length 0 (a0.flatMap eXFunctor.b))), (2, .d (iv v8)), (10, .d (iv s2.2))] (.cons hy7'.1 (.cons hy7'.2.1 (.cons (sub_b eXFunctor_ok hy7'.2.2) (cc0 ok22 (laws_szFunctor_c y7 s2.1 _ hv8) (by kernel_rfl) .nil)))) (by kernel_rfl) (by kernel_rfl) ?_
      refine tr_sr hT hm [] [0, 2, 10, 50] [(0, .d (.sl a0.length 0 (a0.flatMap eXFunctor.b))), (2, .d (iv v8)), (10, .d (iv s2.2)), (50, .d (bv (decide (v8 < 0))))] .nil (by kernel_rfl) (by kernel_rfl) ?_
      rcases Bool.eq_false_or_eq_true (decide (v8 < 0)) with h9 | h9
      · have hM := ite_true' hM h9
        refine tr_condTe (e := decide (v8 < 0)) h9 (by kernel_rfl) ?_
        refine tr_sr hT hm [] [8] [(8, .d (iv (-1)))] .nil (by kernel_rfl) (by kernel_rfl) ?_
        refine tr_ret (b_r (q_r (l_r (b_r (q_r (rg_r ?_))))))
        obtain rfl := Option.some.inj hM
        exact retg (names := []) .nil (by kernel_rfl)
      · have hM := ite_false' hM h9
        refine tr_condFe (e := decide (v8 < 0)) h9 (by kernel_rfl) ?_
        refine tr_skip (b_n (q_n ?_))
        refine tr_r hT hm [] [0, 2, 10] [(0, .d (.sl a0.length 0 (a0.flatMap eXFunctor.b))), (2, .d (iv v8)), (10, .d (iv (IntKind.i64.wrap (s2.2 + 1))))] .nil (by kernel_rfl) (by kernel_rfl) (l_n ?_)
        exact trl_start (ks := [0, 2, 10]) (by kernel_rfl) (ih4 (v8, IntKind.i64.wrap (s2.2 + 1)) hM)
    · have hM := ite_false' hM h6
      refine tr_condFe (e := decide (s2.2 < (a0.length : Int))) h6 (by kernel_rfl) ?_
      refine tr_exit (q_x (l_x (b_h (q_n ?_))))
      refine tr_sr hT hm [] [8] [(8, .d (iv s2.1))] .nil (by kernel_rfl) (by kernel_rfl) ?_
      refine tr_ret (rg_r ?_)
      obtain rfl := Option.some.inj hM
      exact retg (names := []) .nil (by kernel_rfl)

theorem ok37 : CallOk Try.prog 37 := callOk_of Try.func37 (by kernel_rfl) (by kernel_rfl)
theorem laws_szFamily_c (a0 : XFamily) (a1 : Int) (r : Int) (hM : M.laws_szFamily a0 a1 = some r) :
    FnC Try.prog 37 [] [.agg (eXFamily.b a0), iv a1] [] (iv r) := by
  refine fnc_startG (N := 24) (np := 500) hT Try.func37 rfl rfl (by kernel_rfl) ?_
  unfold M.laws_szFamily at hM
  refine tr_start (ks := [0, 2]) (st' := [(0, .d (.agg (eXFamily.b a0))), (2, .d (iv a1))]) (by kernel_rfl) ?_
  refine tr_sr hT hm [] [2, 4, 2005] [(2, .d (iv a1)), (4, .d (.rp 1002 0)), bxB 2005 (eXFamily.b a0)] .nil (by kernel_rfl) (by kernel_rfl) ?_
  obtain ⟨v1, hv1, hM⟩ := bind_some' hM
  refine tr_sr hT hm [(3, .call [] [] [.agg (eXCategory.b a0.Base), iv a1] [] (iv v1))] [2, 4, 2005] [(2, .d (iv v1)), (4, .d (.rp 1002 0)), bxB 2005 (eXFamily.b a0)] (cc0 ok47 (laws_szCategory_c a0.Base a1 _ hv1) (by kernel_rfl) .nil) (by kernel_rfl) (by kernel_rfl) ?_
  refine tr_seq ?_
  refine tr_sr hT hm [] [2, 4, 20, 2005] [(2, .d (iv v1)), (4, .d (.rp 1002 0)), (20, .d (bv (decide (v1 < 0)))), bxB 2005 (eXFamily.b a0)] .nil (by kernel_rfl) (by kernel_rfl) ?_
  rcases Bool.eq_false_or_eq_true (decide (v1 < 0)) with h2 | h2
  · have hM := ite_true' hM h2
    refine tr_condTe (e := decide (v1 < 0)) h2 (by kernel_rfl) ?_
    refine tr_sr hT hm [] [8] [(8, .d (iv (-1)))] .nil (by kernel_rfl) (by kernel_rfl) ?_
    refine tr_ret (q_r (rg_r ?_))
    obtain rfl := Option.some.inj hM
    exact retg (names := []) .nil (by kernel_rfl)
  · have hM := ite_false' hM h2
    refine tr_condFe (e := decide (v1 < 0)) h2 (by kernel_rfl) ?_
    refine tr_skip (q_n ?_)
    obtain ⟨v3, hv3, hM⟩ := bind_some' hM
    refine tr_sr hT hm [(3, .call [] [] [.sl a0.Fibres.length 0 (a0.Fibres.flatMap eXCategory.b), iv v1] [] (iv v3))] [2, 4, 2005] [(2, .d (iv v3)), (4, .d (.rp 1002 0)), bxB 2005 (eXFamily.b a0)] (cc0 ok105 (laws_szCategoryS_c a0.Fibres v1 _ hv3) (by kernel_rfl) .nil) (by kernel_rfl) (by kernel_rfl) ?_
    refine tr_seq ?_
    refine tr_sr hT hm [] [2, 4, 32, 2005] [(2, .d (iv v3)), (4, .d (.rp 1002 0)), (32, .d (bv (decide (v3 < 0)))), bxB 2005 (eXFamily.b a0)] .nil (by kernel_rfl) (by kernel_rfl) ?_
    rcases Bool.eq_false_or_eq_true (decide (v3 < 0)) with h4 | h4
    · have hM := ite_true' hM h4
      refine tr_condTe (e := decide (v3 < 0)) h4 (by kernel_rfl) ?_
      refine tr_sr hT hm [] [8] [(8, .d (iv (-1)))] .nil (by kernel_rfl) (by kernel_rfl) ?_
      refine tr_ret (q_r (rg_r ?_))
      obtain rfl := Option.some.inj hM
      exact retg (names := []) .nil (by kernel_rfl)
    · have hM := ite_false' hM h4
      refine tr_condFe (e := decide (v3 < 0)) h4 (by kernel_rfl) ?_
      refine tr_skip (q_n ?_)
      obtain ⟨v5, hv5, hM⟩ := bind_some' hM
      refine tr_sr hT hm [(3, .call [] [] [.sl a0.Changes.length 0 (a0.Changes.flatMap eXFunctor.b), iv v3] [] (iv v5))] [2] [(2, .d (iv v5))] (cc0 ok106 (laws_szFunctorS_c a0.Changes v3 _ hv5) (by kernel_rfl) .nil) (by kernel_rfl) (by kernel_rfl) ?_
      refine tr_seq ?_
      refine tr_sr hT hm [] [2, 44] [(2, .d (iv v5)), (44, .d (bv (decide (v5 < 0))))] .nil (by kernel_rfl) (by kernel_rfl) ?_
      rcases Bool.eq_false_or_eq_true (decide (v5 < 0)) with h6 | h6
      · have hM := ite_true' hM h6
        refine tr_condTe (e := decide (v5 < 0)) h6 (by kernel_rfl) ?_
        refine tr_sr hT hm [] [8] [(8, .d (iv (-1)))] .nil (by kernel_rfl) (by kernel_rfl) ?_
        refine tr_ret (q_r (rg_r ?_))
        obtain rfl := Option.some.inj hM
        exact retg (names := []) .nil (by kernel_rfl)
      · have hM := ite_false' hM h6
        refine tr_condFe (e := decide (v5 < 0)) h6 (by kernel_rfl) ?_
        refine tr_skip (q_n ?_)
        refine tr_sr hT hm [] [8] [(8, .d (iv v5))] .nil (by kernel_rfl) (by kernel_rfl) ?_
        refine tr_ret (rg_r ?_)
        obtain rfl := Option.some.inj hM
        exact retg (names := []) .nil (by kernel_rfl)

theorem ok108 : CallOk Try.prog 108 := callOk_of Try.func108 (by kernel_rfl) (by kernel_rfl)
theorem spec_l06Same_c (a0 : XFunctor) (a1 : XFunctor) (r : Bool) (hM : M.spec_l06Same a0 a1 = some r) :
    FnC Try.prog 108 [] [.agg (eXFunctor.b a0), .agg (eXFunctor.b a1)] [] (bv r) := by
  refine fnc_startG (N := 31) (np := 500) hT Try.func108 rfl rfl (by kernel_rfl) ?_
  unfold M.spec_l06Same at hM
  refine tr_start (ks := [0, 2]) (st' := [(0, .d (.agg (eXFunctor.b a0))), (2, .d (.agg (eXFunctor.b a1)))]) (by kernel_rfl) ?_
  refine tr_sr hT hm [] [4, 6, 2005, 2007] [(4, .d (.rp 1002 0)), (6, .d (.rp 1003 0)), bxB 2005 (eXFunctor.b a0), bxB 2007 (eXFunctor.b a1)] .nil (by kernel_rfl) (by kernel_rfl) ?_
  obtain ⟨v1, hv1, hM⟩ := bind_some' hM
  rcases Bool.eq_false_or_eq_true v1 with h2 | h2
  · have hM := ite_true' hM h2
    obtain ⟨v3, hv3, hM⟩ := bind_some' hM
    rcases Bool.eq_false_or_eq_true v3 with h4 | h4
    · have hM := ite_true' hM h4
      obtain ⟨v5, hv5, hM⟩ := bind_some' hM
      rcases Bool.eq_false_or_eq_true v5 with h6 | h6
      · have hM := ite_true' hM h6
        obtain ⟨v7, hv7, hM⟩ := bind_some' hM
        refine tr_sr hT hm [(4, .call [] [] [.agg (eXCategory.b a0.Source), .agg (eXCategory.b a1.Source)] [] (bv v1)), (5, .val (bv true)), (10, .call [] [] [.agg (eXCategory.b a0.Target), .agg (eXCategory.b a1.Target)] [] (bv v3)), (12, .val (bv true)), (17, .call [] [] [.sl a0.Objects.length 0 (a0.Objects.flatMap eI.b), .sl a1.Objects.length 0 (a1.Objects.flatMap eI.b)] [] (bv v5)), (19, .val (bv true)), (24, .call [] [] [.sl a0.Arrows.length 0 (a0.Arrows.flatMap eI.b), .sl a1.Arrows.length 0 (a1.Arrows.flatMap eI.b)] [] (bv v7))] [8] [(8, .d (bv v7))] (cc0 ok95 (spec_l02Same_c a0.Source a1.Source _ hv1) (by kernel_rfl) (.cons (congrArg (fun b => bv b) h2) (cc0 ok95 (spec_l02Same_c a0.Target a1.Target _ hv3) (by kernel_rfl) (.cons (congrArg (fun b => bv b) h4) (cc0 ok190 (spec_l01Same_c a0.Objects a1.Objects _ hv5) (by kernel_rfl) (.cons (congrArg (fun b => bv b) h6) (cc0 ok190 (spec_l01Same_c a0.Arrows a1.Arrows _ hv7) (by kernel_rfl) .nil))))))) (by kernel_rfl) (by kernel_rfl) ?_
        refine tr_ret (rg_r ?_)
        obtain rfl := Option.some.inj hM
        exact retg (names := []) .nil (by kernel_rfl)
      · have hM := ite_false' hM h6
        refine tr_sr hT hm [(4, .call [] [] [.agg (eXCategory.b a0.Source), .agg (eXCategory.b a1.Source)] [] (bv v1)), (5, .val (bv true)), (10, .call [] [] [.agg (eXCategory.b a0.Target), .agg (eXCategory.b a1.Target)] [] (bv v3)), (12, .val (bv true)), (17, .call [] [] [.sl a0.Objects.length 0 (a0.Objects.flatMap eI.b), .sl a1.Objects.length 0 (a1.Objects.flatMap eI.b)] [] (bv v5)), (19, .val (bv false))] [8] [(8, .d (bv false))] (cc0 ok95 (spec_l02Same_c a0.Source a1.Source _ hv1) (by kernel_rfl) (.cons (congrArg (fun b => bv b) h2) (cc0 ok95 (spec_l02Same_c a0.Target a1.Target _ hv3) (by kernel_rfl) (.cons (congrArg (fun b => bv b) h4) (cc0 ok190 (spec_l01Same_c a0.Objects a1.Objects _ hv5) (by kernel_rfl) (.cons (congrArg (fun b => bv b) h6) .nil)))))) (by kernel_rfl) (by kernel_rfl) ?_
        refine tr_ret (rg_r ?_)
        obtain rfl := Option.some.inj hM
        exact retg (names := []) .nil (by kernel_rfl)
    · have hM := ite_false' hM h4
      refine tr_sr hT hm [(4, .call [] [] [.agg (eXCategory.b a0.Source), .agg (eXCategory.b a1.Source)] [] (bv v1)), (5, .val (bv true)), (10, .call [] [] [.agg (eXCategory.b a0.Target), .agg (eXCategory.b a1.Target)] [] (bv v3)), (12, .val (bv false))] [8] [(8, .d (bv false))] (cc0 ok95 (spec_l02Same_c a0.Source a1.Source _ hv1) (by kernel_rfl) (.cons (congrArg (fun b => bv b) h2) (cc0 ok95 (spec_l02Same_c a0.Target a1.Target _ hv3) (by kernel_rfl) (.cons (congrArg (fun b => bv b) h4) .nil)))) (by kernel_rfl) (by kernel_rfl) ?_
      refine tr_ret (rg_r ?_)
      obtain rfl := Option.some.inj hM
      exact retg (names := []) .nil (by kernel_rfl)
  · have hM := ite_false' hM h2
    refine tr_sr hT hm [(4, .call [] [] [.agg (eXCategory.b a0.Source), .agg (eXCategory.b a1.Source)] [] (bv v1)), (5, .val (bv false))] [8] [(8, .d (bv false))] (cc0 ok95 (spec_l02Same_c a0.Source a1.Source _ hv1) (by kernel_rfl) (.cons (congrArg (fun b => bv b) h2) .nil)) (by kernel_rfl) (by kernel_rfl) ?_
    refine tr_ret (rg_r ?_)
    obtain rfl := Option.some.inj hM
    exact retg (names := []) .nil (by kernel_rfl)

theorem ok38 : CallOk Try.prog 38 := callOk_of Try.func38 (by kernel_rfl) (by kernel_rfl)
theorem spec_IsFamily_c (a0 : XFamily) (r : Bool) (hM : M.spec_IsFamily a0 = some r) :
    FnC Try.prog 38 [] [.agg (eXFamily.b a0)] [] (bv r) := by
  refine fnc_startG (N := 173) (np := 500) hT Try.func38 rfl rfl (by kernel_rfl) ?_
  unfold M.spec_IsFamily at hM
  refine tr_start (ks := [0]) (st' := [(0, .d (.agg (eXFamily.b a0)))]) (by kernel_rfl) ?_
  refine tr_sr hT hm [] [2, 2003] [(2, .d (.rp 1001 0)), bxB 2003 (eXFamily.b a0)] .nil (by kernel_rfl) (by kernel_rfl) ?_
  refine tr_sr hT hm [] [2, 6, 2003, 2007] [(2, .d (.rp 1001 0)), (6, .d (.rp 1003 0)), bxB 2003 (eXFamily.b a0), bxB 2007 (eXCategory.b a0.Base)] (.cons (Nat.le_of_ble_eq_true (n := 5) (m := 5) rfl) .nil) (by kernel_rfl) (by kernel_rfl) ?_
  refine tr_seq ?_
  obtain ⟨v1, hv1, hM⟩ := bind_some' hM
  rcases Bool.eq_false_or_eq_true v1 with h2 | h2
  · have hM := ite_true' hM h2
    rcases Bool.eq_false_or_eq_true ((a0.Fibres.length : Int) != a0.Base.Objects) with h3 | h3
    · have hM := ite_true' hM h3
      refine tr_sr hT hm [(1, .call [] [] [.agg (eXCategory.b a0.Base)] [] (bv v1)), (3, .val (bv false)), (11, .val (bv true))] [2, 6, 60, 2003, 2007] [(2, .d (.rp 1001 0)), (6, .d (.rp 1003 0)), (60, .d (bv true)), bxB 2003 (eXFamily.b a0), bxB 2007 (eXCategory.b a0.Base)] (cc0 ok107 (spec_l02Is_c a0.Base _ hv1) (by kernel_rfl) (.cons (congrArg (fun b => bv b) (congrArg not h2)) (.cons (congrArg (fun b => bv b) h3) .nil))) (by kernel_rfl) (by kernel_rfl) ?_
      refine tr_condT (by kernel_rfl) ?_
      refine tr_sr hT hm [] [4] [(4, .d (bv false))] .nil (by kernel_rfl) (by kernel_rfl) ?_
      refine tr_ret (q_r (rg_r ?_))
      obtain rfl := Option.some.inj hM
      exact retg (names := []) .nil (by kernel_rfl)
    · have hM := ite_false' hM h3
      refine tr_sr hT hm [(1, .call [] [] [.agg (eXCategory.b a0.Base)] [] (bv v1)), (3, .val (bv false)), (11, .val (bv false))] [2, 6, 60, 2003, 2007] [(2, .d (.rp 1001 0)), (6, .d (.rp 1003 0)), (60, .d (bv ((a0.Changes.length : Int) != (a0.Base.From.length : Int)))), bxB 2003 (eXFamily.b a0), bxB 2007 (eXCategory.b a0.Base)] (cc0 ok107 (spec_l02Is_c a0.Base _ hv1) (by kernel_rfl) (.cons (congrArg (fun b => bv b) (congrArg not h2)) (.cons (congrArg (fun b => bv b) h3) .nil))) (by kernel_rfl) (by kernel_rfl) ?_
      rcases Bool.eq_false_or_eq_true ((a0.Changes.length : Int) != (a0.Base.From.length : Int)) with h4 | h4
      · have hM := ite_true' hM h4
        refine tr_condTe (e := (a0.Changes.length : Int) != (a0.Base.From.length : Int)) h4 (by kernel_rfl) ?_
        refine tr_sr hT hm [] [4] [(4, .d (bv false))] .nil (by kernel_rfl) (by kernel_rfl) ?_
        refine tr_ret (q_r (rg_r ?_))
        obtain rfl := Option.some.inj hM
        exact retg (names := []) .nil (by kernel_rfl)
      · have hM := ite_false' hM h4
        refine tr_condFe (e := (a0.Changes.length : Int) != (a0.Base.From.length : Int)) h4 (by kernel_rfl) ?_
        refine tr_skip (q_n ?_)
        refine tr_seq ?_
        refine tr_sr hT hm [] [2, 6, 8, 2003, 2007] [(2, .d (.rp 1001 0)), (6, .d (.rp 1003 0)), (8, .d (iv 0)), bxB 2003 (eXFamily.b a0), bxB 2007 (eXCategory.b a0.Base)] .nil (by kernel_rfl) (by kernel_rfl) ?_
        refine tr_block ?_
        refine tr_iterS (fun (s5 : Int) => [(2, .d (.rp 1001 0)), (6, .d (.rp 1003 0)), (8, .d (iv s5)), bxB 2003 (eXFamily.b a0), bxB 2007 (eXCategory.b a0.Base)]) 0 [2, 6, 8, 2003, 2007] (by kernel_rfl) hM ?_
        intro n8 next6 ih7 s5 hM
        refine tr_seq ?_
        refine tr_sr hT hm [] [2, 6, 8, 70, 2003, 2007] [(2, .d (.rp 1001 0)), (6, .d (.rp 1003 0)), (8, .d (iv s5)), (70, .d (bv (decide (s5 < (a0.Fibres.length : Int))))), bxB 2003 (eXFamily.b a0), bxB 2007 (eXCategory.b a0.Base)] .nil (by kernel_rfl) (by kernel_rfl) ?_
        rcases Bool.eq_false_or_eq_true (decide (s5 < (a0.Fibres.length : Int))) with h9 | h9
        · have hM := ite_true' hM h9
          refine tr_condTe (e := decide (s5 < (a0.Fibres.length : Int))) h9 (by kernel_rfl) ?_
          refine tr_skip (q_n ?_)
          refine tr_seq ?_
          refine tr_block ?_
          obtain ⟨y10, hy10, hM⟩ := bind_some' hM
          have hy10' := idx_some hy10
          obtain ⟨v11, hv11, hM⟩ := bind_some' hM
          refine tr_sr hT hm [(4, .val (.agg [iv y10.Objects, .sl y10.From.length 0 (y10.From.flatMap eI.b), .sl y10.To.length 0 (y10.To.flatMap eI.b), .sl y10.Identity.length 0 (y10.Identity.flatMap eI.b), .sl y10.Composites.length 0 (y10.Composites.flatMap (eS eI).b)])), (5, .call [] [] [.agg (eXCategory.b y10)] [] (bv v11))] [2, 6, 8, 88, 2003, 2007] [(2, .d (.rp 1001 0)), (6, .d (.rp 1003 0)), (8, .d (iv s5)), (88, .d (bv (!v11))), bxB 2003 (eXFamily.b a0), bxB 2007 (eXCategory.b a0.Base)] (.cons hy10'.1 (.cons hy10'.2.1 (.cons (sub_b eXCategory_ok hy10'.2.2) (cc0 ok107 (spec_l02Is_c y10 _ hv11) (by kernel_rfl) .nil)))) (by kernel_rfl) (by kernel_rfl) ?_
          rcases Bool.eq_false_or_eq_true v11 with h12 | h12
          · have hM := ite_true' hM h12
            refine tr_condFe (e := !v11) (congrArg not h12) (by kernel_rfl) ?_
            refine tr_skip (b_n (q_n ?_))
            refine tr_r hT hm [] [2, 6, 8, 2003, 2007] [(2, .d (.rp 1001 0)), (6, .d (.rp 1003 0)), (8, .d (iv (IntKind.i64.wrap (s5 + 1)))), bxB 2003 (eXFamily.b a0), bxB 2007 (eXCategory.b a0.Base)] .nil (by kernel_rfl) (by kernel_rfl) (l_n ?_)
            exact trl_start (ks := [2, 6, 8, 2003, 2007]) (by kernel_rfl) (ih7 (IntKind.i64.wrap (s5 + 1)) hM)
          · have hM := ite_false' hM h12
            refine tr_condTe (e := !v11) (congrArg not h12) (by kernel_rfl) ?_
            refine tr_sr hT hm [] [4] [(4, .d (bv false))] .nil (by kernel_rfl) (by kernel_rfl) ?_
            refine tr_ret (b_r (q_r (l_r (b_r (q_r (rg_r ?_))))))
            obtain rfl := Option.some.inj hM
            exact retg (names := []) .nil (by kernel_rfl)
        · have hM := ite_false' hM h9
          refine tr_condFe (e := decide (s5 < (a0.Fibres.length : Int))) h9 (by kernel_rfl) ?_
          refine tr_exit (q_x (l_x (b_h (q_n ?_))))
          refine tr_seq ?_
          refine tr_sr hT hm [] [2, 6, 10, 2003, 2007] [(2, .d (.rp 1001 0)), (6, .d (.rp 1003 0)), (10, .d (iv 0)), bxB 2003 (eXFamily.b a0), bxB 2007 (eXCategory.b a0.Base)] .nil (by kernel_rfl) (by kernel_rfl) ?_
          refine tr_block ?_
          refine tr_iterS (fun (s13 : Int) => [(2, .d (.rp 1001 0)), (6, .d (.rp 1003 0)), (10, .d (iv s13)), bxB 2003 (eXFamily.b a0), bxB 2007 (eXCategory.b a0.Base)]) 0 [2, 6, 10, 2003, 2007] (by kernel_rfl) hM ?_
          intro n16 next14 ih15 s13 hM
          refine tr_seq ?_
          refine tr_sr hT hm [] [2, 6, 10, 98, 2003, 2007] [(2, .d (.rp 1001 0)), (6, .d (.rp 1003 0)), (10, .d (iv s13)), (98, .d (bv (decide (s13 < (a0.Changes.length : Int))))), bxB 2003 (eXFamily.b a0), bxB 2007 (eXCategory.b a0.Base)] .nil (by kernel_rfl) (by kernel_rfl) ?_
          rcases Bool.eq_false_or_eq_true (decide (s13 < (a0.Changes.length : Int))) with h17 | h17
          · have hM := ite_true' hM h17
            refine tr_condTe (e := decide (s13 < (a0.Changes.length : Int))) h17 (by kernel_rfl) ?_
            refine tr_skip (q_n ?_)
            refine tr_seq ?_
            refine tr_block ?_
            obtain ⟨y18, hy18, hM⟩ := bind_some' hM
            have hy18' := idx_some hy18
            obtain ⟨v19, hv19, hM⟩ := bind_some' hM
            rcases Bool.eq_false_or_eq_true v19 with h20 | h20
            · have hM := ite_true' hM h20
              obtain ⟨y21, hy21, hM⟩ := bind_some' hM
              have hy21' := idx_some hy21
              obtain ⟨y22, hy22, hM⟩ := bind_some' hM
              have hy22' := idx_some hy22
              obtain ⟨v23, hv23, hM⟩ := bind_some' hM
              rcases Bool.eq_false_or_eq_true v23 with h24 | h24
              · have hM := ite_true' hM h24
                obtain ⟨y25, hy25, hM⟩ := bind_some' hM
                have hy25' := idx_some hy25
                obtain ⟨y26, hy26, hM⟩ := bind_some' hM
                have hy26' := idx_some hy26
                obtain ⟨v27, hv27, hM⟩ := bind_some' hM
                refine tr_sr hT hm [(4, .val (.agg [iv y18.Source.Objects, .sl y18.Source.From.length 0 (y18.Source.From.flatMap eI.b), .sl y18.Source.To.length 0 (y18.Source.To.flatMap eI.b), .sl y18.Source.Identity.length 0 (y18.Source.Identity.flatMap eI.b), .sl y18.Source.Composites.length 0 (y18.Source.Composites.flatMap (eS eI).b), iv y18.Target.Objects, .sl y18.Target.From.length 0 (y18.Target.From.flatMap eI.b), .sl y18.Target.To.length 0 (y18.Target.To.flatMap eI.b), .sl y18.Target.Identity.length 0 (y18.Target.Identity.flatMap eI.b), .sl y18.Target.Composites.length 0 (y18.Target.Composites.flatMap (eS eI).b), .sl y18.Objects.length 0 (y18.Objects.flatMap eI.b), .sl y18.Arrows.length 0 (y18.Arrows.flatMap eI.b)])), (5, .call [] [] [.agg (eXFunctor.b y18)] [] (bv v19)), (7, .val (bv false)), (13, .val (.agg [iv y18.Source.Objects, .sl y18.Source.From.length 0 (y18.Source.From.flatMap eI.b), .sl y18.Source.To.length 0 (y18.Source.To.flatMap eI.b), .sl y18.Source.Identity.length 0 (y18.Source.Identity.flatMap eI.b), .sl y18.Source.Composites.length 0 (y18.Source.Composites.flatMap (eS eI).b)])), (20, .val (iv y21)), (22, .val (.agg [iv y22.Objects, .sl y22.From.length 0 (y22.From.flatMap eI.b), .sl y22.To.length 0 (y22.To.flatMap eI.b), .sl y22.Identity.length 0 (y22.Identity.flatMap eI.b), .sl y22.Composites.length 0 (y22.Composites.flatMap (eS eI).b)])), (23, .call [] [] [.agg (eXCategory.b y18.Source), .agg (eXCategory.b y22)] [] (bv v23)), (26, .val (bv false)), (32, .val (.agg [iv y18.Target.Objects, .sl y18.Target.From.length 0 (y18.Target.From.flatMap eI.b), .sl y18.Target.To.length 0 (y18.Target.To.flatMap eI.b), .sl y18.Target.Identity.length 0 (y18.Target.Identity.flatMap eI.b), .sl y18.Target.Composites.length 0 (y18.Target.Composites.flatMap (eS eI).b)])), (39, .val (iv y25)), (41, .val (.agg [iv y26.Objects, .sl y26.From.length 0 (y26.From.flatMap eI.b), .sl y26.To.length 0 (y26.To.flatMap eI.b), .sl y26.Identity.length 0 (y26.Identity.flatMap eI.b), .sl y26.Composites.length 0 (y26.Composites.flatMap (eS eI).b)])), (42, .call [] [] [.agg (eXCategory.b y18.Target), .agg (eXCategory.b y26)] [] (bv v27))] [2, 6, 10, 120, 122, 124, 126, 128, 130, 132, 134, 136, 138, 140, 142, 144, 146, 148, 150, 152, 158, 160, 162, 164, 166, 168, 170, 172, 174, 176, 178, 180, 182, 184, 186, 188, 190, 192, 2003, 2007] [(2, .d (.rp 1001 0)), (6, .d (.rp 1003 0)), (10, .d (iv s13)), (120, .d (.rp 1001 6)), (122, .d (.sl a0.Changes.length 0 (a0.Changes.flatMap eXFunctor.b))), (124, .d (iv s13)), (126, .d (.pt (a0.Changes.flatMap eXFunctor.b) (0 + s13.toNat * 12))), (128, .d (.pt (a0.Changes.flatMap eXFunctor.b) (0 + s13.toNat * 12))), (130, .d (.agg (eXCategory.b y18.Source))), (132, .d (.rp 1001 5)), (134, .d (.sl a0.Fibres.length 0 (a0.Fibres.flatMap eXCategory.b))), (136, .d (.rp 1003 1)), (138, .d (.sl a0.Base.From.length 0 (a0.Base.From.flatMap eI.b))), (140, .d (iv s13)), (142, .d (.pt (a0.Base.From.flatMap eI.b) (0 + s13.toNat * 1))), (144, .d (iv y21)), (146, .d (.pt (a0.Fibres.flatMap eXCategory.b) (0 + y21.toNat * 5))), (148, .d (.agg (eXCategory.b y22))), (150, .d (bv v23)), (152, .d (bv (!v23))), (158, .d (.rp 1001 6)), (160, .d (.sl a0.Changes.length 0 (a0.Changes.flatMap eXFunctor.b))), (162, .d (iv s13)), (164, .d (.pt (a0.Changes.flatMap eXFunctor.b) (0 + s13.toNat * 12))), (166, .d (.pt (a0.Changes.flatMap eXFunctor.b) (0 + s13.toNat * 12 + 5))), (168, .d (.agg (eXCategory.b y18.Target))), (170, .d (.rp 1001 5)), (172, .d (.sl a0.Fibres.length 0 (a0.Fibres.flatMap eXCategory.b))), (174, .d (.rp 1003 2)), (176, .d (.sl a0.Base.To.length 0 (a0.Base.To.flatMap eI.b))), (178, .d (iv s13)), (180, .d (.pt (a0.Base.To.flatMap eI.b) (0 + s13.toNat * 1))), (182, .d (iv y25)), (184, .d (.pt (a0.Fibres.flatMap eXCategory.b) (0 + y25.toNat * 5))), (186, .d (.agg (eXCategory.b y26))), (188, .d (bv v27)), (190, .d (bv (!v27))), (192, .d (bv (!v27))), bxB 2003 (eXFamily.b a0), bxB 2007 (eXCategory.b a0.Base)] (.cons hy18'.1 (.cons hy18'.2.1 (.cons (sub_b eXFunctor_ok hy18'.2.2) (cc0 ok78 (spec_l06Is_c y18 _ hv19) (by kernel_rfl) (.cons (congrArg (fun b => bv b) (congrArg not h20)) (.cons hy18'.1 (.cons hy18'.2.1 (.cons (sub_bj (n := 5) (j := 0) (ds := [iv y18.Source.Objects, .sl y18.Source.From.length 0 (y18.Source.From.flatMap eI.b), .sl y18.Source.To.length 0 (y18.Source.To.flatMap eI.b), .sl y18.Source.Identity.length 0 (y18.Source.Identity.flatMap eI.b), .sl y18.Source.Composites.length 0 (y18.Source.Composites.flatMap (eS eI).b)]) eXFunctor_ok hy18'.2.2 (by kernel_rfl) (by kernel_rfl)) (.cons hy21'.1 (.cons hy21'.2.1 (.cons (at_b0 eI_ok hy21'.2.2 (d := iv y21) (by kernel_rfl)) (.cons hy22'.1 (.cons hy22'.2.1 (.cons (sub_b eXCategory_ok hy22'.2.2) (cc0 ok95 (spec_l02Same_c y18.Source y22 _ hv23) (by kernel_rfl) (.cons (congrArg (fun b => bv b) (congrArg not h24)) (.cons hy18'.1 (.cons hy18'.2.1 (.cons (sub_bj (n := 5) (j := 5) (ds := [iv y18.Target.Objects, .sl y18.Target.From.length 0 (y18.Target.From.flatMap eI.b), .sl y18.Target.To.length 0 (y18.Target.To.flatMap eI.b), .sl y18.Target.Identity.length 0 (y18.Target.Identity.flatMap eI.b), .sl y18.Target.Composites.length 0 (y18.Target.Composites.flatMap (eS eI).b)]) eXFunctor_ok hy18'.2.2 (by kernel_rfl) (by kernel_rfl)) (.cons hy25'.1 (.cons hy25'.2.1 (.cons (at_b0 eI_ok hy25'.2.2 (d := iv y25) (by kernel_rfl)) (.cons hy26'.1 (.cons hy26'.2.1 (.cons (sub_b eXCategory_ok hy26'.2.2) (cc0 ok95 (spec_l02Same_c y18.Target y26 _ hv27) (by kernel_rfl) .nil)))))))))))))))))))))))))) (by kernel_rfl) (by kernel_rfl) ?_
                rcases Bool.eq_false_or_eq_true v27 with h28 | h28
                · have hM := ite_true' hM h28
                  refine tr_condFe (e := !v27) (congrArg not h28) (by kernel_rfl) ?_
                  refine tr_skip (b_n (q_n ?_))
                  refine tr_r hT hm [] [2, 6, 10, 120, 122, 124, 126, 128, 130, 132, 134, 136, 138, 140, 142, 144, 146, 148, 150, 152, 158, 160, 162, 164, 166, 168, 170, 172, 174, 176, 178, 180, 182, 184, 186, 188, 190, 2003, 2007] [(2, .d (.rp 1001 0)), (6, .d (.rp 1003 0)), (10, .d (iv (IntKind.i64.wrap (s13 + 1)))), (120, .d (.rp 1001 6)), (122, .d (.sl a0.Changes.length 0 (a0.Changes.flatMap eXFunctor.b))), (124, .d (iv s13)), (126, .d (.pt (a0.Changes.flatMap eXFunctor.b) (0 + s13.toNat * 12))), (128, .d (.pt (a0.Changes.flatMap eXFunctor.b) (0 + s13.toNat * 12))), (130, .d (.agg (eXCategory.b y18.Source))), (132, .d (.rp 1001 5)), (134, .d (.sl a0.Fibres.length 0 (a0.Fibres.flatMap eXCategory.b))), (136, .d (.rp 1003 1)), (138, .d (.sl a0.Base.From.length 0 (a0.Base.From.flatMap eI.b))), (140, .d (iv s13)), (142, .d (.pt (a0.Base.From.flatMap eI.b) (0 + s13.toNat * 1))), (144, .d (iv y21)), (146, .d (.pt (a0.Fibres.flatMap eXCategory.b) (0 + y21.toNat * 5))), (148, .d (.agg (eXCategory.b y22))), (150, .d (bv v23)), (152, .d (bv (!v23))), (158, .d (.rp 1001 6)), (160, .d (.sl a0.Changes.length 0 (a0.Changes.flatMap eXFunctor.b))), (162, .d (iv s13)), (164, .d (.pt (a0.Changes.flatMap eXFunctor.b) (0 + s13.toNat * 12))), (166, .d (.pt (a0.Changes.flatMap eXFunctor.b) (0 + s13.toNat * 12 + 5))), (168, .d (.agg (eXCategory.b y18.Target))), (170, .d (.rp 1001 5)), (172, .d (.sl a0.Fibres.length 0 (a0.Fibres.flatMap eXCategory.b))), (174, .d (.rp 1003 2)), (176, .d (.sl a0.Base.To.length 0 (a0.Base.To.flatMap eI.b))), (178, .d (iv s13)), (180, .d (.pt (a0.Base.To.flatMap eI.b) (0 + s13.toNat * 1))), (182, .d (iv y25)), (184, .d (.pt (a0.Fibres.flatMap eXCategory.b) (0 + y25.toNat * 5))), (186, .d (.agg (eXCategory.b y26))), (188, .d (bv v27)), (190, .d (bv (!v27))), bxB 2003 (eXFamily.b a0), bxB 2007 (eXCategory.b a0.Base)] .nil (by kernel_rfl) (by kernel_rfl) (l_n ?_)
                  exact trl_start (ks := [2, 6, 10, 2003, 2007]) (by kernel_rfl) (ih15 (IntKind.i64.wrap (s13 + 1)) hM)
                · have hM := ite_false' hM h28
                  refine tr_condTe (e := !v27) (congrArg not h28) (by kernel_rfl) ?_
                  refine tr_sr hT hm [] [4] [(4, .d (bv false))] .nil (by kernel_rfl) (by kernel_rfl) ?_
                  refine tr_ret (b_r (q_r (l_r (b_r (q_r (rg_r ?_))))))
                  obtain rfl := Option.some.inj hM
                  exact retg (names := []) .nil (by kernel_rfl)
              · have hM := ite_false' hM h24
                refine tr_sr hT hm [(4, .val (.agg [iv y18.Source.Objects, .sl y18.Source.From.length 0 (y18.Source.From.flatMap eI.b), .sl y18.Source.To.length 0 (y18.Source.To.flatMap eI.b), .sl y18.Source.Identity.length 0 (y18.Source.Identity.flatMap eI.b), .sl y18.Source.Composites.length 0 (y18.Source.Composites.flatMap (eS eI).b), iv y18.Target.Objects, .sl y18.Target.From.length 0 (y18.Target.From.flatMap eI.b), .sl y18.Target.To.length 0 (y18.Target.To.flatMap eI.b), .sl y18.Target.Identity.length 0 (y18.Target.Identity.flatMap eI.b), .sl y18.Target.Composites.length 0 (y18.Target.Composites.flatMap (eS eI).b), .sl y18.Objects.length 0 (y18.Objects.flatMap eI.b), .sl y18.Arrows.length 0 (y18.Arrows.flatMap eI.b)])), (5, .call [] [] [.agg (eXFunctor.b y18)] [] (bv v19)), (7, .val (bv false)), (13, .val (.agg [iv y18.Source.Objects, .sl y18.Source.From.length 0 (y18.Source.From.flatMap eI.b), .sl y18.Source.To.length 0 (y18.Source.To.flatMap eI.b), .sl y18.Source.Identity.length 0 (y18.Source.Identity.flatMap eI.b), .sl y18.Source.Composites.length 0 (y18.Source.Composites.flatMap (eS eI).b)])), (20, .val (iv y21)), (22, .val (.agg [iv y22.Objects, .sl y22.From.length 0 (y22.From.flatMap eI.b), .sl y22.To.length 0 (y22.To.flatMap eI.b), .sl y22.Identity.length 0 (y22.Identity.flatMap eI.b), .sl y22.Composites.length 0 (y22.Composites.flatMap (eS eI).b)])), (23, .call [] [] [.agg (eXCategory.b y18.Source), .agg (eXCategory.b y22)] [] (bv v23)), (26, .val (bv true))] [2, 6, 10, 120, 122, 124, 126, 128, 130, 132, 134, 136, 138, 140, 142, 144, 146, 148, 150, 152, 192, 2003, 2007] [(2, .d (.rp 1001 0)), (6, .d (.rp 1003 0)), (10, .d (iv s13)), (120, .d (.rp 1001 6)), (122, .d (.sl a0.Changes.length 0 (a0.Changes.flatMap eXFunctor.b))), (124, .d (iv s13)), (126, .d (.pt (a0.Changes.flatMap eXFunctor.b) (0 + s13.toNat * 12))), (128, .d (.pt (a0.Changes.flatMap eXFunctor.b) (0 + s13.toNat * 12))), (130, .d (.agg (eXCategory.b y18.Source))), (132, .d (.rp 1001 5)), (134, .d (.sl a0.Fibres.length 0 (a0.Fibres.flatMap eXCategory.b))), (136, .d (.rp 1003 1)), (138, .d (.sl a0.Base.From.length 0 (a0.Base.From.flatMap eI.b))), (140, .d (iv s13)), (142, .d (.pt (a0.Base.From.flatMap eI.b) (0 + s13.toNat * 1))), (144, .d (iv y21)), (146, .d (.pt (a0.Fibres.flatMap eXCategory.b) (0 + y21.toNat * 5))), (148, .d (.agg (eXCategory.b y22))), (150, .d (bv v23)), (152, .d (bv (!v23))), (192, .d (bv true)), bxB 2003 (eXFamily.b a0), bxB 2007 (eXCategory.b a0.Base)] (.cons hy18'.1 (.cons hy18'.2.1 (.cons (sub_b eXFunctor_ok hy18'.2.2) (cc0 ok78 (spec_l06Is_c y18 _ hv19) (by kernel_rfl) (.cons (congrArg (fun b => bv b) (congrArg not h20)) (.cons hy18'.1 (.cons hy18'.2.1 (.cons (sub_bj (n := 5) (j := 0) (ds := [iv y18.Source.Objects, .sl y18.Source.From.length 0 (y18.Source.From.flatMap eI.b), .sl y18.Source.To.length 0 (y18.Source.To.flatMap eI.b), .sl y18.Source.Identity.length 0 (y18.Source.Identity.flatMap eI.b), .sl y18.Source.Composites.length 0 (y18.Source.Composites.flatMap (eS eI).b)]) eXFunctor_ok hy18'.2.2 (by kernel_rfl) (by kernel_rfl)) (.cons hy21'.1 (.cons hy21'.2.1 (.cons (at_b0 eI_ok hy21'.2.2 (d := iv y21) (by kernel_rfl)) (.cons hy22'.1 (.cons hy22'.2.1 (.cons (sub_b eXCategory_ok hy22'.2.2) (cc0 ok95 (spec_l02Same_c y18.Source y22 _ hv23) (by kernel_rfl) (.cons (congrArg (fun b => bv b) (congrArg not h24)) .nil)))))))))))))))) (by kernel_rfl) (by kernel_rfl) ?_
                refine tr_condT (by kernel_rfl) ?_
                refine tr_sr hT hm [] [4] [(4, .d (bv false))] .nil (by kernel_rfl) (by kernel_rfl) ?_
                refine tr_ret (b_r (q_r (l_r (b_r (q_r (rg_r ?_))))))
                obtain rfl := Option.some.inj hM
                exact retg (names := []) .nil (by kernel_rfl)
            · have hM := ite_false' hM h20
              refine tr_sr hT hm [(4, .val (.agg [iv y18.Source.Objects, .sl y18.Source.From.length 0 (y18.Source.From.flatMap eI.b), .sl y18.Source.To.length 0 (y18.Source.To.flatMap eI.b), .sl y18.Source.Identity.length 0 (y18.Source.Identity.flatMap eI.b), .sl y18.Source.Composites.length 0 (y18.Source.Composites.flatMap (eS eI).b), iv y18.Target.Objects, .sl y18.Target.From.length 0 (y18.Target.From.flatMap eI.b), .sl y18.Target.To.length 0 (y18.Target.To.flatMap eI.b), .sl y18.Target.Identity.length 0 (y18.Target.Identity.flatMap eI.b), .sl y18.Target.Composites.length 0 (y18.Target.Composites.flatMap (eS eI).b), .sl y18.Objects.length 0 (y18.Objects.flatMap eI.b), .sl y18.Arrows.length 0 (y18.Arrows.flatMap eI.b)])), (5, .call [] [] [.agg (eXFunctor.b y18)] [] (bv v19)), (7, .val (bv true))] [2, 6, 10, 192, 2003, 2007] [(2, .d (.rp 1001 0)), (6, .d (.rp 1003 0)), (10, .d (iv s13)), (192, .d (bv true)), bxB 2003 (eXFamily.b a0), bxB 2007 (eXCategory.b a0.Base)] (.cons hy18'.1 (.cons hy18'.2.1 (.cons (sub_b eXFunctor_ok hy18'.2.2) (cc0 ok78 (spec_l06Is_c y18 _ hv19) (by kernel_rfl) (.cons (congrArg (fun b => bv b) (congrArg not h20)) .nil))))) (by kernel_rfl) (by kernel_rfl) ?_
              refine tr_condT (by kernel_rfl) ?_
              refine tr_sr hT hm [] [4] [(4, .d (bv false))] .nil (by kernel_rfl) (by kernel_rfl) ?_
              refine tr_ret (b_r (q_r (l_r (b_r (q_r (rg_r ?_))))))
              obtain rfl := Option.some.inj hM
              exact retg (names := []) .nil (by kernel_rfl)
          · have hM := ite_false' hM h17
            refine tr_condFe (e := decide (s13 < (a0.Changes.length : Int))) h17 (by kernel_rfl) ?_
            refine tr_exit (q_x (l_x (b_h (q_n ?_))))
            refine tr_seq ?_
            refine tr_sr hT hm [] [2, 6, 12, 2003, 2007] [(2, .d (.rp 1001 0)), (6, .d (.rp 1003 0)), (12, .d (iv 0)), bxB 2003 (eXFamily.b a0), bxB 2007 (eXCategory.b a0.Base)] .nil (by kernel_rfl) (by kernel_rfl) ?_
            refine tr_block ?_
            refine tr_iterS (fun (s29 : Int) => [(2, .d (.rp 1001 0)), (6, .d (.rp 1003 0)), (12, .d (iv s29)), bxB 2003 (eXFamily.b a0), bxB 2007 (eXCategory.b a0.Base)]) 0 [2, 6, 12, 2003, 2007] (by kernel_rfl) hM ?_
            intro n32 next30 ih31 s29 hM
            refine tr_seq ?_
            refine tr_sr hT hm [] [2, 6, 12, 202, 2003, 2007] [(2, .d (.rp 1001 0)), (6, .d (.rp 1003 0)), (12, .d (iv s29)), (202, .d (bv (decide (s29 < (a0.Fibres.length : Int))))), bxB 2003 (eXFamily.b a0), bxB 2007 (eXCategory.b a0.Base)] .nil (by kernel_rfl) (by kernel_rfl) ?_
            rcases Bool.eq_false_or_eq_true (decide (s29 < (a0.Fibres.length : Int))) with h33 | h33
            · have hM := ite_true' hM h33
              refine tr_condTe (e := decide (s29 < (a0.Fibres.length : Int))) h33 (by kernel_rfl) ?_
              refine tr_skip (q_n ?_)
              refine tr_seq ?_
              refine tr_block ?_
              obtain ⟨y34, hy34, hM⟩ := bind_some' hM
              have hy34' := idx_some hy34
              obtain ⟨y35, hy35, hM⟩ := bind_some' hM
              have hy35' := idx_some hy35
              obtain ⟨y36, hy36, hM⟩ := bind_some' hM
              have hy36' := idx_some hy36
              obtain ⟨v37, hv37, hM⟩ := bind_some' hM
              obtain ⟨v38, hv38, hM⟩ := bind_some' hM
              refine tr_sr hT hm [(6, .val (iv y34)), (8, .val (.agg [iv y35.Source.Objects, .sl y35.Source.From.length 0 (y35.Source.From.flatMap eI.b), .sl y35.Source.To.length 0 (y35.Source.To.flatMap eI.b), .sl y35.Source.Identity.length 0 (y35.Source.Identity.flatMap eI.b), .sl y35.Source.Composites.length 0 (y35.Source.Composites.flatMap (eS eI).b), iv y35.Target.Objects, .sl y35.Target.From.length 0 (y35.Target.From.flatMap eI.b), .sl y35.Target.To.length 0 (y35.Target.To.flatMap eI.b), .sl y35.Target.Identity.length 0 (y35.Target.Identity.flatMap eI.b), .sl y35.Target.Composites.length 0 (y35.Target.Composites.flatMap (eS eI).b), .sl y35.Objects.length 0 (y35.Objects.flatMap eI.b), .sl y35.Arrows.length 0 (y35.Arrows.flatMap eI.b)])), (13, .val (.agg [iv y36.Objects, .sl y36.From.length 0 (y36.From.flatMap eI.b), .sl y36.To.length 0 (y36.To.flatMap eI.b), .sl y36.Identity.length 0 (y36.Identity.flatMap eI.b), .sl y36.Composites.length 0 (y36.Composites.flatMap (eS eI).b)])), (14, .call [] [] [.agg (eXCategory.b y36)] [] (.agg (eXFunctor.o v37))), (15, .call (rsR 120000 (eXFunctor.o v37)) [] [.agg (eXFunctor.b y35), .agg (eXFunctor.b v37)] [] (bv v38))] [2, 6, 12, 240, 2003, 2007] [(2, .d (.rp 1001 0)), (6, .d (.rp 1003 0)), (12, .d (iv s29)), (240, .d (bv (!v38))), bxB 2003 (eXFamily.b a0), bxB 2007 (eXCategory.b a0.Base)] (.cons hy34'.1 (.cons hy34'.2.1 (.cons (at_b0 eI_ok hy34'.2.2 (d := iv y34) (by kernel_rfl)) (.cons hy35'.1 (.cons hy35'.2.1 (.cons (sub_b eXFunctor_ok hy35'.2.2) (.cons hy36'.1 (.cons hy36'.2.1 (.cons (sub_b eXCategory_ok hy36'.2.2) (cc0 ok109 (spec_l06Self_c y36 _ hv37) (by kernel_rfl) (cc (B := (rsR 120000 (eXFunctor.o v37))) (ρ := []) (rB := (rsP 120000 (eXFunctor.o v37))) ok108 (spec_l06Same_c y35 v37 _ hv38) (.cons (.same rfl) (.cons (bor_rs eXFunctor_r (q := 120000) (x := v37) (by kernel_rfl) (by kernel_rfl)) .nil)) (.inr ⟨.v, trivial⟩) .nil))))))))))) (by kernel_rfl) (by kernel_rfl) ?_
              rcases Bool.eq_false_or_eq_true v38 with h39 | h39
              · have hM := ite_true' hM h39
                refine tr_condFe (e := !v38) (congrArg not h39) (by kernel_rfl) ?_
                refine tr_skip (b_n (q_n ?_))
                refine tr_r hT hm [] [2, 6, 12, 2003, 2007] [(2, .d (.rp 1001 0)), (6, .d (.rp 1003 0)), (12, .d (iv (IntKind.i64.wrap (s29 + 1)))), bxB 2003 (eXFamily.b a0), bxB 2007 (eXCategory.b a0.Base)] .nil (by kernel_rfl) (by kernel_rfl) (l_n ?_)
                exact trl_start (ks := [2, 6, 12, 2003, 2007]) (by kernel_rfl) (ih31 (IntKind.i64.wrap (s29 + 1)) hM)
              · have hM := ite_false' hM h39
                refine tr_condTe (e := !v38) (congrArg not h39) (by kernel_rfl) ?_
                refine tr_sr hT hm [] [4] [(4, .d (bv false))] .nil (by kernel_rfl) (by kernel_rfl) ?_
                refine tr_ret (b_r (q_r (l_r (b_r (q_r (rg_r ?_))))))
                obtain rfl := Option.some.inj hM
                exact retg (names := []) .nil (by kernel_rfl)
            · have hM := ite_false' hM h33
              refine tr_condFe (e := decide (s29 < (a0.Fibres.length : Int))) h33 (by kernel_rfl) ?_
              refine tr_exit (q_x (l_x (b_h (q_n ?_))))
              refine tr_seq ?_
              refine tr_sr hT hm [] [2, 6, 14, 2003, 2007] [(2, .d (.rp 1001 0)), (6, .d (.rp 1003 0)), (14, .d (iv 0)), bxB 2003 (eXFamily.b a0), bxB 2007 (eXCategory.b a0.Base)] .nil (by kernel_rfl) (by kernel_rfl) ?_
              refine tr_block ?_
              refine tr_iterS (fun (s40 : Int) => [(2, .d (.rp 1001 0)), (6, .d (.rp 1003 0)), (14, .d (iv s40)), bxB 2003 (eXFamily.b a0), bxB 2007 (eXCategory.b a0.Base)]) 0 [2, 6, 14, 2003, 2007] (by kernel_rfl) hM ?_
              intro n43 next41 ih42 s40 hM
              refine tr_seq ?_
              refine tr_sr hT hm [] [2, 6, 14, 250, 2003, 2007] [(2, .d (.rp 1001 0)), (6, .d (.rp 1003 0)), (14, .d (iv s40)), (250, .d (bv (decide (s40 < (a0.Changes.length : Int))))), bxB 2003 (eXFamily.b a0), bxB 2007 (eXCategory.b a0.Base)] .nil (by kernel_rfl) (by kernel_rfl) ?_
              rcases Bool.eq_false_or_eq_true (decide (s40 < (a0.Changes.length : Int))) with h44 | h44
              · have hM := ite_true' hM h44
                refine tr_condTe (e := decide (s40 < (a0.Changes.length : Int))) h44 (by kernel_rfl) ?_
                refine tr_skip (q_n ?_)
                refine tr_seq ?_
                refine tr_block ?_
                refine tr_sr hT hm [] [2, 6, 14, 16, 2003, 2007] [(2, .d (.rp 1001 0)), (6, .d (.rp 1003 0)), (14, .d (iv s40)), (16, .d (iv 0)), bxB 2003 (eXFamily.b a0), bxB 2007 (eXCategory.b a0.Base)] .nil (by kernel_rfl) (by kernel_rfl) ?_
                refine tr_block ?_
                refine tr_iterS (fun (s45 : Int) => [(2, .d (.rp 1001 0)), (6, .d (.rp 1003 0)), (14, .d (iv s40)), (16, .d (iv s45)), bxB 2003 (eXFamily.b a0), bxB 2007 (eXCategory.b a0.Base)]) 0 [2, 6, 14, 16, 2003, 2007] (by kernel_rfl) hM ?_
                intro n48 next46 ih47 s45 hM
                refine tr_seq ?_
                refine tr_sr hT hm [] [2, 6, 14, 16, 264, 2003, 2007] [(2, .d (.rp 1001 0)), (6, .d (.rp 1003 0)), (14, .d (iv s40)), (16, .d (iv s45)), (264, .d (bv (decide (s45 < (a0.Changes.length : Int))))), bxB 2003 (eXFamily.b a0), bxB 2007 (eXCategory.b a0.Base)] .nil (by kernel_rfl) (by kernel_rfl) ?_
                rcases Bool.eq_false_or_eq_true (decide (s45 < (a0.Changes.length : Int))) with h49 | h49
                · have hM := ite_true' hM h49
                  refine tr_condTe (e := decide (s45 < (a0.Changes.length : Int))) h49 (by kernel_rfl) ?_
                  refine tr_skip (q_n ?_)
                  refine tr_seq ?_
                  refine tr_block ?_
                  obtain ⟨y50, hy50, hM⟩ := bind_some' hM
                  have hy50' := idx_some hy50
                  obtain ⟨y51, hy51, hM⟩ := bind_some' hM
                  have hy51' := idx_some hy51
                  rcases Bool.eq_false_or_eq_true (y50 == y51) with h52 | h52
                  · have hM := ite_true' hM h52
                    obtain ⟨y53, hy53, hM⟩ := bind_some' hM
                    have hy53' := idx_some hy53
                    obtain ⟨y54, hy54, hM⟩ := bind_some' hM
                    have hy54' := idx_some hy54
                    obtain ⟨y55, hy55, hM⟩ := bind_some' hM
                    have hy55' := idx_some hy55
                    obtain ⟨y56, hy56, hM⟩ := bind_some' hM
                    have hy56' := idx_some hy56
                    obtain ⟨y57, hy57, hM⟩ := bind_some' hM
                    have hy57' := idx_some hy57
                    obtain ⟨v58, hv58, hM⟩ := bind_some' hM
                    obtain ⟨v59, hv59, hM⟩ := bind_some' hM
                    refine tr_sr hT hm [(4, .val (iv y50)), (9, .val (iv y51)), (11, .val (bv true)), (18, .val (.sl y53.length 0 (y53.flatMap eI.b))), (21, .val (iv y54)), (23, .val (.agg [iv y55.Source.Objects, .sl y55.Source.From.length 0 (y55.Source.From.flatMap eI.b), .sl y55.Source.To.length 0 (y55.Source.To.flatMap eI.b), .sl y55.Source.Identity.length 0 (y55.Source.Identity.flatMap eI.b), .sl y55.Source.Composites.length 0 (y55.Source.Composites.flatMap (eS eI).b), iv y55.Target.Objects, .sl y55.Target.From.length 0 (y55.Target.From.flatMap eI.b), .sl y55.Target.To.length 0 (y55.Target.To.flatMap eI.b), .sl y55.Target.Identity.length 0 (y55.Target.Identity.flatMap eI.b), .sl y55.Target.Composites.length 0 (y55.Target.Composites.flatMap (eS eI).b), .sl y55.Objects.length 0 (y55.Objects.flatMap eI.b), .sl y55.Arrows.length 0 (y55.Arrows.flatMap eI.b)])), (28, .val (.agg [iv y56.Source.Objects, .sl y56.Source.From.length 0 (y56.Source.From.flatMap eI.b), .sl y56.Source.To.length 0 (y56.Source.To.flatMap eI.b), .sl y56.Source.Identity.length 0 (y56.Source.Identity.flatMap eI.b), .sl y56.Source.Composites.length 0 (y56.Source.Composites.flatMap (eS eI).b), iv y56.Target.Objects, .sl y56.Target.From.length 0 (y56.Target.From.flatMap eI.b), .sl y56.Target.To.length 0 (y56.Target.To.flatMap eI.b), .sl y56.Target.Identity.length 0 (y56.Target.Identity.flatMap eI.b), .sl y56.Target.Composites.length 0 (y56.Target.Composites.flatMap (eS eI).b), .sl y56.Objects.length 0 (y56.Objects.flatMap eI.b), .sl y56.Arrows.length 0 (y56.Arrows.flatMap eI.b)])), (33, .val (.agg [iv y57.Source.Objects, .sl y57.Source.From.length 0 (y57.Source.From.flatMap eI.b), .sl y57.Source.To.length 0 (y57.Source.To.flatMap eI.b), .sl y57.Source.Identity.length 0 (y57.Source.Identity.flatMap eI.b), .sl y57.Source.Composites.length 0 (y57.Source.Composites.flatMap (eS eI).b), iv y57.Target.Objects, .sl y57.Target.From.length 0 (y57.Target.From.flatMap eI.b), .sl y57.Target.To.length 0 (y57.Target.To.flatMap eI.b), .sl y57.Target.Identity.length 0 (y57.Target.Identity.flatMap eI.b), .sl y57.Target.Composites.length 0 (y57.Target.Composites.flatMap (eS eI).b), .sl y57.Objects.length 0 (y57.Objects.flatMap eI.b), .sl y57.Arrows.length 0 (y57.Arrows.flatMap eI.b)])), (34, .call [] [] [.agg (eXFunctor.b y56), .agg (eXFunctor.b y57)] [] (.agg (eXFunctor.o v58))), (35, .call (rsR 171000 (eXFunctor.o v58)) [] [.agg (eXFunctor.b y55), .agg (eXFunctor.b v58)] [] (bv v59))] [2, 6, 14, 16, 294, 296, 298, 300, 302, 304, 306, 308, 310, 312, 314, 316, 318, 320, 322, 324, 326, 328, 330, 332, 334, 336, 338, 340, 342, 344, 2003, 2007, 342003, 342005, 342007, 342009, 342013, 342015, 342017, 342019, 342021, 342023] ([(2, .d (.rp 1001 0)), (6, .d (.rp 1003 0)), (14, .d (iv s40)), (16, .d (iv s45)), (294, .d (.rp 1001 6)), (296, .d (.sl a0.Changes.length 0 (a0.Changes.flatMap eXFunctor.b))), (298, .d (.rp 1003 4)), (300, .d (.sl a0.Base.Composites.length 0 (a0.Base.Composites.flatMap (eS eI).b))), (302, .d (iv s40)), (304, .d (.pt (a0.Base.Composites.flatMap (eS eI).b) (0 + s40.toNat * 1))), (306, .d (.sl y53.length 0 (y53.flatMap eI.b))), (308, .d (iv s45)), (310, .d (.pt (y53.flatMap eI.b) (0 + s45.toNat * 1))), (312, .d (iv y54)), (314, .d (.pt (a0.Changes.flatMap eXFunctor.b) (0 + y54.toNat * 12))), (316, .d (.agg (eXFunctor.b y55))), (318, .d (.rp 1001 6)), (320, .d (.sl a0.Changes.length 0 (a0.Changes.flatMap eXFunctor.b))), (322, .d (iv s40)), (324, .d (.pt (a0.Changes.flatMap eXFunctor.b) (0 + s40.toNat * 12))), (326, .d (.agg (eXFunctor.b y56))), (328, .d (.rp 1001 6)), (330, .d (.sl a0.Changes.length 0 (a0.Changes.flatMap eXFunctor.b))), (332, .d (iv s45)), (334, .d (.pt (a0.Changes.flatMap eXFunctor.b) (0 + s45.toNat * 12))), (336, .d (.agg (eXFunctor.b y57))), (338, .d (.agg (rsC 171000 (eXFunctor.o v58)))), (340, .d (bv v59)), (342, .d (bv (!v59))), (344, .d (bv (!v59))), bxB 2003 (eXFamily.b a0), bxB 2007 (eXCategory.b a0.Base)] ++ rsS 171000 (eXFunctor.o v58)) (.cons hy50'.1 (.cons hy50'.2.1 (.cons (at_b0 eI_ok hy50'.2.2 (d := iv y50) (by kernel_rfl)) (.cons hy51'.1 (.cons hy51'.2.1 (.cons (at_b0 eI_ok hy51'.2.2 (d := iv y51) (by kernel_rfl)) (.cons (congrArg (fun b => bv b) h52) (.cons hy53'.1 (.cons hy53'.2.1 (.cons (at_b0 (eS_ok eI_ok) hy53'.2.2 (d := .sl y53.length 0 (y53.flatMap eI.b)) (by kernel_rfl)) (.cons hy54'.1 (.cons hy54'.2.1 (.cons (at_b0 eI_ok hy54'.2.2 (d := iv y54) (by kernel_rfl)) (.cons hy55'.1 (.cons hy55'.2.1 (.cons (sub_b eXFunctor_ok hy55'.2.2) (.cons hy56'.1 (.cons hy56'.2.1 (.cons (sub_b eXFunctor_ok hy56'.2.2) (.cons hy57'.1 (.cons hy57'.2.1 (.cons (sub_b eXFunctor_ok hy57'.2.2) (cc0 ok110 (spec_l06Then_c y56 y57 _ hv58) (by kernel_rfl) (cc (B := (rsR 171000 (eXFunctor.o v58))) (ρ := []) (rB := (rsP 171000 (eXFunctor.o v58))) ok108 (spec_l06Same_c y55 v58 _ hv59) (.cons (.same rfl) (.cons (bor_rs eXFunctor_r (q := 171000) (x := v58) (by kernel_rfl) (by kernel_rfl)) .nil)) (.inr ⟨.v, trivial⟩) .nil)))))))))))))))))))))))) (by kernel_rfl) (by kernel_rfl) ?_
                    rcases Bool.eq_false_or_eq_true v59 with h60 | h60
                    · have hM := ite_true' hM h60
                      refine tr_condFe (e := !v59) (congrArg not h60) (by kernel_rfl) ?_
                      refine tr_skip (b_n (q_n ?_))
                      refine tr_r hT hm [] [2, 6, 14, 16, 294, 296, 298, 300, 302, 304, 306, 308, 310, 312, 314, 316, 318, 320, 322, 324, 326, 328, 330, 332, 334, 336, 338, 340, 342, 2003, 2007, 342003, 342005, 342007, 342009, 342013, 342015, 342017, 342019, 342021, 342023] ([(2, .d (.rp 1001 0)), (6, .d (.rp 1003 0)), (14, .d (iv s40)), (16, .d (iv (IntKind.i64.wrap (s45 + 1)))), (294, .d (.rp 1001 6)), (296, .d (.sl a0.Changes.length 0 (a0.Changes.flatMap eXFunctor.b))), (298, .d (.rp 1003 4)), (300, .d (.sl a0.Base.Composites.length 0 (a0.Base.Composites.flatMap (eS eI).b))), (302, .d (iv s40)), (304, .d (.pt (a0.Base.Composites.flatMap (eS eI).b) (0 + s40.toNat * 1))), (306, .d (.sl y53.length 0 (y53.flatMap eI.b))), (308, .d (iv s45)), (310, .d (.pt (y53.flatMap eI.b) (0 + s45.toNat * 1))), (312, .d (iv y54)), (314, .d (.pt (a0.Changes.flatMap eXFunctor.b) (0 + y54.toNat * 12))), (316, .d (.agg (eXFunctor.b y55))), (318, .d (.rp 1001 6)), (320, .d (.sl a0.Changes.length 0 (a0.Changes.flatMap eXFunctor.b))), (322, .d (iv s40)), (324, .d (.pt (a0.Changes.flatMap eXFunctor.b) (0 + s40.toNat * 12))), (326, .d (.agg (eXFunctor.b y56))), (328, .d (.rp 1001 6)), (330, .d (.sl a0.Changes.length 0 (a0.Changes.flatMap eXFunctor.b))), (332, .d (iv s45)), (334, .d (.pt (a0.Changes.flatMap eXFunctor.b) (0 + s45.toNat * 12))), (336, .d (.agg (eXFunctor.b y57))), (338, .d (.agg (rsC 171000 (eXFunctor.o v58)))), (340, .d (bv v59)), (342, .d (bv (!v59))), bxB 2003 (eXFamily.b a0), bxB 2007 (eXCategory.b a0.Base)] ++ rsS 171000 (eXFunctor.o v58)) .nil (by kernel_rfl) (by kernel_rfl) (l_n ?_)
                      exact trl_start (ks := [2, 6, 14, 16, 2003, 2007]) (by kernel_rfl) (ih47 (IntKind.i64.wrap (s45 + 1)) hM)
                    · have hM := ite_false' hM h60
                      refine tr_condTe (e := !v59) (congrArg not h60) (by kernel_rfl) ?_
                      refine tr_sr hT hm [] [4] [(4, .d (bv false))] .nil (by kernel_rfl) (by kernel_rfl) ?_
                      refine tr_ret (b_r (q_r (l_r (b_r (b_r (q_r (l_r (b_r (q_r (rg_r ?_))))))))))
                      obtain rfl := Option.some.inj hM
                      exact retg (names := []) .nil (by kernel_rfl)
                  · have hM := ite_false' hM h52
                    refine tr_sr hT hm [(4, .val (iv y50)), (9, .val (iv y51)), (11, .val (bv false))] [2, 6, 14, 16, 344, 2003, 2007] [(2, .d (.rp 1001 0)), (6, .d (.rp 1003 0)), (14, .d (iv s40)), (16, .d (iv s45)), (344, .d (bv false)), bxB 2003 (eXFamily.b a0), bxB 2007 (eXCategory.b a0.Base)] (.cons hy50'.1 (.cons hy50'.2.1 (.cons (at_b0 eI_ok hy50'.2.2 (d := iv y50) (by kernel_rfl)) (.cons hy51'.1 (.cons hy51'.2.1 (.cons (at_b0 eI_ok hy51'.2.2 (d := iv y51) (by kernel_rfl)) (.cons (congrArg (fun b => bv b) h52) .nil))))))) (by kernel_rfl) (by kernel_rfl) ?_
                    refine tr_condF (by kernel_rfl) ?_
                    refine tr_skip (b_n (q_n ?_))
                    refine tr_r hT hm [] [2, 6, 14, 16, 2003, 2007] [(2, .d (.rp 1001 0)), (6, .d (.rp 1003 0)), (14, .d (iv s40)), (16, .d (iv (IntKind.i64.wrap (s45 + 1)))), bxB 2003 (eXFamily.b a0), bxB 2007 (eXCategory.b a0.Base)] .nil (by kernel_rfl) (by kernel_rfl) (l_n ?_)
                    exact trl_start (ks := [2, 6, 14, 16, 2003, 2007]) (by kernel_rfl) (ih47 (IntKind.i64.wrap (s45 + 1)) hM)
                · have hM := ite_false' hM h49
                  refine tr_condFe (e := decide (s45 < (a0.Changes.length : Int))) h49 (by kernel_rfl) ?_
                  refine tr_exit (q_x (l_x (b_h (b_n (q_n ?_)))))
                  refine tr_r hT hm [] [2, 6, 14, 2003, 2007] [(2, .d (.rp 1001 0)), (6, .d (.rp 1003 0)), (14, .d (iv (IntKind.i64.wrap (s40 + 1)))), bxB 2003 (eXFamily.b a0), bxB 2007 (eXCategory.b a0.Base)] .nil (by kernel_rfl) (by kernel_rfl) (l_n ?_)
                  exact trl_start (ks := [2, 6, 14, 2003, 2007]) (by kernel_rfl) (ih42 (IntKind.i64.wrap (s40 + 1)) hM)
              · have hM := ite_false' hM h44
                refine tr_condFe (e := decide (s40 < (a0.Changes.length : Int))) h44 (by kernel_rfl) ?_
                refine tr_exit (q_x (l_x (b_h (q_n ?_))))
                refine tr_sr hT hm [] [4] [(4, .d (bv true))] .nil (by kernel_rfl) (by kernel_rfl) ?_
                refine tr_ret (rg_r ?_)
                obtain rfl := Option.some.inj hM
                exact retg (names := []) .nil (by kernel_rfl)
  · have hM := ite_false' hM h2
    refine tr_sr hT hm [(1, .call [] [] [.agg (eXCategory.b a0.Base)] [] (bv v1)), (3, .val (bv true))] [2, 6, 60, 2003, 2007] [(2, .d (.rp 1001 0)), (6, .d (.rp 1003 0)), (60, .d (bv true)), bxB 2003 (eXFamily.b a0), bxB 2007 (eXCategory.b a0.Base)] (cc0 ok107 (spec_l02Is_c a0.Base _ hv1) (by kernel_rfl) (.cons (congrArg (fun b => bv b) (congrArg not h2)) .nil)) (by kernel_rfl) (by kernel_rfl) ?_
    refine tr_condT (by kernel_rfl) ?_
    refine tr_sr hT hm [] [4] [(4, .d (bv false))] .nil (by kernel_rfl) (by kernel_rfl) ?_
    refine tr_ret (q_r (rg_r ?_))
    obtain rfl := Option.some.inj hM
    exact retg (names := []) .nil (by kernel_rfl)

theorem ok111 : CallOk Try.prog 111 := callOk_of Try.func111 (by kernel_rfl) (by kernel_rfl)
theorem laws_toCategoryS_c (a0 : List XCategory) (r : (List XCategory)) (hM : M.laws_toCategoryS a0 = some r) :
    FnC Try.prog 111 [] [.sl a0.length 0 (a0.flatMap eXCategory.b)] [] (.fr 5 r.length (r.flatMap eXCategory.o)) := by
  refine fnc_startG (N := 23) (np := 500) hT Try.func111 rfl rfl (by kernel_rfl) ?_
  unfold M.laws_toCategoryS at hM
  refine tr_start (ks := [0]) (st' := [(0, .d (.sl a0.length 0 (a0.flatMap eXCategory.b)))]) (by kernel_rfl) ?_
  refine tr_sr hT hm [] [0] [(0, .d (.sl a0.length 0 (a0.flatMap eXCategory.b)))] .nil (by kernel_rfl) (by kernel_rfl) ?_
  obtain ⟨h1, hM⟩ := chk_some hM
  refine tr_sr hT hm [] [0, 6, 2015] [(0, .d (.sl a0.length 0 (a0.flatMap eXCategory.b))), (6, .d (.rs 1007 0 ((a0.length : Int).toNat))), (2015, .r (.arr 5 (repl (a0.length : Int).toNat [.int .i64 0, .slice .none 0 0, .slice .none 0 0, .slice .none 0 0, .slice .none 0 0]) []))] (.cons h1.1 (.cons (Int.le_refl (a0.length : Int)) (.cons h1.2 .nil))) (by kernel_rfl) (by kernel_rfl) ?_
  refine Tr.by (imp_cvL (r := 1007) (sz := 5) (refs := []) (subl_repl (f := eXCategory.o) (zs := [.int .i64 0, .slice .none 0 0, .slice .none 0 0, .slice .none 0 0, .slice .none 0 0]) (z := (⟨0, [], [], [], []⟩ : XCategory)) (.cons (.refl _) (.cons Sub.nil_fr (.cons Sub.nil_fr (.cons Sub.nil_fr (.cons Sub.nil_fr .nil))))) (a0.length : Int).toNat) (repl_hl (by kernel_rfl)) (menO_flat eXCategory_ok _) (by kernel_rfl)) ?_
  refine Tr.by (imp_cvD (k := 6) (congrArg (D.rs 1007 0) (List.length_replicate.symm : (a0.length : Int).toNat = (List.replicate (a0.length : Int).toNat (⟨0, [], [], [], []⟩ : XCategory)).length)) (by kernel_rfl)) ?_
  refine tr_seq ?_
  refine tr_sr hT hm [] [0, 6, 8, 2015] [(0, .d (.sl a0.length 0 (a0.flatMap eXCategory.b))), (6, .d (.rs 1007 0 ((List.replicate (a0.length : Int).toNat (⟨0, [], [], [], []⟩ : XCategory)).length))), (8, .d (iv 0)), (2015, .r (.arr 5 ((List.replicate (a0.length : Int).toNat (⟨0, [], [], [], []⟩ : XCategory)).flatMap eXCategory.o) []))] .nil (by kernel_rfl) (by kernel_rfl) ?_
  refine tr_block ?_
  refine tr_iterS (fun (s2 : (List XCategory) × Int) => [(0, .d (.sl a0.length 0 (a0.flatMap eXCategory.b))), (6, .d (.rs 1007 0 s2.1.length)), (8, .d (iv s2.2)), (2015, .r (.arr 5 (s2.1.flatMap eXCategory.o) []))]) ((List.replicate (a0.length : Int).toNat (⟨0, [], [], [], []⟩ : XCategory)), 0) [0, 6, 8, 2015] (by kernel_rfl) hM ?_
  intro n5 next3 ih4 s2 hM
  refine tr_seq ?_
  refine tr_sr hT hm [] [0, 6, 8, 22, 2015] [(0, .d (.sl a0.length 0 (a0.flatMap eXCategory.b))), (6, .d (.rs 1007 0 s2.1.length)), (8, .d (iv s2.2)), (22, .d (bv (decide (s2.2 < (a0.length : Int))))), (2015, .r (.arr 5 (s2.1.flatMap eXCategory.o) []))] .nil (by kernel_rfl) (by kernel_rfl) ?_
  rcases Bool.eq_false_or_eq_true (decide (s2.2 < (a0.length : Int))) with h6 | h6
  · have hM := ite_true' hM h6
    refine tr_condTe (e := decide (s2.2 < (a0.length : Int))) h6 (by kernel_rfl) ?_
    refine tr_skip (q_n ?_)
    refine tr_seq ?_
    refine tr_block ?_
    obtain ⟨y7, hy7, hM⟩ := bind_some' hM
    have hy7' := idx_some hy7
    obtain ⟨v8, hv8, hM⟩ := bind_some' hM
    obtain ⟨y9, hy9, hM⟩ := bind_some' hM
    have hy9' := idx_some hy9
    refine tr_r hT hm [(5, .val (.agg [iv y7.Objects, .sl y7.From.length 0 (y7.From.flatMap eI.b), .sl y7.To.length 0 (y7.To.flatMap eI.b), .sl y7.Identity.length 0 (y7.Identity.flatMap eI.b), .sl y7.Composites.length 0 (y7.Composites.flatMap (eS eI).b)])), (6, .call [] [] [.agg (eXCategory.b y7)] [] (.agg (eXCategory.o v8)))] [0, 6, 8, 2015, 44003, 44005, 44007, 44009] ([(0, .d (.sl a0.length 0 (a0.flatMap eXCategory.b))), (6, .d (.rs 1007 0 s2.1.length)), (8, .d (iv s2.2)), (2015, .r (.arr 5 ((s2.1.flatMap eXCategory.o).take (0 + s2.2.toNat * 5) ++ [iv v8.Objects, .rs 22001 0 v8.From.length, .rs 22002 0 v8.To.length, .rs 22003 0 v8.Identity.length, .rs 22004 0 v8.Composites.length] ++ (s2.1.flatMap eXCategory.o).drop (0 + s2.2.toNat * 5 + 5)) [22001, 22002, 22003, 22004]))] ++ rsS 22000 (eXCategory.o v8)) (.cons hy7'.1 (.cons hy7'.2.1 (.cons (sub_b eXCategory_ok hy7'.2.2) (cc0 ok49 (laws_toCategory_c y7 _ hv8) (by kernel_rfl) (.cons hy9'.1 (.cons hy9'.2.1 (.cons (store_le eXCategory_ok hy9'.2.2) .nil))))))) (by kernel_rfl) (by kernel_rfl) (b_n (q_n ?_))
    refine Tr.by (imp_dem (r := 1007) (q := 22001) (sz := 5) (n := v8.From.length) (j := 1) (pre := (s2.1.flatMap eXCategory.o).take (0 + s2.2.toNat * 5)) (l := [iv v8.Objects, .rs 22001 0 v8.From.length, .rs 22002 0 v8.To.length, .rs 22003 0 v8.Identity.length, .rs 22004 0 v8.Composites.length]) (post := (s2.1.flatMap eXCategory.o).drop (0 + s2.2.toNat * 5 + 5)) (refs := [22001, 22002, 22003, 22004]) (refs' := [22002, 22003, 22004]) (menO_take eXCategory_ok _ _) (menO_drop eXCategory_ok _ _) (lenO_flat eI_ok v8.From) (by kernel_rfl) (by kernel_rfl) (by kernel_rfl) (by kernel_rfl) (by kernel_rfl)) ?_
    refine Tr.by (imp_dem (r := 1007) (q := 22002) (sz := 5) (n := v8.To.length) (j := 2) (pre := (s2.1.flatMap eXCategory.o).take (0 + s2.2.toNat * 5)) (l := [iv v8.Objects, .fr 1 v8.From.length (v8.From.flatMap eI.o), .rs 22002 0 v8.To.length, .rs 22003 0 v8.Identity.length, .rs 22004 0 v8.Composites.length]) (post := (s2.1.flatMap eXCategory.o).drop (0 + s2.2.toNat * 5 + 5)) (refs := [22002, 22003, 22004]) (refs' := [22003, 22004]) (menO_take eXCategory_ok _ _) (menO_drop eXCategory_ok _ _) (lenO_flat eI_ok v8.To) (by kernel_rfl) (by kernel_rfl) (by kernel_rfl) (by kernel_rfl) (by kernel_rfl)) ?_
    refine Tr.by (imp_dem (r := 1007) (q := 22003) (sz := 5) (n := v8.Identity.length) (j := 3) (pre := (s2.1.flatMap eXCategory.o).take (0 + s2.2.toNat * 5)) (l := [iv v8.Objects, .fr 1 v8.From.length (v8.From.flatMap eI.o), .fr 1 v8.To.length (v8.To.flatMap eI.o), .rs 22003 0 v8.Identity.length, .rs 22004 0 v8.Composites.length]) (post := (s2.1.flatMap eXCategory.o).drop (0 + s2.2.toNat * 5 + 5)) (refs := [22003, 22004]) (refs' := [22004]) (menO_take eXCategory_ok _ _) (menO_drop eXCategory_ok _ _) (lenO_flat eI_ok v8.Identity) (by kernel_rfl) (by kernel_rfl) (by kernel_rfl) (by kernel_rfl) (by kernel_rfl)) ?_
    refine Tr.by (imp_dem (r := 1007) (q := 22004) (sz := 5) (n := v8.Composites.length) (j := 4) (pre := (s2.1.flatMap eXCategory.o).take (0 + s2.2.toNat * 5)) (l := [iv v8.Objects, .fr 1 v8.From.length (v8.From.flatMap eI.o), .fr 1 v8.To.length (v8.To.flatMap eI.o), .fr 1 v8.Identity.length (v8.Identity.flatMap eI.o), .rs 22004 0 v8.Composites.length]) (post := (s2.1.flatMap eXCategory.o).drop (0 + s2.2.toNat * 5 + 5)) (refs := [22004]) (refs' := []) (menO_take eXCategory_ok _ _) (menO_drop eXCategory_ok _ _) (lenO_flat (eS_ok eI_ok) v8.Composites) (by kernel_rfl) (by kernel_rfl) (by kernel_rfl) (by kernel_rfl) (by kernel_rfl)) ?_
    refine Tr.by (imp_cvE (r := 1007) (sz := 5) (refs := []) (set_flat eXCategory_ok.lenO (y := v8) hy9'.2.2) (menO_flat eXCategory_ok _) (by kernel_rfl)) ?_
    refine Tr.by (imp_cvD (k := 6) (congrArg (D.rs 1007 0) (List.length_set.symm : s2.1.length = (s2.1.set s2.2.toNat v8).length)) (by kernel_rfl)) ?_
    refine tr_r hT hm [] [0, 6, 8, 2015] [(0, .d (.sl a0.length 0 (a0.flatMap eXCategory.b))), (6, .d (.rs 1007 0 ((s2.1.set s2.2.toNat v8).length))), (8, .d (iv (IntKind.i64.wrap (s2.2 + 1)))), (2015, .r (.arr 5 ((s2.1.set s2.2.toNat v8).flatMap eXCategory.o) []))] .nil (by kernel_rfl) (by kernel_rfl) (l_n ?_)
    exact trl_start (ks := [0, 6, 8, 2015]) (by kernel_rfl) (ih4 (s2.1.set s2.2.toNat v8, IntKind.i64.wrap (s2.2 + 1)) hM)
  · have hM := ite_false' hM h6
    refine tr_condFe (e := decide (s2.2 < (a0.length : Int))) h6 (by kernel_rfl) ?_
    refine tr_exit (q_x (l_x (b_h (q_n ?_))))
    refine tr_sr hT hm [] [4, 2015] [(4, .d (.rs 1007 0 s2.1.length)), (2015, .r (.arr 5 (s2.1.flatMap eXCategory.o) []))] .nil (by kernel_rfl) (by kernel_rfl) ?_
    refine tr_ret (rg_r ?_)
    obtain rfl := Option.some.inj hM
    exact retg (names := []) (.cons (lenO_flat eXCategory_ok s2.1) .nil) (by kernel_rfl)

theorem ok112 : CallOk Try.prog 112 := callOk_of Try.func112 (by kernel_rfl) (by kernel_rfl)
theorem laws_toFunctorS_c (a0 : List XFunctor) (r : (List XFunctor)) (hM : M.laws_toFunctorS a0 = some r) :
    FnC Try.prog 112 [] [.sl a0.length 0 (a0.flatMap eXFunctor.b)] [] (.fr 12 r.length (r.flatMap eXFunctor.o)) := by
  refine fnc_startG (N := 23) (np := 500) hT Try.func112 rfl rfl (by kernel_rfl) ?_
  unfold M.laws_toFunctorS at hM
  refine tr_start (ks := [0]) (st' := [(0, .d (.sl a0.length 0 (a0.flatMap eXFunctor.b)))]) (by kernel_rfl) ?_
  refine tr_sr hT hm [] [0] [(0, .d (.sl a0.length 0 (a0.flatMap eXFunctor.b)))] .nil (by kernel_rfl) (by kernel_rfl) ?_
  obtain ⟨h1, hM⟩ := chk_some hM
  refine tr_sr hT hm [] [0, 6, 2015] [(0, .d (.sl a0.length 0 (a0.flatMap eXFunctor.b))), (6, .d (.rs 1007 0 ((a0.length : Int).toNat))), (2015, .r (.arr 12 (repl (a0.length : Int).toNat [.int .i64 0, .slice .none 0 0, .slice .none 0 0, .slice .none 0 0, .slice .none 0 0, .int .i64 0, .slice .none 0 0, .slice .none 0 0, .slice .none 0 0, .slice .none 0 0, .slice .none 0 0, .slice .none 0 0]) []))] (.cons h1.1 (.cons (Int.le_refl (a0.length : Int)) (.cons h1.2 .nil))) (by kernel_rfl) (by kernel_rfl) ?_
  refine Tr.by (imp_cvL (r := 1007) (sz := 12) (refs := []) (subl_repl (f := eXFunctor.o) (zs := [.int .i64 0, .slice .none 0 0, .slice .none 0 0, .slice .none 0 0, .slice .none 0 0, .int .i64 0, .slice .none 0 0, .slice .none 0 0, .slice .none 0 0, .slice .none 0 0, .slice .none 0 0, .slice .none 0 0]) (z := (⟨⟨0, [], [], [], []⟩, ⟨0, [], [], [], []⟩, [], []⟩ : XFunctor)) (.cons (.refl _) (.cons Sub.nil_fr (.cons Sub.nil_fr (.cons Sub.nil_fr (.cons Sub.nil_fr (.cons (.refl _) (.cons Sub.nil_fr (.cons Sub.nil_fr (.cons Sub.nil_fr (.cons Sub.nil_fr (.cons Sub.nil_fr (.cons Sub.nil_fr .nil)))))))))))) (a0.length : Int).toNat) (repl_hl (by kernel_rfl)) (menO_flat eXFunctor_ok _) (by kernel_rfl)) ?_
  refine Tr.by (imp_cvD (k := 6) (congrArg (D.rs 1007 0) (List.length_replicate.symm : (a0.length : Int).toNat = (List.replicate (a0.length : Int).toNat (⟨⟨0, [], [], [], []⟩, ⟨0, [], [], [], []⟩, [], []⟩ : XFunctor)).length)) (by kernel_rfl)) ?_
  refine tr_seq ?_
  refine tr_sr hT hm [] [0, 6, 8, 2015] [(0, .d (.sl a0.length 0 (a0.flatMap eXFunctor.b))), (6, .d (.rs 1007 0 ((List.replicate (a0.length : Int).toNat (⟨⟨0, [], [], [], []⟩, ⟨0, [], [], [], []⟩, [], []⟩ : XFunctor)).length))), (8, .d (iv 0)), (2015, .r (.arr 12 ((List.replicate (a0.length : Int).toNat (⟨⟨0, [], [], [], []⟩, ⟨0, [], [], [], []⟩, [], []⟩ : XFunctor)).flatMap eXFunctor.o) []))] .nil (by kernel_rfl) (by kernel_rfl) ?_
  refine tr_block ?_
  refine tr_iterS (fun (s2 : (List XFunctor) × Int) => [(0, .d (.sl a0.length 0 (a0.flatMap eXFunctor.b))), (6, .d (.rs 1007 0 s2.1.length)), (8, .d (iv s2.2)), (2015, .r (.arr 12 (s2.1.flatMap eXFunctor.o) []))]) ((List.replicate (a0.length : Int).toNat (⟨⟨0, [], [], [], []⟩, ⟨0, [], [], [], []⟩, [], []⟩ : XFunctor)), 0) [0, 6, 8, 2015] (by kernel_rfl) hM ?_
  intro n5 next3 ih4 s2 hM
  refine tr_seq ?_
  refine tr_sr hT hm [] [0, 6, 8, 22, 2015] [(0, .d (.sl a0.length 0 (a0.flatMap eXFunctor.b))), (6, .d (.rs 1007 0 s2.1.length)), (8, .d (iv s2.2)), (22, .d (bv (decide (s2.2 < (a0.length : Int))))), (2015, .r (.arr 12 (s2.1.flatMap eXFunctor.o) []))] .nil (by kernel_rfl) (by kernel_rfl) ?_
  rcases Bool.eq_false_or_eq_true (decide (s2.2 < (a0.length : Int))) with h6 | h6
  · have hM := ite_true' hM h6
    refine tr_condTe (e := decide (s2.2 < (a0.length : Int))) h6 (by kernel_rfl) ?_
    refine tr_skip (q_n ?_)
    refine tr_seq ?_
    refine tr_block ?_
    obtain ⟨y7, hy7, hM⟩ := bind_some' hM
    have hy7' := idx_some hy7
    obtain ⟨v8, hv8, hM⟩ := bind_some' hM
    obtain ⟨y9, hy9, hM⟩ := bind_some' hM
    have hy9' := idx_some hy9
    refine tr_r hT hm [(5, .val (.agg [iv y7.Source.Objects, .sl y7.Source.From.length 0 (y7.Source.From.flatMap eI.b), .sl y7.Source.To.length 0 (y7.Source.To.flatMap eI.b), .sl y7.Source.Identity.length 0 (y7.Source.Identity.flatMap eI.b), .sl y7.Source.Composites.length 0 (y7.Source.Composites.flatMap (eS eI).b), iv y7.Target.Objects, .sl y7.Target.From.length 0 (y7.Target.From.flatMap eI.b), .sl y7.Target.To.length 0 (y7.Target.To.flatMap eI.b), .sl y7.Target.Identity.length 0 (y7.Target.Identity.flatMap eI.b), .sl y7.Target.Composites.length 0 (y7.Target.Composites.flatMap (eS eI).b), .sl y7.Objects.length 0 (y7.Objects.flatMap eI.b), .sl y7.Arrows.length 0 (y7.Arrows.flatMap eI.b)])), (6, .call [] [] [.agg (eXFunctor.b y7)] [] (.agg (eXFunctor.o v8)))] [0, 6, 8, 2015, 44003, 44005, 44007, 44009, 44013, 44015, 44017, 44019, 44021, 44023] ([(0, .d (.sl a0.length 0 (a0.flatMap eXFunctor.b))), (6, .d (.rs 1007 0 s2.1.length)), (8, .d (iv s2.2)), (2015, .r (.arr 12 ((s2.1.flatMap eXFunctor.o).take (0 + s2.2.toNat * 12) ++ [iv v8.Source.Objects, .rs 22001 0 v8.Source.From.length, .rs 22002 0 v8.Source.To.length, .rs 22003 0 v8.Source.Identity.length, .rs 22004 0 v8.Source.Composites.length, iv v8.Target.Objects, .rs 22006 0 v8.Target.From.length, .rs 22007 0 v8.Target.To.length, .rs 22008 0 v8.Target.Identity.length, .rs 22009 0 v8.Target.Composites.length, .rs 22010 0 v8.Objects.length, .rs 22011 0 v8.Arrows.length] ++ (s2.1.flatMap eXFunctor.o).drop (0 + s2.2.toNat * 12 + 12)) [22001, 22002, 22003, 22004, 22006, 22007, 22008, 22009, 22010, 22011]))] ++ rsS 22000 (eXFunctor.o v8)) (.cons hy7'.1 (.cons hy7'.2.1 (.cons (sub_b eXFunctor_ok hy7'.2.2) (cc0 ok24 (laws_toFunctor_c y7 _ hv8) (by kernel_rfl) (.cons hy9'.1 (.cons hy9'.2.1 (.cons (store_le eXFunctor_ok hy9'.2.2) .nil))))))) (by kernel_rfl) (by kernel_rfl) (b_n (q_n ?_))
    refine Tr.by (imp_dem (r := 1007) (q := 22001) (sz := 12) (n := v8.Source.From.length) (j := 1) (pre := (s2.1.flatMap eXFunctor.o).take (0 + s2.2.toNat * 12)) (l := [iv v8.Source.Objects, .rs 22001 0 v8.Source.From.length, .rs 22002 0 v8.Source.To.length, .rs 22003 0 v8.Source.Identity.length, .rs 22004 0 v8.Source.Composites.length, iv v8.Target.Objects, .rs 22006 0 v8.Target.From.length, .rs 22007 0 v8.Target.To.length, .rs 22008 0 v8.Target.Identity.length, .rs 22009 0 v8.Target.Composites.length, .rs 22010 0 v8.Objects.length, .rs 22011 0 v8.Arrows.length]) (post := (s2.1.flatMap eXFunctor.o).drop (0 + s2.2.toNat * 12 + 12)) (refs := [22001, 22002, 22003, 22004, 22006, 22007, 22008, 22009, 22010, 22011]) (refs' := [22002, 22003, 22004, 22006, 22007, 22008, 22009, 22010, 22011]) (menO_take eXFunctor_ok _ _) (menO_drop eXFunctor_ok _ _) (lenO_flat eI_ok v8.Source.From) (by kernel_rfl) (by kernel_rfl) (by kernel_rfl) (by kernel_rfl) (by kernel_rfl)) ?_
    refine Tr.by (imp_dem (r := 1007) (q := 22002) (sz := 12) (n := v8.Source.To.length) (j := 2) (pre := (s2.1.flatMap eXFunctor.o).take (0 + s2.2.toNat * 12)) (l := [iv v8.Source.Objects, .fr 1 v8.Source.From.length (v8.Source.From.flatMap eI.o), .rs 22002 0 v8.Source.To.length, .rs 22003 0 v8.Source.Identity.length, .rs 22004 0 v8.Source.Composites.length, iv v8.Target.Objects, .rs 22006 0 v8.Target.From.length, .rs 22007 0 v8.Target.To.length, .rs 22008 0 v8.Target.Identity.length, .rs 22009 0 v8.Target.Composites.length, .rs 22010 0 v8.Objects.length, .rs 22011 0 v8.Arrows.length]) (post := (s2.1.flatMap eXFunctor.o).drop (0 + s2.2.toNat * 12 + 12)) (refs := [22002, 22003, 22004, 22006, 22007, 22008, 22009, 22010, 22011]) (refs' := [22003, 22004, 22006, 22007, 22008, 22009, 22010, 22011]) (menO_take eXFunctor_ok _ _) (menO_drop eXFunctor_ok _ _) (lenO_flat eI_ok v8.Source.To) (by kernel_rfl) (by kernel_rfl) (by kernel_rfl) (by kernel_rfl) (by kernel_rfl)) ?_
    refine Tr.by (imp_dem (r := 1007) (q := 22003) (sz := 12) (n := v8.Source.Identity.length) (j := 3) (pre := (s2.1.flatMap eXFunctor.o).take (0 + s2.2.toNat * 12)) (l := [iv v8.Source.Objects, .fr 1 v8.Source.From.length (v8.Source.From.flatMap eI.o), .fr 1 v8.Source.To.length (v8.Source.To.flatMap eI.o), .rs 22003 0 v8.Source.Identity.length, .rs 22004 0 v8.Source.Composites.length, iv v8.Target.Objects, .rs 22006 0 v8.Target.From.length, .rs 22007 0 v8.Target.To.length, .rs 22008 0 v8.Target.Identity.length, .rs 22009 0 v8.Target.Composites.length, .rs 22010 0 v8.Objects.length, .rs 22011 0 v8.Arrows.length]) (post := (s2.1.flatMap eXFunctor.o).drop (0 + s2.2.toNat * 12 + 12)) (refs := [22003, 22004, 22006, 22007, 22008, 22009, 22010, 22011]) (refs' := [22004, 22006, 22007, 22008, 22009, 22010, 22011]) (menO_take eXFunctor_ok _ _) (menO_drop eXFunctor_ok _ _) (lenO_flat eI_ok v8.Source.Identity) (by kernel_rfl) (by kernel_rfl) (by kernel_rfl) (by kernel_rfl) (by kernel_rfl)) ?_
    refine Tr.by (imp_dem (r := 1007) (q := 22004) (sz := 12) (n := v8.Source.Composites.length) (j := 4) (pre := (s2.1.flatMap eXFunctor.o).take (0 + s2.2.toNat * 12)) (l := [iv v8.Source.Objects, .fr 1 v8.Source.From.length (v8.Source.From.flatMap eI.o), .fr 1 v8.Source.To.length (v8.Source.To.flatMap eI.o), .fr 1 v8.Source.Identity.length (v8.Source.Identity.flatMap eI.o), .rs 22004 0 v8.Source.Composites.length, iv v8.Target.Objects, .rs 22006 0 v8.Target.From.length, .rs 22007 0 v8.Target.To.length, .rs 22008 0 v8.Target.Identity.length, .rs 22009 0 v8.Target.Composites.length, .rs 22010 0 v8.Objects.length, .rs 22011 0 v8.Arrows.length]) (post := (s2.1.flatMap eXFunctor.o).drop (0 + s2.2.toNat * 12 + 12)) (refs := [22004, 22006, 22007, 22008, 22009, 22010, 22011]) (refs' := [22006, 22007, 22008, 22009, 22010, 22011]) (menO_take eXFunctor_ok _ _) (menO_drop eXFunctor_ok _ _) (lenO_flat (eS_ok eI_ok) v8.Source.Composites) (by kernel_rfl) (by kernel_rfl) (by kernel_rfl) (by kernel_rfl) (by kernel_rfl)) ?_
    refine Tr.by (imp_dem (r := 1007) (q := 22006) (sz := 12) (n := v8.Target.From.length) (j := 6) (pre := (s2.1.flatMap eXFunctor.o).take (0 + s2.2.toNat * 12)) (l := [iv v8.Source.Objects, .fr 1 v8.Source.From.length (v8.Source.From.flatMap eI.o), .fr 1 v8.Source.To.length (v8.Source.To.flatMap eI.o), .fr 1 v8.Source.Identity.length (v8.Source.Identity.flatMap eI.o), .fr 1 v8.Source.Composites.length (v8.Source.Composites.flatMap (eS eI).o), iv v8.Target.Objects, .rs 22006 0 v8.Target.From.length, .rs 22007 0 v8.Target.To.length, .rs 22008 0 v8.Target.Identity.length, .rs 22009 0 v8.Target.Composites.length, .rs 22010 0 v8.Objects.length, .rs 22011 0 v8.Arrows.length]) (post := (s2.1.flatMap eXFunctor.o).drop (0 + s2.2.toNat * 12 + 12)) (refs := [22006, 22007, 22008, 22009, 22010, 22011]) (refs' := [22007, 22008, 22009, 22010, 22011]) (menO_take eXFunctor_ok _ _) (menO_drop eXFunctor_ok _ _) (lenO_flat eI_ok v8.Target.From) (by kernel_rfl) (by kernel_rfl) (by kernel_rfl) (by kernel_rfl) (by kernel_rfl)) ?_
    refine Tr.by (imp_dem (r := 1007) (q := 22007) (sz := 12) (n := v8.Target.To.length) (j := 7) (pre := (s2.1.flatMap eXFunctor.o).take (0 + s2.2.toNat * 12)) (l := [iv v8.Source.Objects, .fr 1 v8.Source.From.length (v8.Source.From.flatMap eI.o), .fr 1 v8.Source.To.length (v8.Source.To.flatMap eI.o), .fr 1 v8.Source.Identity.length (v8.Source.Identity.flatMap eI.o), .fr 1 v8.Source.Composites.length (v8.Source.Composites.flatMap (eS eI).o), iv v8.Target.Objects, .fr 1 v8.Target.From.length (v8.Target.From.flatMap eI.o), .rs 22007 0 v8.Target.To.length, .rs 22008 0 v8.Target.Identity.length, .rs 22009 0 v8.Target.Composites.length, .rs 22010 0 v8.Objects.length, .rs 22011 0 v8.Arrows.length]) (post := (s2.1.flatMap eXFunctor.o).drop (0 + s2.2.toNat * 12 + 12)) (refs := [22007, 22008, 22009, 22010, 22011]) (refs' := [22008, 22009, 22010, 22011]) (menO_take eXFunctor_ok _ _) (menO_drop eXFunctor_ok _ _) (lenO_flat eI_ok v8.Target.To) (by kernel_rfl) (by kernel_rfl) (by kernel_rfl) (by kernel_rfl) (by kernel_rfl)) ?_
    refine Tr.by (imp_dem (r := 1007) (q := 22008) (sz := 12) (n := v8.Target.Identity.length) (j := 8) (pre := (s2.1.flatMap eXFunctor.o).take (0 + s2.2.toNat * 12)) (l := [iv v8.Source.Objects, .fr 1 v8.Source.From.length (v8.Source.From.flatMap eI.o), .fr 1 v8.Source.To.length (v8.Source.To.flatMap eI.o), .fr 1 v8.Source.Identity.length (v8.Source.Identity.flatMap eI.o), .fr 1 v8.Source.Composites.length (v8.Source.Composites.flatMap (eS eI).o), iv v8.Target.Objects, .fr 1 v8.Target.From.length (v8.Target.From.flatMap eI.o), .fr 1 v8.Target.To.length (v8.Target.To.flatMap eI.o), .rs 22008 0 v8.Target.Identity.length, .rs 22009 0 v8.Target.Composites.length, .rs 22010 0 v8.Objects.length, .rs 22011 0 v8.Arrows.length]) (post := (s2.1.flatMap eXFunctor.o).drop (0 + s2.2.toNat * 12 + 12)) (refs := [22008, 22009, 22010, 22011]) (refs' := [22009, 22010, 22011]) (menO_take eXFunctor_ok _ _) (menO_drop eXFunctor_ok _ _) (lenO_flat eI_ok v8.Target.Identity) (by kernel_rfl) (by kernel_rfl) (by kernel_rfl) (by kernel_rfl) (by kernel_rfl)) ?_
    refine Tr.by (imp_dem (r := 1007) (q := 22009) (sz := 12) (n := v8.Target.Composites.length) (j := 9) (pre := (s2.1.flatMap eXFunctor.o).take (0 + s2.2.toNat * 12)) (l := [iv v8.Source.Objects, .fr 1 v8.Source.From.length (v8.Source.From.flatMap eI.o), .fr 1 v8.Source.To.length (v8.Source.To.flatMap eI.o), .fr 1 v8.Source.Identity.length (v8.Source.Identity.flatMap eI.o), .fr 1 v8.Source.Composites.length (v8.Source.Composites.flatMap (eS eI).o), iv v8.Target.Objects, .fr 1 v8.Target.From.length (v8.Target.From.flatMap eI.o), .fr 1 v8.Target.To.length (v8.Target.To.flatMap eI.o), .fr 1 v8.Target.Identity.length (v8.Target.Identity.flatMap eI.o), .rs 22009 0 v8.Target.Composites.length, .rs 22010 0 v8.Objects.length, .rs 22011 0 v8.Arrows.length]) (post := (s2.1.flatMap eXFunctor.o).drop (0 + s2.2.toNat * 12 + 12)) (refs := [22009, 22010, 22011]) (refs' := [22010, 22011]) (menO_take eXFunctor_ok _ _) (menO_drop eXFunctor_ok _ _) (lenO_flat (eS_ok eI_ok) v8.Target.Composites) (by kernel_rfl) (by kernel_rfl) (by kernel_rfl) (by kernel_rfl) (by kernel_rfl)) ?_
    refine Tr.by (imp_dem (r := 1007) (q := 22010) (sz := 12) (n := v8.Objects.length) (j := 10) (pre := (s2.1.flatMap eXFunctor.o).take (0 + s2.2.toNat * 12)) (l := [iv v8.Source.Objects, .fr 1 v8.Source.From.length (v8.Source.From.flatMap eI.o), .fr 1 v8.Source.To.length (v8.Source.To.flatMap eI.o), .fr 1 v8.Source.Identity.length (v8.Source.Identity.flatMap eI.o), .fr 1 v8.Source.Composites.length (v8.Source.Composites.flatMap (eS eI).o), iv v8.Target.Objects, .fr 1 v8.Target.From.length (v8.Target.From.flatMap eI.o), .fr 1 v8.Target.To.length (v8.Target.To.flatMap eI.o), .fr 1 v8.Target.Identity.length (v8.Target.Identity.flatMap eI.o), .fr 1 v8.Target.Composites.length (v8.Target.Composites.flatMap (eS eI).o), .rs 22010 0 v8.Objects.length, .rs 22011 0 v8.Arrows.length]) (post := (s2.1.flatMap eXFunctor.o).drop (0 + s2.2.toNat * 12 + 12)) (refs := [22010, 22011]) (refs' := [22011]) (menO_take eXFunctor_ok _ _) (menO_drop eXFunctor_ok _ _) (lenO_flat eI_ok v8.Objects) (by kernel_rfl) (by kernel_rfl) (by kernel_rfl) (by kernel_rfl) (by kernel_rfl)) ?_
    refine Tr.by (imp_dem (r := 1007) (q := 22011) (sz := 12) (n := v8.Arrows.length) (j := 11) (pre := (s2.1.flatMap eXFunctor.o).take (0 + s2.2.toNat * 12)) (l := [iv v8.Source.Objects, .fr 1 v8.Source.From.length (v8.Source.From.flatMap eI.o), .fr 1 v8.Source.To.length (v8.Source.To.flatMap eI.o), .fr 1 v8.Source.Identity.length (v8.Source.Identity.flatMap eI.o), .fr 1 v8.Source.Composites.length (v8.Source.Composites.flatMap (eS eI).o), iv v8.Target.Objects, .fr 1 v8.Target.From.length (v8.Target.From.flatMap eI.o), .fr 1 v8.Target.To.length (v8.Target.To.flatMap eI.o), .fr 1 v8.Target.Identity.length (v8.Target.Identity.flatMap eI.o), .fr 1 v8.Target.Composites.length (v8.Target.Composites.flatMap (eS eI).o), .fr 1 v8.Objects.length (v8.Objects.flatMap eI.o), .rs 22011 0 v8.Arrows.length]) (post := (s2.1.flatMap eXFunctor.o).drop (0 + s2.2.toNat * 12 + 12)) (refs := [22011]) (refs' := []) (menO_take eXFunctor_ok _ _) (menO_drop eXFunctor_ok _ _) (lenO_flat eI_ok v8.Arrows) (by kernel_rfl) (by kernel_rfl) (by kernel_rfl) (by kernel_rfl) (by kernel_rfl)) ?_
    refine Tr.by (imp_cvE (r := 1007) (sz := 12) (refs := []) (set_flat eXFunctor_ok.lenO (y := v8) hy9'.2.2) (menO_flat eXFunctor_ok _) (by kernel_rfl)) ?_
    refine Tr.by (imp_cvD (k := 6) (congrArg (D.rs 1007 0) (List.length_set.symm : s2.1.length = (s2.1.set s2.2.toNat v8).length)) (by kernel_rfl)) ?_
    refine tr_r hT hm [] [0, 6, 8, 2015] [(0, .d (.sl a0.length 0 (a0.flatMap eXFunctor.b))), (6, .d (.rs 1007 0 ((s2.1.set s2.2.toNat v8).length))), (8, .d (iv (IntKind.i64.wrap (s2.2 + 1)))), (2015, .r (.arr 12 ((s2.1.set s2.2.toNat v8).flatMap eXFunctor.o) []))] .nil (by kernel_rfl) (by kernel_rfl) (l_n ?_)
    exact trl_start (ks := [0, 6, 8, 2015]) (by kernel_rfl) (ih4 (s2.1.set s2.2.toNat v8, IntKind.i64.wrap (s2.2 + 1)) hM)
  · have hM := ite_false' hM h6
    refine tr_condFe (e := decide (s2.2 < (a0.length : Int))) h6 (by kernel_rfl) ?_
    refine tr_exit (q_x (l_x (b_h (q_n ?_))))
    refine tr_sr hT hm [] [4, 2015] [(4, .d (.rs 1007 0 s2.1.length)), (2015, .r (.arr 12 (s2.1.flatMap eXFunctor.o) []))] .nil (by kernel_rfl) (by kernel_rfl) ?_
    refine tr_ret (rg_r ?_)
    obtain rfl := Option.some.inj hM
    exact retg (names := []) (.cons (lenO_flat eXFunctor_ok s2.1) .nil) (by kernel_rfl)

theorem ok39 : CallOk Try.prog 39 := callOk_of Try.func39 (by kernel_rfl) (by kernel_rfl)
theorem laws_toFamily_c (a0 : XFamily) (r : XFamily) (hM : M.laws_toFamily a0 = some r) :
    FnC Try.prog 39 [] [.agg (eXFamily.b a0)] [] (.agg (eXFamily.o r)) := by
  refine fnc_startG (N := 17) (np := 500) hT Try.func39 rfl rfl (by kernel_rfl) ?_
  unfold M.laws_toFamily at hM
  refine tr_start (ks := [0]) (st' := [(0, .d (.agg (eXFamily.b a0)))]) (by kernel_rfl) ?_
  refine tr_sr hT hm [] [2, 4, 2003, 2005] [(2, .d (.rp 1001 0)), (4, .d (.rp 1002 0)), bxB 2003 (eXFamily.b a0), (2005, .r (.arr 1 [iv 0, nilv, nilv, nilv, nilv, nilv, nilv] []))] .nil (by kernel_rfl) (by kernel_rfl) ?_
  refine tr_sr hT hm [] [2, 4, 6, 2003, 2005, 2007] [(2, .d (.rp 1001 0)), (4, .d (.rp 1002 0)), (6, .d (.rp 1003 0)), bxB 2003 (eXFamily.b a0), (2005, .r (.arr 1 [iv 0, nilv, nilv, nilv, nilv, nilv, nilv] [])), (2007, .r (.arr 1 [iv 0, nilv, nilv, nilv, nilv, nilv, nilv] []))] .nil (by kernel_rfl) (by kernel_rfl) ?_
  obtain ⟨v1, hv1, hM⟩ := bind_some' hM
  refine tr_sr hT hm [(2, .call [] [] [.agg (eXCategory.b a0.Base)] [] (.agg (eXCategory.o v1)))] [2, 4, 6, 2003, 2005, 2007, 16003, 16005, 16007, 16009] ([(2, .d (.rp 1001 0)), (4, .d (.rp 1002 0)), (6, .d (.rp 1003 0)), bxB 2003 (eXFamily.b a0), (2005, .r (.arr 1 [iv 0, nilv, nilv, nilv, nilv, nilv, nilv] [])), (2007, .r (.arr 1 [iv v1.Objects, .rs 8001 0 v1.From.length, .rs 8002 0 v1.To.length, .rs 8003 0 v1.Identity.length, .rs 8004 0 v1.Composites.length, nilv, nilv] [8001, 8002, 8003, 8004]))] ++ rsS 8000 (eXCategory.o v1)) (cc0 ok49 (laws_toCategory_c a0.Base _ hv1) (by kernel_rfl) (.cons (Nat.le_of_ble_eq_true (n := 5) (m := 7) rfl) .nil)) (by kernel_rfl) (by kernel_rfl) ?_
  obtain ⟨v2, hv2, hM⟩ := bind_some' hM
  refine tr_sr hT hm [(2, .call [] [] [.sl a0.Fibres.length 0 (a0.Fibres.flatMap eXCategory.b)] [] (.fr 5 v2.length (v2.flatMap eXCategory.o)))] [2, 4, 6, 2003, 2005, 2007, 16003, 16005, 16007, 16009, 24001] ([(2, .d (.rp 1001 0)), (4, .d (.rp 1002 0)), (6, .d (.rp 1003 0)), bxB 2003 (eXFamily.b a0), (2005, .r (.arr 1 [iv 0, nilv, nilv, nilv, nilv, nilv, nilv] [])), (2007, .r (.arr 1 [iv v1.Objects, .rs 8001 0 v1.From.length, .rs 8002 0 v1.To.length, .rs 8003 0 v1.Identity.length, .rs 8004 0 v1.Composites.length, .rs 12000 0 v2.length, nilv] [8001, 8002, 8003, 8004, 12000]))] ++ rsS 8000 (eXCategory.o v1) ++ [(24001, .r (.arr 5 (v2.flatMap eXCategory.o) []))]) (cc0 ok111 (laws_toCategoryS_c a0.Fibres _ hv2) (by kernel_rfl) (.cons (Nat.le_of_ble_eq_true (n := 6) (m := 7) rfl) .nil)) (by kernel_rfl) (by kernel_rfl) ?_
  obtain ⟨v3, hv3, hM⟩ := bind_some' hM
  refine tr_sr hT hm [(2, .call [] [] [.sl a0.Changes.length 0 (a0.Changes.flatMap eXFunctor.b)] [] (.fr 12 v3.length (v3.flatMap eXFunctor.o)))] [4, 6, 2005, 2007, 16003, 16005, 16007, 16009, 24001, 32001] ([(4, .d (.rp 1002 0)), (6, .d (.rp 1003 0)), (2005, .r (.arr 1 [iv 0, nilv, nilv, nilv, nilv, nilv, nilv] [])), (2007, .r (.arr 1 [iv v1.Objects, .rs 8001 0 v1.From.length, .rs 8002 0 v1.To.length, .rs 8003 0 v1.Identity.length, .rs 8004 0 v1.Composites.length, .rs 12000 0 v2.length, .rs 16000 0 v3.length] [8001, 8002, 8003, 8004, 12000, 16000]))] ++ rsS 8000 (eXCategory.o v1) ++ [(24001, .r (.arr 5 (v2.flatMap eXCategory.o) [])), (32001, .r (.arr 12 (v3.flatMap eXFunctor.o) []))]) (cc0 ok112 (laws_toFunctorS_c a0.Changes _ hv3) (by kernel_rfl) (.cons (Nat.le_of_ble_eq_true (n := 7) (m := 7) rfl) .nil)) (by kernel_rfl) (by kernel_rfl) ?_
  refine tr_sr hT hm [] [4, 2005, 16003, 16005, 16007, 16009, 24001, 32001] ([(4, .d (.rp 1002 0)), (2005, .r (.arr 1 [iv v1.Objects, .rs 8001 0 v1.From.length, .rs 8002 0 v1.To.length, .rs 8003 0 v1.Identity.length, .rs 8004 0 v1.Composites.length, .rs 12000 0 v2.length, .rs 16000 0 v3.length] [8001, 8002, 8003, 8004, 12000, 16000]))] ++ rsS 8000 (eXCategory.o v1) ++ [(24001, .r (.arr 5 (v2.flatMap eXCategory.o) [])), (32001, .r (.arr 12 (v3.flatMap eXFunctor.o) []))]) (.cons (Nat.le_of_ble_eq_true (n := 7) (m := 7) rfl) .nil) (by kernel_rfl) (by kernel_rfl) ?_
  refine tr_ret (rg_r ?_)
  obtain rfl := Option.some.inj hM
  exact retg (names := []) (.cons (lenO_flat eI_ok v1.From) (.cons (lenO_flat eI_ok v1.To) (.cons (lenO_flat eI_ok v1.Identity) (.cons (lenO_flat (eS_ok eI_ok) v1.Composites) (.cons (lenO_flat eXCategory_ok v2) (.cons (lenO_flat eXFunctor_ok v3) .nil)))))) (by kernel_rfl)

end Go.Proofs.Ytjmjhhhglbeacaa.Wy32
