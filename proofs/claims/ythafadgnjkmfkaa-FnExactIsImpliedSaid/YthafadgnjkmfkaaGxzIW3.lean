/- Walks. Printed by wip/gen. -/
import Derived.Test.YthafadgnjkmfkaaGxzIW2
namespace Go.Proofs.Ythafadgnjkmfkaa.WzI
open Go.Gx Go.Proofs.Ythafadgnjkmfkaa.WvB Go.Proofs.Ythafadgnjkmfkaa.WyN Go.Proofs.Ythafadgnjkmfkaa.WzC Go.Proofs.Ythafadgnjkmfkaa.WvI Go.Proofs.Ythafadgnjkmfkaa.WzU Go.Proofs.Ythafadgnjkmfkaa.WvS Go.Proofs.Ythafadgnjkmfkaa.WyO

theorem ok84 : CallOk Try.prog 84 := callOk_of Try.func84 (by kernel_rfl) (by kernel_rfl)
theorem impl_Category_isQuery_c (a0 : XCategory) (a1 : XQuery) (r : Bool) (hM : M.impl_Category_isQuery a0 a1 = some r) :
    FnC Try.prog 84 [] [.pt (eXCategory.b a0) 0, .pt (eXQuery.b a1) 0] [] (bv r) := by
  refine fnc_startG (N := 90) (np := 500) hT Try.func84 rfl rfl (by kernel_rfl) ?_
  unfold M.impl_Category_isQuery at hM
  refine tr_start (ks := [0, 2]) (st' := [(0, .d (.pt (eXCategory.b a0) 0)), (2, .d (.pt (eXQuery.b a1) 0))]) (by kernel_rfl) ?_
  refine tr_sr hT hm [] [0, 2] [(0, .d (.pt (eXCategory.b a0) 0)), (2, .d (.pt (eXQuery.b a1) 0))] .nil (by kernel_rfl) (by kernel_rfl) ?_
  refine tr_seq ?_
  rcases Bool.eq_false_or_eq_true (decide ((a1.Variables.length : Int) > 4)) with h1 | h1
  · have hM := ite_true' hM h1
    refine tr_sr hT hm [(6, .val (bv true))] [0, 2, 88] [(0, .d (.pt (eXCategory.b a0) 0)), (2, .d (.pt (eXQuery.b a1) 0)), (88, .d (bv true))] (.cons (congrArg (fun b => bv b) h1) .nil) (by kernel_rfl) (by kernel_rfl) ?_
    refine tr_condT (by kernel_rfl) ?_
    refine tr_sr hT hm [] [8] [(8, .d (bv false))] .nil (by kernel_rfl) (by kernel_rfl) ?_
    refine tr_ret (q_r (rg_r ?_))
    obtain rfl := Option.some.inj hM
    exact retg (names := []) .nil (by kernel_rfl)
  · have hM := ite_false' hM h1
    obtain ⟨v2, hv2, hM⟩ := bind_some' hM
    rcases Bool.eq_false_or_eq_true v2 with h3 | h3
    · have hM := ite_true' hM h3
      rcases Bool.eq_false_or_eq_true (decide ((a1.Left.length : Int) > 6)) with h4 | h4
      · have hM := ite_true' hM h4
        refine tr_sr hT hm [(6, .val (bv false)), (15, .call [] [] [.sl a1.Variables.length 0 (a1.Variables.flatMap eI.b), iv a0.Objects] [] (bv v2)), (18, .val (bv false)), (26, .val (bv true))] [0, 2, 88] [(0, .d (.pt (eXCategory.b a0) 0)), (2, .d (.pt (eXQuery.b a1) 0)), (88, .d (bv true))] (.cons (congrArg (fun b => bv b) h1) (cc0 ok113 (impl_within_c a1.Variables a0.Objects _ hv2) (by kernel_rfl) (.cons (congrArg (fun b => bv b) (congrArg not h3)) (.cons (congrArg (fun b => bv b) h4) .nil)))) (by kernel_rfl) (by kernel_rfl) ?_
        refine tr_condT (by kernel_rfl) ?_
        refine tr_sr hT hm [] [8] [(8, .d (bv false))] .nil (by kernel_rfl) (by kernel_rfl) ?_
        refine tr_ret (q_r (rg_r ?_))
        obtain rfl := Option.some.inj hM
        exact retg (names := []) .nil (by kernel_rfl)
      · have hM := ite_false' hM h4
        refine tr_sr hT hm [(6, .val (bv false)), (15, .call [] [] [.sl a1.Variables.length 0 (a1.Variables.flatMap eI.b), iv a0.Objects] [] (bv v2)), (18, .val (bv false)), (26, .val (bv false))] [0, 2, 88] [(0, .d (.pt (eXCategory.b a0) 0)), (2, .d (.pt (eXQuery.b a1) 0)), (88, .d (bv ((a1.Right.length : Int) != (a1.Left.length : Int))))] (.cons (congrArg (fun b => bv b) h1) (cc0 ok113 (impl_within_c a1.Variables a0.Objects _ hv2) (by kernel_rfl) (.cons (congrArg (fun b => bv b) (congrArg not h3)) (.cons (congrArg (fun b => bv b) h4) .nil)))) (by kernel_rfl) (by kernel_rfl) ?_
        rcases Bool.eq_false_or_eq_true ((a1.Right.length : Int) != (a1.Left.length : Int)) with h5 | h5
        · have hM := ite_true' hM h5
          refine tr_condTe (e := (a1.Right.length : Int) != (a1.Left.length : Int)) h5 (by kernel_rfl) ?_
          refine tr_sr hT hm [] [8] [(8, .d (bv false))] .nil (by kernel_rfl) (by kernel_rfl) ?_
          refine tr_ret (q_r (rg_r ?_))
          obtain rfl := Option.some.inj hM
          exact retg (names := []) .nil (by kernel_rfl)
        · have hM := ite_false' hM h5
          refine tr_condFe (e := (a1.Right.length : Int) != (a1.Left.length : Int)) h5 (by kernel_rfl) ?_
          refine tr_skip (q_n ?_)
          refine tr_seq ?_
          refine tr_sr hT hm [] [0, 2, 98, 100] [(0, .d (.pt (eXCategory.b a0) 0)), (2, .d (.pt (eXQuery.b a1) 0)), (98, .d (iv (a1.Left.length : Int))), (100, .d (iv 0))] .nil (by kernel_rfl) (by kernel_rfl) ?_
          refine tr_block ?_
          refine tr_iterS (fun (s6 : Int) => [(0, .d (.pt (eXCategory.b a0) 0)), (2, .d (.pt (eXQuery.b a1) 0)), (98, .d (iv (a1.Left.length : Int))), (100, .d (iv s6))]) 0 [0, 2, 98, 100] (by kernel_rfl) hM ?_
          intro n9 next7 ih8 s6 hM
          refine tr_sr hT hm [] [0, 2, 98, 100, 102] [(0, .d (.pt (eXCategory.b a0) 0)), (2, .d (.pt (eXQuery.b a1) 0)), (98, .d (iv (a1.Left.length : Int))), (100, .d (iv s6)), (102, .d (bv (decide (s6 < (a1.Left.length : Int)))))] .nil (by kernel_rfl) (by kernel_rfl) ?_
          refine tr_seq ?_
          rcases Bool.eq_false_or_eq_true (decide (s6 < (a1.Left.length : Int))) with h10 | h10
          · have hM := ite_true' hM h10
            refine tr_condTe (e := decide (s6 < (a1.Left.length : Int))) h10 (by kernel_rfl) ?_
            refine tr_skip (q_n ?_)
            refine tr_seq ?_
            refine tr_block ?_
            refine tr_sr hT hm [] [0, 2, 10, 98, 100] [(0, .d (.pt (eXCategory.b a0) 0)), (2, .d (.pt (eXQuery.b a1) 0)), (10, .d (iv s6)), (98, .d (iv (a1.Left.length : Int))), (100, .d (iv s6))] .nil (by kernel_rfl) (by kernel_rfl) ?_
            obtain ⟨y11, hy11, hM⟩ := bind_some' hM
            have hy11' := idx_some hy11
            obtain ⟨y12, hy12, hM⟩ := bind_some' hM
            have hy12' := idx_some hy12
            obtain ⟨v13, hv13, hM⟩ := bind_some' hM
            refine tr_sr hT hm [(8, .val (.agg [iv y11.Variable, iv y11.Arrow])), (15, .val (.agg [iv y12.Variable, iv y12.Arrow])), (16, .call [] [] [.pt (eXCategory.b a0) 0, .pt (eXQuery.b a1) 0, .agg (eXTerm.b y11), .agg (eXTerm.b y12)] [] (bv v13))] [0, 2, 98, 100, 140] [(0, .d (.pt (eXCategory.b a0) 0)), (2, .d (.pt (eXQuery.b a1) 0)), (98, .d (iv (a1.Left.length : Int))), (100, .d (iv s6)), (140, .d (bv (!v13)))] (.cons hy11'.1 (.cons hy11'.2.1 (.cons (sub_b eXTerm_ok hy11'.2.2) (.cons hy12'.1 (.cons hy12'.2.1 (.cons (sub_b eXTerm_ok hy12'.2.2) (cc0 ok50 (impl_Category_isCondition_c a0 a1 y11 y12 _ hv13) (by kernel_rfl) .nil))))))) (by kernel_rfl) (by kernel_rfl) ?_
            rcases Bool.eq_false_or_eq_true v13 with h14 | h14
            · have hM := ite_true' hM h14
              refine tr_condFe (e := !v13) (congrArg not h14) (by kernel_rfl) ?_
              refine tr_skip (b_n (q_n ?_))
              refine tr_r hT hm [] [0, 2, 98, 100] [(0, .d (.pt (eXCategory.b a0) 0)), (2, .d (.pt (eXQuery.b a1) 0)), (98, .d (iv (a1.Left.length : Int))), (100, .d (iv (IntKind.i64.wrap (s6 + 1))))] .nil (by kernel_rfl) (by kernel_rfl) (l_n ?_)
              exact trl_start (ks := [0, 2, 98, 100]) (by kernel_rfl) (ih8 (IntKind.i64.wrap (s6 + 1)) hM)
            · have hM := ite_false' hM h14
              refine tr_condTe (e := !v13) (congrArg not h14) (by kernel_rfl) ?_
              refine tr_sr hT hm [] [8] [(8, .d (bv false))] .nil (by kernel_rfl) (by kernel_rfl) ?_
              refine tr_ret (b_r (q_r (l_r (b_r (q_r (rg_r ?_))))))
              obtain rfl := Option.some.inj hM
              exact retg (names := []) .nil (by kernel_rfl)
          · have hM := ite_false' hM h10
            refine tr_condFe (e := decide (s6 < (a1.Left.length : Int))) h10 (by kernel_rfl) ?_
            refine tr_exit (q_x (l_x (b_h (q_n ?_))))
            rcases Bool.eq_false_or_eq_true (decide ((a1.Output.length : Int) ≤ 4)) with h15 | h15
            · have hM := ite_true' hM h15
              obtain ⟨v16, hv16, hM⟩ := bind_some' hM
              refine tr_sr hT hm [(6, .val (bv true)), (16, .call [] [] [.sl a1.Output.length 0 (a1.Output.flatMap eI.b), iv (a1.Variables.length : Int)] [] (bv v16))] [8] [(8, .d (bv v16))] (.cons (congrArg (fun b => bv b) h15) (cc0 ok113 (impl_within_c a1.Output (a1.Variables.length : Int) _ hv16) (by kernel_rfl) .nil)) (by kernel_rfl) (by kernel_rfl) ?_
              refine tr_ret (rg_r ?_)
              obtain rfl := Option.some.inj hM
              exact retg (names := []) .nil (by kernel_rfl)
            · have hM := ite_false' hM h15
              refine tr_sr hT hm [(6, .val (bv false))] [8] [(8, .d (bv false))] (.cons (congrArg (fun b => bv b) h15) .nil) (by kernel_rfl) (by kernel_rfl) ?_
              refine tr_ret (rg_r ?_)
              obtain rfl := Option.some.inj hM
              exact retg (names := []) .nil (by kernel_rfl)
    · have hM := ite_false' hM h3
      refine tr_sr hT hm [(6, .val (bv false)), (15, .call [] [] [.sl a1.Variables.length 0 (a1.Variables.flatMap eI.b), iv a0.Objects] [] (bv v2)), (18, .val (bv true))] [0, 2, 88] [(0, .d (.pt (eXCategory.b a0) 0)), (2, .d (.pt (eXQuery.b a1) 0)), (88, .d (bv true))] (.cons (congrArg (fun b => bv b) h1) (cc0 ok113 (impl_within_c a1.Variables a0.Objects _ hv2) (by kernel_rfl) (.cons (congrArg (fun b => bv b) (congrArg not h3)) .nil))) (by kernel_rfl) (by kernel_rfl) ?_
      refine tr_condT (by kernel_rfl) ?_
      refine tr_sr hT hm [] [8] [(8, .d (bv false))] .nil (by kernel_rfl) (by kernel_rfl) ?_
      refine tr_ret (q_r (rg_r ?_))
      obtain rfl := Option.some.inj hM
      exact retg (names := []) .nil (by kernel_rfl)

theorem ok49 : CallOk Try.prog 49 := callOk_of Try.func49 (by kernel_rfl) (by kernel_rfl)
theorem impl_areQueries_c (a0 : XCategory) (a1 : List XQuery) (r : Bool) (hM : M.impl_areQueries a0 a1 = some r) :
    FnC Try.prog 49 [] [.pt (eXCategory.b a0) 0, .sl a1.length 0 (a1.flatMap (eP eXQuery).b)] [] (bv r) := by
  refine fnc_startG (N := 21) (np := 500) hT Try.func49 rfl rfl (by kernel_rfl) ?_
  unfold M.impl_areQueries at hM
  refine tr_start (ks := [0, 2]) (st' := [(0, .d (.pt (eXCategory.b a0) 0)), (2, .d (.sl a1.length 0 (a1.flatMap (eP eXQuery).b)))]) (by kernel_rfl) ?_
  refine tr_sr hT hm [] [0, 2] [(0, .d (.pt (eXCategory.b a0) 0)), (2, .d (.sl a1.length 0 (a1.flatMap (eP eXQuery).b)))] .nil (by kernel_rfl) (by kernel_rfl) ?_
  refine tr_seq ?_
  obtain ⟨v1, hv1, hM⟩ := bind_some' hM
  refine tr_sr hT hm [(1, .call [] [] [.pt (eXCategory.b a0) 0] [] (bv v1))] [0, 2, 18] [(0, .d (.pt (eXCategory.b a0) 0)), (2, .d (.sl a1.length 0 (a1.flatMap (eP eXQuery).b))), (18, .d (bv (!v1)))] (cc0 ok56 (impl_Category_isCategory_c a0 _ hv1) (by kernel_rfl) .nil) (by kernel_rfl) (by kernel_rfl) ?_
  rcases Bool.eq_false_or_eq_true v1 with h2 | h2
  · have hM := ite_true' hM h2
    refine tr_condFe (e := !v1) (congrArg not h2) (by kernel_rfl) ?_
    refine tr_skip (q_n ?_)
    refine tr_seq ?_
    refine tr_sr hT hm [] [0, 20, 22, 24] [(0, .d (.pt (eXCategory.b a0) 0)), (20, .d (.sl a1.length 0 (a1.flatMap (eP eXQuery).b))), (22, .d (iv (a1.length : Int))), (24, .d (iv 0))] .nil (by kernel_rfl) (by kernel_rfl) ?_
    refine tr_block ?_
    refine tr_iterS (fun (s3 : Int) => [(0, .d (.pt (eXCategory.b a0) 0)), (20, .d (.sl a1.length 0 (a1.flatMap (eP eXQuery).b))), (22, .d (iv (a1.length : Int))), (24, .d (iv s3))]) 0 [0, 20, 22, 24] (by kernel_rfl) hM ?_
    intro n6 next4 ih5 s3 hM
    refine tr_sr hT hm [] [0, 20, 22, 24, 26] [(0, .d (.pt (eXCategory.b a0) 0)), (20, .d (.sl a1.length 0 (a1.flatMap (eP eXQuery).b))), (22, .d (iv (a1.length : Int))), (24, .d (iv s3)), (26, .d (bv (decide (s3 < (a1.length : Int)))))] .nil (by kernel_rfl) (by kernel_rfl) ?_
    refine tr_seq ?_
    rcases Bool.eq_false_or_eq_true (decide (s3 < (a1.length : Int))) with h7 | h7
    · have hM := ite_true' hM h7
      refine tr_condTe (e := decide (s3 < (a1.length : Int))) h7 (by kernel_rfl) ?_
      refine tr_skip (q_n ?_)
      refine tr_seq ?_
      refine tr_block ?_
      obtain ⟨y8, hy8, hM⟩ := bind_some' hM
      have hy8' := idx_some hy8
      refine tr_sr hT hm [(1, .val (.pt (eXQuery.b y8) 0))] [0, 12, 20, 22, 24] [(0, .d (.pt (eXCategory.b a0) 0)), (12, .d (.pt (eXQuery.b y8) 0)), (20, .d (.sl a1.length 0 (a1.flatMap (eP eXQuery).b))), (22, .d (iv (a1.length : Int))), (24, .d (iv s3))] (.cons hy8'.1 (.cons hy8'.2.1 (.cons (at_b0 (eP_ok (e := eXQuery)) hy8'.2.2 (d := .pt (eXQuery.b y8) 0) (by kernel_rfl)) .nil))) (by kernel_rfl) (by kernel_rfl) ?_
      obtain ⟨v9, hv9, hM⟩ := bind_some' hM
      refine tr_sr hT hm [(2, .call [] [] [.pt (eXCategory.b a0) 0, .pt (eXQuery.b y8) 0] [] (bv v9))] [0, 20, 22, 24, 38] [(0, .d (.pt (eXCategory.b a0) 0)), (20, .d (.sl a1.length 0 (a1.flatMap (eP eXQuery).b))), (22, .d (iv (a1.length : Int))), (24, .d (iv s3)), (38, .d (bv (!v9)))] (cc0 ok84 (impl_Category_isQuery_c a0 y8 _ hv9) (by kernel_rfl) .nil) (by kernel_rfl) (by kernel_rfl) ?_
      rcases Bool.eq_false_or_eq_true v9 with h10 | h10
      · have hM := ite_true' hM h10
        refine tr_condFe (e := !v9) (congrArg not h10) (by kernel_rfl) ?_
        refine tr_skip (b_n (q_n ?_))
        refine tr_r hT hm [] [0, 20, 22, 24] [(0, .d (.pt (eXCategory.b a0) 0)), (20, .d (.sl a1.length 0 (a1.flatMap (eP eXQuery).b))), (22, .d (iv (a1.length : Int))), (24, .d (iv (IntKind.i64.wrap (s3 + 1))))] .nil (by kernel_rfl) (by kernel_rfl) (l_n ?_)
        exact trl_start (ks := [0, 20, 22, 24]) (by kernel_rfl) (ih5 (IntKind.i64.wrap (s3 + 1)) hM)
      · have hM := ite_false' hM h10
        refine tr_condTe (e := !v9) (congrArg not h10) (by kernel_rfl) ?_
        refine tr_sr hT hm [] [8] [(8, .d (bv false))] .nil (by kernel_rfl) (by kernel_rfl) ?_
        refine tr_ret (b_r (q_r (l_r (b_r (q_r (rg_r ?_))))))
        obtain rfl := Option.some.inj hM
        exact retg (names := []) .nil (by kernel_rfl)
    · have hM := ite_false' hM h7
      refine tr_condFe (e := decide (s3 < (a1.length : Int))) h7 (by kernel_rfl) ?_
      refine tr_exit (q_x (l_x (b_h (q_n ?_))))
      refine tr_sr hT hm [] [8] [(8, .d (bv true))] .nil (by kernel_rfl) (by kernel_rfl) ?_
      refine tr_ret (rg_r ?_)
      obtain rfl := Option.some.inj hM
      exact retg (names := []) .nil (by kernel_rfl)
  · have hM := ite_false' hM h2
    refine tr_condTe (e := !v1) (congrArg not h2) (by kernel_rfl) ?_
    refine tr_sr hT hm [] [8] [(8, .d (bv false))] .nil (by kernel_rfl) (by kernel_rfl) ?_
    refine tr_ret (q_r (rg_r ?_))
    obtain rfl := Option.some.inj hM
    exact retg (names := []) .nil (by kernel_rfl)

theorem ok87 : CallOk Try.prog 87 := callOk_of Try.func87 (by kernel_rfl) (by kernel_rfl)
theorem impl_numbered_impl_pair_int64_c (a0 : List Ximpl_pair_int64) (r : (List ((Int × Int) × Int))) (hM : M.impl_numbered_impl_pair_int64 a0 = some r) :
    FnC Try.prog 87 [] [.sl a0.length 0 (a0.flatMap eXimpl_pair_int64.b)] [] (.bm (mpE kP vI r)) := by
  refine fnc_startG (N := 19) (np := 500) hT Try.func87 rfl rfl (by kernel_rfl) ?_
  unfold M.impl_numbered_impl_pair_int64 at hM
  refine tr_start (ks := [0]) (st' := [(0, .d (.sl a0.length 0 (a0.flatMap eXimpl_pair_int64.b)))]) (by kernel_rfl) ?_
  refine tr_sr hT hm [] [0] [(0, .d (.sl a0.length 0 (a0.flatMap eXimpl_pair_int64.b)))] .nil (by kernel_rfl) (by kernel_rfl) ?_
  refine tr_sr hT hm [] [0, 6, 2013] [(0, .d (.sl a0.length 0 (a0.flatMap eXimpl_pair_int64.b))), (6, .d (.rm 1006)), (2013, .r (.mp (mpE kP vI ([] : List ((Int × Int) × Int)))))] .nil (by kernel_rfl) (by kernel_rfl) ?_
  refine tr_seq ?_
  refine tr_sr hT hm [] [6, 14, 16, 18, 2013] [(6, .d (.rm 1006)), (14, .d (.sl a0.length 0 (a0.flatMap eXimpl_pair_int64.b))), (16, .d (iv (a0.length : Int))), (18, .d (iv 0)), (2013, .r (.mp (mpE kP vI ([] : List ((Int × Int) × Int)))))] .nil (by kernel_rfl) (by kernel_rfl) ?_
  refine tr_block ?_
  refine tr_iterS (fun (s1 : (List ((Int × Int) × Int)) × Int) => [(6, .d (.rm 1006)), (14, .d (.sl a0.length 0 (a0.flatMap eXimpl_pair_int64.b))), (16, .d (iv (a0.length : Int))), (18, .d (iv s1.2)), (2013, .r (.mp (mpE kP vI s1.1)))]) (([] : List ((Int × Int) × Int)), 0) [6, 14, 16, 18, 2013] (by kernel_rfl) hM ?_
  intro n4 next2 ih3 s1 hM
  refine tr_sr hT hm [] [6, 14, 16, 18, 20, 2013] [(6, .d (.rm 1006)), (14, .d (.sl a0.length 0 (a0.flatMap eXimpl_pair_int64.b))), (16, .d (iv (a0.length : Int))), (18, .d (iv s1.2)), (20, .d (bv (decide (s1.2 < (a0.length : Int))))), (2013, .r (.mp (mpE kP vI s1.1)))] .nil (by kernel_rfl) (by kernel_rfl) ?_
  refine tr_seq ?_
  rcases Bool.eq_false_or_eq_true (decide (s1.2 < (a0.length : Int))) with h5 | h5
  · have hM := ite_true' hM h5
    refine tr_condTe (e := decide (s1.2 < (a0.length : Int))) h5 (by kernel_rfl) ?_
    refine tr_skip (q_n ?_)
    refine tr_seq ?_
    refine tr_block ?_
    obtain ⟨y6, hy6, hM⟩ := bind_some' hM
    have hy6' := idx_some hy6
    refine tr_sr hT hm [(2, .val (.agg [iv y6.first_, iv y6.second_]))] [6, 8, 10, 14, 16, 18, 2011, 2013] [(6, .d (.rm 1006)), (8, .d (iv s1.2)), (10, .d (.rp 1005 0)), (14, .d (.sl a0.length 0 (a0.flatMap eXimpl_pair_int64.b))), (16, .d (iv (a0.length : Int))), (18, .d (iv s1.2)), bxB 2011 (eXimpl_pair_int64.b y6), (2013, .r (.mp (mpE kP vI s1.1)))] (.cons hy6'.1 (.cons hy6'.2.1 (.cons (sub_b eXimpl_pair_int64_ok hy6'.2.2) (.cons (Nat.le_of_ble_eq_true (n := 2) (m := 2) rfl) .nil)))) (by kernel_rfl) (by kernel_rfl) ?_
    refine tr_r hT hm [] [6, 14, 16, 18, 2013] [(6, .d (.rm 1006)), (14, .d (.sl a0.length 0 (a0.flatMap eXimpl_pair_int64.b))), (16, .d (iv (a0.length : Int))), (18, .d (iv s1.2)), (2013, .r (.mp (putV kP.d (kP.e (y6.first_, y6.second_)) (vI s1.2) (mpE kP vI s1.1))))] (.cons (fnd_some kP vI (y6.first_, y6.second_) s1.1) (.cons (by kernel_rfl : Try.prog.stoodInHeld 131 = false) .nil)) (by kernel_rfl) (by kernel_rfl) (b_n (q_n ?_))
    refine Tr.by (imp_cvM (r := 1006) (put_mpE kP vI (y6.first_, y6.second_) s1.2 s1.1) (by kernel_rfl)) ?_
    refine tr_r hT hm [] [6, 14, 16, 18, 2013] [(6, .d (.rm 1006)), (14, .d (.sl a0.length 0 (a0.flatMap eXimpl_pair_int64.b))), (16, .d (iv (a0.length : Int))), (18, .d (iv (IntKind.i64.wrap (s1.2 + 1)))), (2013, .r (.mp (mpE kP vI (mput (y6.first_, y6.second_) s1.2 s1.1))))] .nil (by kernel_rfl) (by kernel_rfl) (l_n ?_)
    exact trl_start (ks := [6, 14, 16, 18, 2013]) (by kernel_rfl) (ih3 (mput (y6.first_, y6.second_) s1.2 s1.1, IntKind.i64.wrap (s1.2 + 1)) hM)
  · have hM := ite_false' hM h5
    refine tr_condFe (e := decide (s1.2 < (a0.length : Int))) h5 (by kernel_rfl) ?_
    refine tr_exit (q_x (l_x (b_h (q_n ?_))))
    refine tr_sr hT hm [] [4, 2013] [(4, .d (.rm 1006)), (2013, .r (.mp (mpE kP vI s1.1)))] .nil (by kernel_rfl) (by kernel_rfl) ?_
    refine tr_ret (rg_r ?_)
    refine RetG.by (imp_freeze (B := [1006]) (cv := [(2, .bm (mpE kP vI s1.1))]) (.cons (by kernel_rfl) (.of1 (.rm (r := 1006) (memB (by kernel_rfl)) (by kernel_rfl))) .nil)) ?_
    obtain rfl := Option.some.inj hM
    exact retg (names := []) .nil (by kernel_rfl)

theorem ok93 : CallOk Try.prog 93 := callOk_of Try.func93 (by kernel_rfl) (by kernel_rfl)
theorem impl_fitting_c (a0 : List Int) (r : Bool) (hM : M.impl_fitting a0 = some r) :
    FnC Try.prog 93 [] [.sl a0.length 0 (a0.flatMap eI.b)] [] (bv r) := by
  refine fnc_startG (N := 5) (np := 500) hT Try.func93 rfl rfl (by kernel_rfl) ?_
  unfold M.impl_fitting at hM
  refine tr_start (ks := [0]) (st' := [(0, .d (.sl a0.length 0 (a0.flatMap eI.b)))]) (by kernel_rfl) ?_
  refine tr_sr hT hm [] [0] [(0, .d (.sl a0.length 0 (a0.flatMap eI.b)))] .nil (by kernel_rfl) (by kernel_rfl) ?_
  obtain ⟨v1, hv1, hM⟩ := bind_some' hM
  refine tr_sr hT hm [(1, .call [] [] [.sl a0.length 0 (a0.flatMap eI.b), iv 17] [] (bv v1))] [4] [(4, .d (bv v1))] (cc0 ok113 (impl_within_c a0 17 _ hv1) (by kernel_rfl) .nil) (by kernel_rfl) (by kernel_rfl) ?_
  refine tr_ret (rg_r ?_)
  obtain rfl := Option.some.inj hM
  exact retg (names := []) .nil (by kernel_rfl)

end Go.Proofs.Ythafadgnjkmfkaa.WzI
