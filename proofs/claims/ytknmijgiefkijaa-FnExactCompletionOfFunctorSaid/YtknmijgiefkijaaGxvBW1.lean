/- Walks. Printed by wip/gen. -/
import Derived.Test.YtknmijgiefkijaaGxvBW0
namespace Go.Proofs.Ytknmijgiefkijaa.WvB
open Go.Gx

theorem ok34 : CallOk Try.prog 34 := callOk_of Try.func34 (by kernel_rfl) (by kernel_rfl)
theorem spec_l06Is_c (a0 : XFunctor) (r : Bool) (hM : M.spec_l06Is a0 = some r) :
    FnC Try.prog 34 [] [.agg (eXFunctor.b a0)] [] (bv r) := by
  refine fnc_startG (N := 181) (np := 500) hT Try.func34 rfl rfl (by kernel_rfl) ?_
  unfold M.spec_l06Is at hM
  refine tr_start (ks := [0]) (st' := [(0, .d (.agg (eXFunctor.b a0)))]) (by kernel_rfl) ?_
  refine tr_sr hT hm [] [2, 2003] [(2, .d (.rp 1001 0)), bxB 2003 (eXFunctor.b a0)] .nil (by kernel_rfl) (by kernel_rfl) ?_
  refine tr_sr hT hm [] [2, 6, 8, 2003, 2007, 2009] [(2, .d (.rp 1001 0)), (6, .d (.rp 1003 0)), (8, .d (.rp 1004 0)), bxB 2003 (eXFunctor.b a0), bxB 2007 (eXCategory.b a0.Source), bxB 2009 (eXCategory.b a0.Target)] (.cons (Nat.le_of_ble_eq_true (n := 5) (m := 5) rfl) (.cons (Nat.le_of_ble_eq_true (n := 5) (m := 5) rfl) .nil)) (by kernel_rfl) (by kernel_rfl) ?_
  refine tr_seq ?_
  obtain ⟨v1, hv1, hM⟩ := bind_some' hM
  rcases Bool.eq_false_or_eq_true v1 with h2 | h2
  · have hM := ite_true' hM h2
    obtain ⟨v3, hv3, hM⟩ := bind_some' hM
    rcases Bool.eq_false_or_eq_true v3 with h4 | h4
    · have hM := ite_true' hM h4
      rcases Bool.eq_false_or_eq_true ((a0.Objects.length : Int) != a0.Source.Objects) with h5 | h5
      · have hM := ite_true' hM h5
        refine tr_sr hT hm [(1, .call [] [] [.agg (eXCategory.b a0.Source)] [] (bv v1)), (3, .val (bv false)), (5, .call [] [] [.agg (eXCategory.b a0.Target)] [] (bv v3)), (8, .val (bv false)), (16, .val (bv true))] [2, 6, 8, 74, 2003, 2007, 2009] [(2, .d (.rp 1001 0)), (6, .d (.rp 1003 0)), (8, .d (.rp 1004 0)), (74, .d (bv true)), bxB 2003 (eXFunctor.b a0), bxB 2007 (eXCategory.b a0.Source), bxB 2009 (eXCategory.b a0.Target)] (cc0 ok75 (spec_l02Is_c a0.Source _ hv1) (by kernel_rfl) (.cons (congrArg (fun b => bv b) (congrArg not h2)) (cc0 ok75 (spec_l02Is_c a0.Target _ hv3) (by kernel_rfl) (.cons (congrArg (fun b => bv b) (congrArg not h4)) (.cons (congrArg (fun b => bv b) h5) .nil))))) (by kernel_rfl) (by kernel_rfl) ?_
        refine tr_condT (by kernel_rfl) ?_
        refine tr_sr hT hm [] [4] [(4, .d (bv false))] .nil (by kernel_rfl) (by kernel_rfl) ?_
        refine tr_ret (q_r (rg_r ?_))
        obtain rfl := Option.some.inj hM
        exact retg (names := []) .nil (by kernel_rfl)
      · have hM := ite_false' hM h5
        refine tr_sr hT hm [(1, .call [] [] [.agg (eXCategory.b a0.Source)] [] (bv v1)), (3, .val (bv false)), (5, .call [] [] [.agg (eXCategory.b a0.Target)] [] (bv v3)), (8, .val (bv false)), (16, .val (bv false))] [2, 6, 8, 74, 2003, 2007, 2009] [(2, .d (.rp 1001 0)), (6, .d (.rp 1003 0)), (8, .d (.rp 1004 0)), (74, .d (bv ((a0.Arrows.length : Int) != (a0.Source.From.length : Int)))), bxB 2003 (eXFunctor.b a0), bxB 2007 (eXCategory.b a0.Source), bxB 2009 (eXCategory.b a0.Target)] (cc0 ok75 (spec_l02Is_c a0.Source _ hv1) (by kernel_rfl) (.cons (congrArg (fun b => bv b) (congrArg not h2)) (cc0 ok75 (spec_l02Is_c a0.Target _ hv3) (by kernel_rfl) (.cons (congrArg (fun b => bv b) (congrArg not h4)) (.cons (congrArg (fun b => bv b) h5) .nil))))) (by kernel_rfl) (by kernel_rfl) ?_
        rcases Bool.eq_false_or_eq_true ((a0.Arrows.length : Int) != (a0.Source.From.length : Int)) with h6 | h6
        · have hM := ite_true' hM h6
          refine tr_condTe (e := (a0.Arrows.length : Int) != (a0.Source.From.length : Int)) h6 (by kernel_rfl) ?_
          refine tr_sr hT hm [] [4] [(4, .d (bv false))] .nil (by kernel_rfl) (by kernel_rfl) ?_
          refine tr_ret (q_r (rg_r ?_))
          obtain rfl := Option.some.inj hM
          exact retg (names := []) .nil (by kernel_rfl)
        · have hM := ite_false' hM h6
          refine tr_condFe (e := (a0.Arrows.length : Int) != (a0.Source.From.length : Int)) h6 (by kernel_rfl) ?_
          refine tr_skip (q_n ?_)
          refine tr_seq ?_
          obtain ⟨v7, hv7, hM⟩ := bind_some' hM
          rcases Bool.eq_false_or_eq_true v7 with h8 | h8
          · have hM := ite_true' hM h8
            obtain ⟨v9, hv9, hM⟩ := bind_some' hM
            refine tr_sr hT hm [(4, .call [] [] [iv a0.Target.Objects, .sl a0.Objects.length 0 (a0.Objects.flatMap eI.b)] [] (bv v7)), (6, .val (bv false)), (12, .call [] [] [iv (a0.Target.From.length : Int), .sl a0.Arrows.length 0 (a0.Arrows.flatMap eI.b)] [] (bv v9))] [2, 6, 8, 104, 2003, 2007, 2009] [(2, .d (.rp 1001 0)), (6, .d (.rp 1003 0)), (8, .d (.rp 1004 0)), (104, .d (bv (!v9))), bxB 2003 (eXFunctor.b a0), bxB 2007 (eXCategory.b a0.Source), bxB 2009 (eXCategory.b a0.Target)] (cc0 ok76 (spec_l01Map_c a0.Target.Objects a0.Objects _ hv7) (by kernel_rfl) (.cons (congrArg (fun b => bv b) (congrArg not h8)) (cc0 ok76 (spec_l01Map_c (a0.Target.From.length : Int) a0.Arrows _ hv9) (by kernel_rfl) .nil))) (by kernel_rfl) (by kernel_rfl) ?_
            rcases Bool.eq_false_or_eq_true v9 with h10 | h10
            · have hM := ite_true' hM h10
              refine tr_condFe (e := !v9) (congrArg not h10) (by kernel_rfl) ?_
              refine tr_skip (q_n ?_)
              refine tr_seq ?_
              refine tr_sr hT hm [] [2, 6, 8, 10, 2003, 2007, 2009] [(2, .d (.rp 1001 0)), (6, .d (.rp 1003 0)), (8, .d (.rp 1004 0)), (10, .d (iv 0)), bxB 2003 (eXFunctor.b a0), bxB 2007 (eXCategory.b a0.Source), bxB 2009 (eXCategory.b a0.Target)] .nil (by kernel_rfl) (by kernel_rfl) ?_
              refine tr_block ?_
              refine tr_iterS (fun (s11 : Int) => [(2, .d (.rp 1001 0)), (6, .d (.rp 1003 0)), (8, .d (.rp 1004 0)), (10, .d (iv s11)), bxB 2003 (eXFunctor.b a0), bxB 2007 (eXCategory.b a0.Source), bxB 2009 (eXCategory.b a0.Target)]) 0 [2, 6, 8, 10, 2003, 2007, 2009] (by kernel_rfl) hM ?_
              intro n14 next12 ih13 s11 hM
              refine tr_seq ?_
              refine tr_sr hT hm [] [2, 6, 8, 10, 114, 2003, 2007, 2009] [(2, .d (.rp 1001 0)), (6, .d (.rp 1003 0)), (8, .d (.rp 1004 0)), (10, .d (iv s11)), (114, .d (bv (decide (s11 < (a0.Source.From.length : Int))))), bxB 2003 (eXFunctor.b a0), bxB 2007 (eXCategory.b a0.Source), bxB 2009 (eXCategory.b a0.Target)] .nil (by kernel_rfl) (by kernel_rfl) ?_
              rcases Bool.eq_false_or_eq_true (decide (s11 < (a0.Source.From.length : Int))) with h15 | h15
              · have hM := ite_true' hM h15
                refine tr_condTe (e := decide (s11 < (a0.Source.From.length : Int))) h15 (by kernel_rfl) ?_
                refine tr_skip (q_n ?_)
                refine tr_seq ?_
                refine tr_block ?_
                obtain ⟨y16, hy16, hM⟩ := bind_some' hM
                have hy16' := idx_some hy16
                obtain ⟨y17, hy17, hM⟩ := bind_some' hM
                have hy17' := idx_some hy17
                obtain ⟨y18, hy18, hM⟩ := bind_some' hM
                have hy18' := idx_some hy18
                obtain ⟨y19, hy19, hM⟩ := bind_some' hM
                have hy19' := idx_some hy19
                rcases Bool.eq_false_or_eq_true (y17 != y19) with h20 | h20
                · have hM := ite_true' hM h20
                  refine tr_sr hT hm [(6, .val (iv y16)), (8, .val (iv y17)), (15, .val (iv y18)), (17, .val (iv y19)), (19, .val (bv true))] [2, 6, 8, 10, 198, 2003, 2007, 2009] [(2, .d (.rp 1001 0)), (6, .d (.rp 1003 0)), (8, .d (.rp 1004 0)), (10, .d (iv s11)), (198, .d (bv true)), bxB 2003 (eXFunctor.b a0), bxB 2007 (eXCategory.b a0.Source), bxB 2009 (eXCategory.b a0.Target)] (.cons hy16'.1 (.cons hy16'.2.1 (.cons (at_b0 eI_ok hy16'.2.2 (d := iv y16) (by kernel_rfl)) (.cons hy17'.1 (.cons hy17'.2.1 (.cons (at_b0 eI_ok hy17'.2.2 (d := iv y17) (by kernel_rfl)) (.cons hy18'.1 (.cons hy18'.2.1 (.cons (at_b0 eI_ok hy18'.2.2 (d := iv y18) (by kernel_rfl)) (.cons hy19'.1 (.cons hy19'.2.1 (.cons (at_b0 eI_ok hy19'.2.2 (d := iv y19) (by kernel_rfl)) (.cons (congrArg (fun b => bv b) h20) .nil))))))))))))) (by kernel_rfl) (by kernel_rfl) ?_
                  refine tr_condT (by kernel_rfl) ?_
                  refine tr_sr hT hm [] [4] [(4, .d (bv false))] .nil (by kernel_rfl) (by kernel_rfl) ?_
                  refine tr_ret (b_r (q_r (l_r (b_r (q_r (rg_r ?_))))))
                  obtain rfl := Option.some.inj hM
                  exact retg (names := []) .nil (by kernel_rfl)
                · have hM := ite_false' hM h20
                  obtain ⟨y21, hy21, hM⟩ := bind_some' hM
                  have hy21' := idx_some hy21
                  obtain ⟨y22, hy22, hM⟩ := bind_some' hM
                  have hy22' := idx_some hy22
                  obtain ⟨y23, hy23, hM⟩ := bind_some' hM
                  have hy23' := idx_some hy23
                  refine tr_sr hT hm [(6, .val (iv y16)), (8, .val (iv y17)), (15, .val (iv y18)), (17, .val (iv y19)), (19, .val (bv false)), (26, .val (iv y16)), (28, .val (iv y21)), (35, .val (iv y22)), (37, .val (iv y23))] [2, 6, 8, 10, 198, 2003, 2007, 2009] [(2, .d (.rp 1001 0)), (6, .d (.rp 1003 0)), (8, .d (.rp 1004 0)), (10, .d (iv s11)), (198, .d (bv (y21 != y23))), bxB 2003 (eXFunctor.b a0), bxB 2007 (eXCategory.b a0.Source), bxB 2009 (eXCategory.b a0.Target)] (.cons hy16'.1 (.cons hy16'.2.1 (.cons (at_b0 eI_ok hy16'.2.2 (d := iv y16) (by kernel_rfl)) (.cons hy17'.1 (.cons hy17'.2.1 (.cons (at_b0 eI_ok hy17'.2.2 (d := iv y17) (by kernel_rfl)) (.cons hy18'.1 (.cons hy18'.2.1 (.cons (at_b0 eI_ok hy18'.2.2 (d := iv y18) (by kernel_rfl)) (.cons hy19'.1 (.cons hy19'.2.1 (.cons (at_b0 eI_ok hy19'.2.2 (d := iv y19) (by kernel_rfl)) (.cons (congrArg (fun b => bv b) h20) (.cons hy16'.1 (.cons hy16'.2.1 (.cons (at_b0 eI_ok hy16'.2.2 (d := iv y16) (by kernel_rfl)) (.cons hy21'.1 (.cons hy21'.2.1 (.cons (at_b0 eI_ok hy21'.2.2 (d := iv y21) (by kernel_rfl)) (.cons hy22'.1 (.cons hy22'.2.1 (.cons (at_b0 eI_ok hy22'.2.2 (d := iv y22) (by kernel_rfl)) (.cons hy23'.1 (.cons hy23'.2.1 (.cons (at_b0 eI_ok hy23'.2.2 (d := iv y23) (by kernel_rfl)) .nil))))))))))))))))))))))))) (by kernel_rfl) (by kernel_rfl) ?_
                  rcases Bool.eq_false_or_eq_true (y21 != y23) with h24 | h24
                  · have hM := ite_true' hM h24
                    refine tr_condTe (e := y21 != y23) h24 (by kernel_rfl) ?_
                    refine tr_sr hT hm [] [4] [(4, .d (bv false))] .nil (by kernel_rfl) (by kernel_rfl) ?_
                    refine tr_ret (b_r (q_r (l_r (b_r (q_r (rg_r ?_))))))
                    obtain rfl := Option.some.inj hM
                    exact retg (names := []) .nil (by kernel_rfl)
                  · have hM := ite_false' hM h24
                    refine tr_condFe (e := y21 != y23) h24 (by kernel_rfl) ?_
                    refine tr_skip (b_n (q_n ?_))
                    refine tr_r hT hm [] [2, 6, 8, 10, 2003, 2007, 2009] [(2, .d (.rp 1001 0)), (6, .d (.rp 1003 0)), (8, .d (.rp 1004 0)), (10, .d (iv (IntKind.i64.wrap (s11 + 1)))), bxB 2003 (eXFunctor.b a0), bxB 2007 (eXCategory.b a0.Source), bxB 2009 (eXCategory.b a0.Target)] .nil (by kernel_rfl) (by kernel_rfl) (l_n ?_)
                    exact trl_start (ks := [2, 6, 8, 10, 2003, 2007, 2009]) (by kernel_rfl) (ih13 (IntKind.i64.wrap (s11 + 1)) hM)
              · have hM := ite_false' hM h15
                refine tr_condFe (e := decide (s11 < (a0.Source.From.length : Int))) h15 (by kernel_rfl) ?_
                refine tr_exit (q_x (l_x (b_h (q_n ?_))))
                refine tr_seq ?_
                refine tr_sr hT hm [] [2, 6, 8, 12, 2003, 2007, 2009] [(2, .d (.rp 1001 0)), (6, .d (.rp 1003 0)), (8, .d (.rp 1004 0)), (12, .d (iv 0)), bxB 2003 (eXFunctor.b a0), bxB 2007 (eXCategory.b a0.Source), bxB 2009 (eXCategory.b a0.Target)] .nil (by kernel_rfl) (by kernel_rfl) ?_
                refine tr_block ?_
                refine tr_iterS (fun (s25 : Int) => [(2, .d (.rp 1001 0)), (6, .d (.rp 1003 0)), (8, .d (.rp 1004 0)), (12, .d (iv s25)), bxB 2003 (eXFunctor.b a0), bxB 2007 (eXCategory.b a0.Source), bxB 2009 (eXCategory.b a0.Target)]) 0 [2, 6, 8, 12, 2003, 2007, 2009] (by kernel_rfl) hM ?_
                intro n28 next26 ih27 s25 hM
                refine tr_seq ?_
                refine tr_sr hT hm [] [2, 6, 8, 12, 206, 2003, 2007, 2009] [(2, .d (.rp 1001 0)), (6, .d (.rp 1003 0)), (8, .d (.rp 1004 0)), (12, .d (iv s25)), (206, .d (bv (decide (s25 < a0.Source.Objects)))), bxB 2003 (eXFunctor.b a0), bxB 2007 (eXCategory.b a0.Source), bxB 2009 (eXCategory.b a0.Target)] .nil (by kernel_rfl) (by kernel_rfl) ?_
                rcases Bool.eq_false_or_eq_true (decide (s25 < a0.Source.Objects)) with h29 | h29
                · have hM := ite_true' hM h29
                  refine tr_condTe (e := decide (s25 < a0.Source.Objects)) h29 (by kernel_rfl) ?_
                  refine tr_skip (q_n ?_)
                  refine tr_seq ?_
                  refine tr_block ?_
                  obtain ⟨y30, hy30, hM⟩ := bind_some' hM
                  have hy30' := idx_some hy30
                  obtain ⟨y31, hy31, hM⟩ := bind_some' hM
                  have hy31' := idx_some hy31
                  obtain ⟨y32, hy32, hM⟩ := bind_some' hM
                  have hy32' := idx_some hy32
                  obtain ⟨y33, hy33, hM⟩ := bind_some' hM
                  have hy33' := idx_some hy33
                  refine tr_sr hT hm [(6, .val (iv y30)), (8, .val (iv y31)), (15, .val (iv y32)), (17, .val (iv y33))] [2, 6, 8, 12, 248, 2003, 2007, 2009] [(2, .d (.rp 1001 0)), (6, .d (.rp 1003 0)), (8, .d (.rp 1004 0)), (12, .d (iv s25)), (248, .d (bv (y31 != y33))), bxB 2003 (eXFunctor.b a0), bxB 2007 (eXCategory.b a0.Source), bxB 2009 (eXCategory.b a0.Target)] (.cons hy30'.1 (.cons hy30'.2.1 (.cons (at_b0 eI_ok hy30'.2.2 (d := iv y30) (by kernel_rfl)) (.cons hy31'.1 (.cons hy31'.2.1 (.cons (at_b0 eI_ok hy31'.2.2 (d := iv y31) (by kernel_rfl)) (.cons hy32'.1 (.cons hy32'.2.1 (.cons (at_b0 eI_ok hy32'.2.2 (d := iv y32) (by kernel_rfl)) (.cons hy33'.1 (.cons hy33'.2.1 (.cons (at_b0 eI_ok hy33'.2.2 (d := iv y33) (by kernel_rfl)) .nil)))))))))))) (by kernel_rfl) (by kernel_rfl) ?_
                  rcases Bool.eq_false_or_eq_true (y31 != y33) with h34 | h34
                  · have hM := ite_true' hM h34
                    refine tr_condTe (e := y31 != y33) h34 (by kernel_rfl) ?_
                    refine tr_sr hT hm [] [4] [(4, .d (bv false))] .nil (by kernel_rfl) (by kernel_rfl) ?_
                    refine tr_ret (b_r (q_r (l_r (b_r (q_r (rg_r ?_))))))
                    obtain rfl := Option.some.inj hM
                    exact retg (names := []) .nil (by kernel_rfl)
                  · have hM := ite_false' hM h34
                    refine tr_condFe (e := y31 != y33) h34 (by kernel_rfl) ?_
                    refine tr_skip (b_n (q_n ?_))
                    refine tr_r hT hm [] [2, 6, 8, 12, 2003, 2007, 2009] [(2, .d (.rp 1001 0)), (6, .d (.rp 1003 0)), (8, .d (.rp 1004 0)), (12, .d (iv (IntKind.i64.wrap (s25 + 1)))), bxB 2003 (eXFunctor.b a0), bxB 2007 (eXCategory.b a0.Source), bxB 2009 (eXCategory.b a0.Target)] .nil (by kernel_rfl) (by kernel_rfl) (l_n ?_)
                    exact trl_start (ks := [2, 6, 8, 12, 2003, 2007, 2009]) (by kernel_rfl) (ih27 (IntKind.i64.wrap (s25 + 1)) hM)
                · have hM := ite_false' hM h29
                  refine tr_condFe (e := decide (s25 < a0.Source.Objects)) h29 (by kernel_rfl) ?_
                  refine tr_exit (q_x (l_x (b_h (q_n ?_))))
                  refine tr_seq ?_
                  refine tr_sr hT hm [] [2, 6, 8, 14, 2003, 2007, 2009] [(2, .d (.rp 1001 0)), (6, .d (.rp 1003 0)), (8, .d (.rp 1004 0)), (14, .d (iv 0)), bxB 2003 (eXFunctor.b a0), bxB 2007 (eXCategory.b a0.Source), bxB 2009 (eXCategory.b a0.Target)] .nil (by kernel_rfl) (by kernel_rfl) ?_
                  refine tr_block ?_
                  refine tr_iterS (fun (s35 : Int) => [(2, .d (.rp 1001 0)), (6, .d (.rp 1003 0)), (8, .d (.rp 1004 0)), (14, .d (iv s35)), bxB 2003 (eXFunctor.b a0), bxB 2007 (eXCategory.b a0.Source), bxB 2009 (eXCategory.b a0.Target)]) 0 [2, 6, 8, 14, 2003, 2007, 2009] (by kernel_rfl) hM ?_
                  intro n38 next36 ih37 s35 hM
                  refine tr_seq ?_
                  refine tr_sr hT hm [] [2, 6, 8, 14, 258, 2003, 2007, 2009] [(2, .d (.rp 1001 0)), (6, .d (.rp 1003 0)), (8, .d (.rp 1004 0)), (14, .d (iv s35)), (258, .d (bv (decide (s35 < (a0.Source.From.length : Int))))), bxB 2003 (eXFunctor.b a0), bxB 2007 (eXCategory.b a0.Source), bxB 2009 (eXCategory.b a0.Target)] .nil (by kernel_rfl) (by kernel_rfl) ?_
                  rcases Bool.eq_false_or_eq_true (decide (s35 < (a0.Source.From.length : Int))) with h39 | h39
                  · have hM := ite_true' hM h39
                    refine tr_condTe (e := decide (s35 < (a0.Source.From.length : Int))) h39 (by kernel_rfl) ?_
                    refine tr_skip (q_n ?_)
                    refine tr_seq ?_
                    refine tr_block ?_
                    refine tr_sr hT hm [] [2, 6, 8, 14, 16, 2003, 2007, 2009] [(2, .d (.rp 1001 0)), (6, .d (.rp 1003 0)), (8, .d (.rp 1004 0)), (14, .d (iv s35)), (16, .d (iv 0)), bxB 2003 (eXFunctor.b a0), bxB 2007 (eXCategory.b a0.Source), bxB 2009 (eXCategory.b a0.Target)] .nil (by kernel_rfl) (by kernel_rfl) ?_
                    refine tr_block ?_
                    refine tr_iterS (fun (s40 : Int) => [(2, .d (.rp 1001 0)), (6, .d (.rp 1003 0)), (8, .d (.rp 1004 0)), (14, .d (iv s35)), (16, .d (iv s40)), bxB 2003 (eXFunctor.b a0), bxB 2007 (eXCategory.b a0.Source), bxB 2009 (eXCategory.b a0.Target)]) 0 [2, 6, 8, 14, 16, 2003, 2007, 2009] (by kernel_rfl) hM ?_
                    intro n43 next41 ih42 s40 hM
                    refine tr_seq ?_
                    refine tr_sr hT hm [] [2, 6, 8, 14, 16, 272, 2003, 2007, 2009] [(2, .d (.rp 1001 0)), (6, .d (.rp 1003 0)), (8, .d (.rp 1004 0)), (14, .d (iv s35)), (16, .d (iv s40)), (272, .d (bv (decide (s40 < (a0.Source.From.length : Int))))), bxB 2003 (eXFunctor.b a0), bxB 2007 (eXCategory.b a0.Source), bxB 2009 (eXCategory.b a0.Target)] .nil (by kernel_rfl) (by kernel_rfl) ?_
                    rcases Bool.eq_false_or_eq_true (decide (s40 < (a0.Source.From.length : Int))) with h44 | h44
                    · have hM := ite_true' hM h44
                      refine tr_condTe (e := decide (s40 < (a0.Source.From.length : Int))) h44 (by kernel_rfl) ?_
                      refine tr_skip (q_n ?_)
                      refine tr_seq ?_
                      refine tr_block ?_
                      obtain ⟨y45, hy45, hM⟩ := bind_some' hM
                      have hy45' := idx_some hy45
                      obtain ⟨y46, hy46, hM⟩ := bind_some' hM
                      have hy46' := idx_some hy46
                      rcases Bool.eq_false_or_eq_true (y45 == y46) with h47 | h47
                      · have hM := ite_true' hM h47
                        obtain ⟨y48, hy48, hM⟩ := bind_some' hM
                        have hy48' := idx_some hy48
                        obtain ⟨y49, hy49, hM⟩ := bind_some' hM
                        have hy49' := idx_some hy49
                        obtain ⟨y50, hy50, hM⟩ := bind_some' hM
                        have hy50' := idx_some hy50
                        obtain ⟨y51, hy51, hM⟩ := bind_some' hM
                        have hy51' := idx_some hy51
                        obtain ⟨y52, hy52, hM⟩ := bind_some' hM
                        have hy52' := idx_some hy52
                        obtain ⟨y53, hy53, hM⟩ := bind_some' hM
                        have hy53' := idx_some hy53
                        obtain ⟨y54, hy54, hM⟩ := bind_some' hM
                        have hy54' := idx_some hy54
                        refine tr_sr hT hm [(4, .val (iv y45)), (9, .val (iv y46)), (11, .val (bv true)), (18, .val (.sl y48.length 0 (y48.flatMap eI.b))), (21, .val (iv y49)), (23, .val (iv y50)), (30, .val (iv y51)), (32, .val (.sl y52.length 0 (y52.flatMap eI.b))), (37, .val (iv y53)), (39, .val (iv y54))] [2, 6, 8, 14, 16, 360, 2003, 2007, 2009] [(2, .d (.rp 1001 0)), (6, .d (.rp 1003 0)), (8, .d (.rp 1004 0)), (14, .d (iv s35)), (16, .d (iv s40)), (360, .d (bv (y50 != y54))), bxB 2003 (eXFunctor.b a0), bxB 2007 (eXCategory.b a0.Source), bxB 2009 (eXCategory.b a0.Target)] (.cons hy45'.1 (.cons hy45'.2.1 (.cons (at_b0 eI_ok hy45'.2.2 (d := iv y45) (by kernel_rfl)) (.cons hy46'.1 (.cons hy46'.2.1 (.cons (at_b0 eI_ok hy46'.2.2 (d := iv y46) (by kernel_rfl)) (.cons (congrArg (fun b => bv b) h47) (.cons hy48'.1 (.cons hy48'.2.1 (.cons (at_b0 (eS_ok eI_ok) hy48'.2.2 (d := .sl y48.length 0 (y48.flatMap eI.b)) (by kernel_rfl)) (.cons hy49'.1 (.cons hy49'.2.1 (.cons (at_b0 eI_ok hy49'.2.2 (d := iv y49) (by kernel_rfl)) (.cons hy50'.1 (.cons hy50'.2.1 (.cons (at_b0 eI_ok hy50'.2.2 (d := iv y50) (by kernel_rfl)) (.cons hy51'.1 (.cons hy51'.2.1 (.cons (at_b0 eI_ok hy51'.2.2 (d := iv y51) (by kernel_rfl)) (.cons hy52'.1 (.cons hy52'.2.1 (.cons (at_b0 (eS_ok eI_ok) hy52'.2.2 (d := .sl y52.length 0 (y52.flatMap eI.b)) (by kernel_rfl)) (.cons hy53'.1 (.cons hy53'.2.1 (.cons (at_b0 eI_ok hy53'.2.2 (d := iv y53) (by kernel_rfl)) (.cons hy54'.1 (.cons hy54'.2.1 (.cons (at_b0 eI_ok hy54'.2.2 (d := iv y54) (by kernel_rfl)) .nil)))))))))))))))))))))))))))) (by kernel_rfl) (by kernel_rfl) ?_
                        rcases Bool.eq_false_or_eq_true (y50 != y54) with h55 | h55
                        · have hM := ite_true' hM h55
                          refine tr_condTe (e := y50 != y54) h55 (by kernel_rfl) ?_
                          refine tr_sr hT hm [] [4] [(4, .d (bv false))] .nil (by kernel_rfl) (by kernel_rfl) ?_
                          refine tr_ret (b_r (q_r (l_r (b_r (b_r (q_r (l_r (b_r (q_r (rg_r ?_))))))))))
                          obtain rfl := Option.some.inj hM
                          exact retg (names := []) .nil (by kernel_rfl)
                        · have hM := ite_false' hM h55
                          refine tr_condFe (e := y50 != y54) h55 (by kernel_rfl) ?_
                          refine tr_skip (b_n (q_n ?_))
                          refine tr_r hT hm [] [2, 6, 8, 14, 16, 2003, 2007, 2009] [(2, .d (.rp 1001 0)), (6, .d (.rp 1003 0)), (8, .d (.rp 1004 0)), (14, .d (iv s35)), (16, .d (iv (IntKind.i64.wrap (s40 + 1)))), bxB 2003 (eXFunctor.b a0), bxB 2007 (eXCategory.b a0.Source), bxB 2009 (eXCategory.b a0.Target)] .nil (by kernel_rfl) (by kernel_rfl) (l_n ?_)
                          exact trl_start (ks := [2, 6, 8, 14, 16, 2003, 2007, 2009]) (by kernel_rfl) (ih42 (IntKind.i64.wrap (s40 + 1)) hM)
                      · have hM := ite_false' hM h47
                        refine tr_sr hT hm [(4, .val (iv y45)), (9, .val (iv y46)), (11, .val (bv false))] [2, 6, 8, 14, 16, 360, 2003, 2007, 2009] [(2, .d (.rp 1001 0)), (6, .d (.rp 1003 0)), (8, .d (.rp 1004 0)), (14, .d (iv s35)), (16, .d (iv s40)), (360, .d (bv false)), bxB 2003 (eXFunctor.b a0), bxB 2007 (eXCategory.b a0.Source), bxB 2009 (eXCategory.b a0.Target)] (.cons hy45'.1 (.cons hy45'.2.1 (.cons (at_b0 eI_ok hy45'.2.2 (d := iv y45) (by kernel_rfl)) (.cons hy46'.1 (.cons hy46'.2.1 (.cons (at_b0 eI_ok hy46'.2.2 (d := iv y46) (by kernel_rfl)) (.cons (congrArg (fun b => bv b) h47) .nil))))))) (by kernel_rfl) (by kernel_rfl) ?_
                        refine tr_condF (by kernel_rfl) ?_
                        refine tr_skip (b_n (q_n ?_))
                        refine tr_r hT hm [] [2, 6, 8, 14, 16, 2003, 2007, 2009] [(2, .d (.rp 1001 0)), (6, .d (.rp 1003 0)), (8, .d (.rp 1004 0)), (14, .d (iv s35)), (16, .d (iv (IntKind.i64.wrap (s40 + 1)))), bxB 2003 (eXFunctor.b a0), bxB 2007 (eXCategory.b a0.Source), bxB 2009 (eXCategory.b a0.Target)] .nil (by kernel_rfl) (by kernel_rfl) (l_n ?_)
                        exact trl_start (ks := [2, 6, 8, 14, 16, 2003, 2007, 2009]) (by kernel_rfl) (ih42 (IntKind.i64.wrap (s40 + 1)) hM)
                    · have hM := ite_false' hM h44
                      refine tr_condFe (e := decide (s40 < (a0.Source.From.length : Int))) h44 (by kernel_rfl) ?_
                      refine tr_exit (q_x (l_x (b_h (b_n (q_n ?_)))))
                      refine tr_r hT hm [] [2, 6, 8, 14, 2003, 2007, 2009] [(2, .d (.rp 1001 0)), (6, .d (.rp 1003 0)), (8, .d (.rp 1004 0)), (14, .d (iv (IntKind.i64.wrap (s35 + 1)))), bxB 2003 (eXFunctor.b a0), bxB 2007 (eXCategory.b a0.Source), bxB 2009 (eXCategory.b a0.Target)] .nil (by kernel_rfl) (by kernel_rfl) (l_n ?_)
                      exact trl_start (ks := [2, 6, 8, 14, 2003, 2007, 2009]) (by kernel_rfl) (ih37 (IntKind.i64.wrap (s35 + 1)) hM)
                  · have hM := ite_false' hM h39
                    refine tr_condFe (e := decide (s35 < (a0.Source.From.length : Int))) h39 (by kernel_rfl) ?_
                    refine tr_exit (q_x (l_x (b_h (q_n ?_))))
                    refine tr_sr hT hm [] [4] [(4, .d (bv true))] .nil (by kernel_rfl) (by kernel_rfl) ?_
                    refine tr_ret (rg_r ?_)
                    obtain rfl := Option.some.inj hM
                    exact retg (names := []) .nil (by kernel_rfl)
            · have hM := ite_false' hM h10
              refine tr_condTe (e := !v9) (congrArg not h10) (by kernel_rfl) ?_
              refine tr_sr hT hm [] [4] [(4, .d (bv false))] .nil (by kernel_rfl) (by kernel_rfl) ?_
              refine tr_ret (q_r (rg_r ?_))
              obtain rfl := Option.some.inj hM
              exact retg (names := []) .nil (by kernel_rfl)
          · have hM := ite_false' hM h8
            refine tr_sr hT hm [(4, .call [] [] [iv a0.Target.Objects, .sl a0.Objects.length 0 (a0.Objects.flatMap eI.b)] [] (bv v7)), (6, .val (bv true))] [2, 6, 8, 104, 2003, 2007, 2009] [(2, .d (.rp 1001 0)), (6, .d (.rp 1003 0)), (8, .d (.rp 1004 0)), (104, .d (bv true)), bxB 2003 (eXFunctor.b a0), bxB 2007 (eXCategory.b a0.Source), bxB 2009 (eXCategory.b a0.Target)] (cc0 ok76 (spec_l01Map_c a0.Target.Objects a0.Objects _ hv7) (by kernel_rfl) (.cons (congrArg (fun b => bv b) (congrArg not h8)) .nil)) (by kernel_rfl) (by kernel_rfl) ?_
            refine tr_condT (by kernel_rfl) ?_
            refine tr_sr hT hm [] [4] [(4, .d (bv false))] .nil (by kernel_rfl) (by kernel_rfl) ?_
            refine tr_ret (q_r (rg_r ?_))
            obtain rfl := Option.some.inj hM
            exact retg (names := []) .nil (by kernel_rfl)
    · have hM := ite_false' hM h4
      refine tr_sr hT hm [(1, .call [] [] [.agg (eXCategory.b a0.Source)] [] (bv v1)), (3, .val (bv false)), (5, .call [] [] [.agg (eXCategory.b a0.Target)] [] (bv v3)), (8, .val (bv true))] [2, 6, 8, 74, 2003, 2007, 2009] [(2, .d (.rp 1001 0)), (6, .d (.rp 1003 0)), (8, .d (.rp 1004 0)), (74, .d (bv true)), bxB 2003 (eXFunctor.b a0), bxB 2007 (eXCategory.b a0.Source), bxB 2009 (eXCategory.b a0.Target)] (cc0 ok75 (spec_l02Is_c a0.Source _ hv1) (by kernel_rfl) (.cons (congrArg (fun b => bv b) (congrArg not h2)) (cc0 ok75 (spec_l02Is_c a0.Target _ hv3) (by kernel_rfl) (.cons (congrArg (fun b => bv b) (congrArg not h4)) .nil)))) (by kernel_rfl) (by kernel_rfl) ?_
      refine tr_condT (by kernel_rfl) ?_
      refine tr_sr hT hm [] [4] [(4, .d (bv false))] .nil (by kernel_rfl) (by kernel_rfl) ?_
      refine tr_ret (q_r (rg_r ?_))
      obtain rfl := Option.some.inj hM
      exact retg (names := []) .nil (by kernel_rfl)
  · have hM := ite_false' hM h2
    refine tr_sr hT hm [(1, .call [] [] [.agg (eXCategory.b a0.Source)] [] (bv v1)), (3, .val (bv true))] [2, 6, 8, 74, 2003, 2007, 2009] [(2, .d (.rp 1001 0)), (6, .d (.rp 1003 0)), (8, .d (.rp 1004 0)), (74, .d (bv true)), bxB 2003 (eXFunctor.b a0), bxB 2007 (eXCategory.b a0.Source), bxB 2009 (eXCategory.b a0.Target)] (cc0 ok75 (spec_l02Is_c a0.Source _ hv1) (by kernel_rfl) (.cons (congrArg (fun b => bv b) (congrArg not h2)) .nil)) (by kernel_rfl) (by kernel_rfl) ?_
    refine tr_condT (by kernel_rfl) ?_
    refine tr_sr hT hm [] [4] [(4, .d (bv false))] .nil (by kernel_rfl) (by kernel_rfl) ?_
    refine tr_ret (q_r (rg_r ?_))
    obtain rfl := Option.some.inj hM
    exact retg (names := []) .nil (by kernel_rfl)

theorem ok82 : CallOk Try.prog 82 := callOk_of Try.func82 (by kernel_rfl) (by kernel_rfl)
theorem spec_l01Own_c (a0 : List Int) (r : (List Int)) (hM : M.spec_l01Own a0 = some r) :
    FnC Try.prog 82 [] [.sl a0.length 0 (a0.flatMap eI.b)] [] (.fr 1 r.length (r.flatMap eI.o)) := by
  refine fnc_startG (N := 6) (np := 500) hT Try.func82 rfl rfl (by kernel_rfl) ?_
  unfold M.spec_l01Own at hM
  refine tr_start (ks := [0]) (st' := [(0, .d (.sl a0.length 0 (a0.flatMap eI.b)))]) (by kernel_rfl) ?_
  refine tr_sr hT hm [] [0] [(0, .d (.sl a0.length 0 (a0.flatMap eI.b)))] .nil (by kernel_rfl) (by kernel_rfl) ?_
  obtain ⟨h1, hM⟩ := chk_some hM
  refine tr_sr hT hm [(2, .app false)] [4, 2011] [(4, .d (.rs 1005 0 (([] : List Int).length + a0.length))), (2011, .r (.arr 1 (([] : List Int).flatMap eI.o ++ ((a0.flatMap eI.b).drop 0).take (a0.length * 1)) []))] (.cons (lenO_flat eI_ok ([] : List Int)) (.cons (len_take eI_ok.lenB a0) (.cons h1 .nil))) (by kernel_rfl) (by kernel_rfl) ?_
  refine Tr.by (imp_cvE (r := 1005) (sz := 1) (refs := []) (app_take eI_ok.lenB (fun _ => rfl) ([] : List Int) a0) (menO_flat eI_ok _) (by kernel_rfl)) ?_
  refine Tr.by (imp_cvD (k := 4) (congrArg (D.rs 1005 0) ((len_app ([] : List Int) a0) : ([] : List Int).length + a0.length = (([] : List Int) ++ a0).length)) (by kernel_rfl)) ?_
  refine tr_ret (rg_r ?_)
  obtain rfl := Option.some.inj hM
  exact retg (names := []) (.cons (lenO_flat eI_ok (([] : List Int) ++ a0)) .nil) (by kernel_rfl)

theorem ok136 : CallOk Try.prog 136 := callOk_of Try.func136 (by kernel_rfl) (by kernel_rfl)
theorem spec_l01Own2_c (a0 : List (List Int)) (r : (List (List Int))) (hM : M.spec_l01Own2 a0 = some r) :
    FnC Try.prog 136 [] [.sl a0.length 0 (a0.flatMap (eS eI).b)] [] (.fr 1 r.length (r.flatMap (eS eI).o)) := by
  refine fnc_startG (N := 21) (np := 500) hT Try.func136 rfl rfl (by kernel_rfl) ?_
  unfold M.spec_l01Own2 at hM
  refine tr_start (ks := [0]) (st' := [(0, .d (.sl a0.length 0 (a0.flatMap (eS eI).b)))]) (by kernel_rfl) ?_
  refine tr_sr hT hm [] [0] [(0, .d (.sl a0.length 0 (a0.flatMap (eS eI).b)))] .nil (by kernel_rfl) (by kernel_rfl) ?_
  refine tr_sr hT hm [] [0, 6, 2011] [(0, .d (.sl a0.length 0 (a0.flatMap (eS eI).b))), (6, .d (.rs 1005 0 (([] : List (List Int)).length))), (2011, .r (.arr 1 (([] : List (List Int)).flatMap (eS eI).o) []))] .nil (by kernel_rfl) (by kernel_rfl) ?_
  refine tr_seq ?_
  refine tr_sr hT hm [] [0, 6, 8, 2011] [(0, .d (.sl a0.length 0 (a0.flatMap (eS eI).b))), (6, .d (.rs 1005 0 (([] : List (List Int)).length))), (8, .d (iv 0)), (2011, .r (.arr 1 (([] : List (List Int)).flatMap (eS eI).o) []))] .nil (by kernel_rfl) (by kernel_rfl) ?_
  refine tr_block ?_
  refine tr_iterS (fun (s1 : (List (List Int)) × Int) => [(0, .d (.sl a0.length 0 (a0.flatMap (eS eI).b))), (6, .d (.rs 1005 0 s1.1.length)), (8, .d (iv s1.2)), (2011, .r (.arr 1 (s1.1.flatMap (eS eI).o) []))]) (([] : List (List Int)), 0) [0, 6, 8, 2011] (by kernel_rfl) hM ?_
  intro n4 next2 ih3 s1 hM
  refine tr_seq ?_
  refine tr_sr hT hm [] [0, 6, 8, 18, 2011] [(0, .d (.sl a0.length 0 (a0.flatMap (eS eI).b))), (6, .d (.rs 1005 0 s1.1.length)), (8, .d (iv s1.2)), (18, .d (bv (decide (s1.2 < (a0.length : Int))))), (2011, .r (.arr 1 (s1.1.flatMap (eS eI).o) []))] .nil (by kernel_rfl) (by kernel_rfl) ?_
  rcases Bool.eq_false_or_eq_true (decide (s1.2 < (a0.length : Int))) with h5 | h5
  · have hM := ite_true' hM h5
    refine tr_condTe (e := decide (s1.2 < (a0.length : Int))) h5 (by kernel_rfl) ?_
    refine tr_skip (q_n ?_)
    refine tr_seq ?_
    refine tr_block ?_
    obtain ⟨y6, hy6, hM⟩ := bind_some' hM
    have hy6' := idx_some hy6
    obtain ⟨v7, hv7, hM⟩ := bind_some' hM
    obtain ⟨h8, hM⟩ := chk_some hM
    refine tr_r hT hm [(4, .val (.sl y6.length 0 (y6.flatMap eI.b))), (5, .call [] [] [.sl y6.length 0 (y6.flatMap eI.b)] [] (.fr 1 v7.length (v7.flatMap eI.o))), (7, .app true)] [0, 6, 8, 2039, 38001] [(0, .d (.sl a0.length 0 (a0.flatMap (eS eI).b))), (6, .d (.rs 1019 0 (s1.1.length + 1))), (8, .d (iv s1.2)), (2039, .r (.arr 1 (s1.1.flatMap (eS eI).o ++ [.rs 19000 0 v7.length]) [19000])), (38001, .r (.arr 1 (v7.flatMap eI.o) []))] (.cons hy6'.1 (.cons hy6'.2.1 (.cons (at_b0 (eS_ok eI_ok) hy6'.2.2 (d := .sl y6.length 0 (y6.flatMap eI.b)) (by kernel_rfl)) (cc0 ok82 (spec_l01Own_c y6 _ hv7) (by kernel_rfl) (.cons (lenO_flat (eS_ok eI_ok) s1.1) (.cons (by kernel_rfl : ([.rs 19000 0 v7.length] : List D).length = 1 * 1) (.cons h8 .nil))))))) (by kernel_rfl) (by kernel_rfl) (b_n (q_n ?_))
    refine Tr.by (imp_demE (r := 1019) (q := 19000) (sz := 1) (n := v7.length) (j := 0) (pre := s1.1.flatMap (eS eI).o) (l := [.rs 19000 0 v7.length]) (refs := [19000]) (refs' := []) (menO_flat (eS_ok eI_ok) _) (lenO_flat eI_ok v7) (by kernel_rfl) (by kernel_rfl) (by kernel_rfl) (by kernel_rfl) (by kernel_rfl)) ?_
    refine Tr.by (imp_cvE (r := 1019) (sz := 1) (refs := []) (flat_snoc (eS eI).o s1.1 v7) (menO_flat (eS_ok eI_ok) _) (by kernel_rfl)) ?_
    refine Tr.by (imp_cvD (k := 6) (congrArg (D.rs 1019 0) ((len_snoc s1.1 v7) : s1.1.length + 1 = (s1.1 ++ [v7]).length)) (by kernel_rfl)) ?_
    refine tr_r hT hm [] [0, 6, 8, 2039] [(0, .d (.sl a0.length 0 (a0.flatMap (eS eI).b))), (6, .d (.rs 1019 0 ((s1.1 ++ [v7]).length))), (8, .d (iv (IntKind.i64.wrap (s1.2 + 1)))), (2039, .r (.arr 1 ((s1.1 ++ [v7]).flatMap (eS eI).o) []))] .nil (by kernel_rfl) (by kernel_rfl) (l_n ?_)
    refine TrL.by (imp_sel (ks := [0, 6, 8, 2039]) (st' := [(0, .d (.sl a0.length 0 (a0.flatMap (eS eI).b))), (6, .d (.rs 1019 0 ((s1.1 ++ [v7]).length))), (8, .d (iv (IntKind.i64.wrap (s1.2 + 1)))), (2039, .r (.arr 1 ((s1.1 ++ [v7]).flatMap (eS eI).o) []))]) (by kernel_rfl)) ?_
    refine TrL.by (imp_rename (r := 1019) (q := 1005) (by kernel_rfl) (Nat.le_of_ble_eq_true rfl)) ?_
    exact trl_start (ks := [0, 6, 8, 2011]) (by kernel_rfl) (ih3 (s1.1 ++ [v7], IntKind.i64.wrap (s1.2 + 1)) hM)
  · have hM := ite_false' hM h5
    refine tr_condFe (e := decide (s1.2 < (a0.length : Int))) h5 (by kernel_rfl) ?_
    refine tr_exit (q_x (l_x (b_h (q_n ?_))))
    refine tr_sr hT hm [] [4, 2011] [(4, .d (.rs 1005 0 s1.1.length)), (2011, .r (.arr 1 (s1.1.flatMap (eS eI).o) []))] .nil (by kernel_rfl) (by kernel_rfl) ?_
    refine tr_ret (rg_r ?_)
    obtain rfl := Option.some.inj hM
    exact retg (names := []) (.cons (lenO_flat (eS_ok eI_ok) s1.1) .nil) (by kernel_rfl)

theorem ok81 : CallOk Try.prog 81 := callOk_of Try.func81 (by kernel_rfl) (by kernel_rfl)
theorem spec_l02Own_c (a0 : XCategory) (r : XCategory) (hM : M.spec_l02Own a0 = some r) :
    FnC Try.prog 81 [] [.agg (eXCategory.b a0)] [] (.agg (eXCategory.o r)) := by
  refine fnc_startG (N := 18) (np := 500) hT Try.func81 rfl rfl (by kernel_rfl) ?_
  unfold M.spec_l02Own at hM
  refine tr_start (ks := [0]) (st' := [(0, .d (.agg (eXCategory.b a0)))]) (by kernel_rfl) ?_
  refine tr_sr hT hm [] [2, 4, 2003, 2005] [(2, .d (.rp 1001 0)), (4, .d (.rp 1002 0)), bxB 2003 (eXCategory.b a0), (2005, .r (.arr 1 [iv 0, nilv, nilv, nilv, nilv] []))] .nil (by kernel_rfl) (by kernel_rfl) ?_
  obtain ⟨v1, hv1, hM⟩ := bind_some' hM
  obtain ⟨v2, hv2, hM⟩ := bind_some' hM
  obtain ⟨v3, hv3, hM⟩ := bind_some' hM
  obtain ⟨v4, hv4, hM⟩ := bind_some' hM
  refine tr_sr hT hm [(4, .call [] [] [.sl a0.From.length 0 (a0.From.flatMap eI.b)] [] (.fr 1 v1.length (v1.flatMap eI.o))), (7, .call [] [] [.sl a0.To.length 0 (a0.To.flatMap eI.b)] [] (.fr 1 v2.length (v2.flatMap eI.o))), (10, .call [] [] [.sl a0.Identity.length 0 (a0.Identity.flatMap eI.b)] [] (.fr 1 v3.length (v3.flatMap eI.o))), (13, .call [] [] [.sl a0.Composites.length 0 (a0.Composites.flatMap (eS eI).b)] [] (.fr 1 v4.length (v4.flatMap (eS eI).o)))] [4, 2005, 18001, 24001, 30001, 36001] [(4, .d (.rp 1002 0)), (2005, .r (.arr 1 [iv a0.Objects, .rs 9000 0 v1.length, .rs 12000 0 v2.length, .rs 15000 0 v3.length, .rs 18000 0 v4.length] [9000, 12000, 15000, 18000])), (18001, .r (.arr 1 (v1.flatMap eI.o) [])), (24001, .r (.arr 1 (v2.flatMap eI.o) [])), (30001, .r (.arr 1 (v3.flatMap eI.o) [])), (36001, .r (.arr 1 (v4.flatMap (eS eI).o) []))] (cc0 ok82 (spec_l01Own_c a0.From _ hv1) (by kernel_rfl) (cc0 ok82 (spec_l01Own_c a0.To _ hv2) (by kernel_rfl) (cc0 ok82 (spec_l01Own_c a0.Identity _ hv3) (by kernel_rfl) (cc0 ok136 (spec_l01Own2_c a0.Composites _ hv4) (by kernel_rfl) (.cons (Nat.le_of_ble_eq_true (n := 5) (m := 5) rfl) .nil))))) (by kernel_rfl) (by kernel_rfl) ?_
  refine tr_ret (rg_r ?_)
  obtain rfl := Option.some.inj hM
  exact retg (names := []) (.cons (lenO_flat eI_ok v1) (.cons (lenO_flat eI_ok v2) (.cons (lenO_flat eI_ok v3) (.cons (lenO_flat (eS_ok eI_ok) v4) .nil)))) (by kernel_rfl)

theorem ok40 : CallOk Try.prog 40 := callOk_of Try.func40 (by kernel_rfl) (by kernel_rfl)
theorem spec_l06Make_c (a0 : XCategory) (a1 : XCategory) (a2 : List Int) (a3 : List Int) (r : XFunctor) (hM : M.spec_l06Make a0 a1 a2 a3 = some r) :
    FnC Try.prog 40 [] [.agg (eXCategory.b a0), .agg (eXCategory.b a1), .sl a2.length 0 (a2.flatMap eI.b), .sl a3.length 0 (a3.flatMap eI.b)] [] (.agg (eXFunctor.o r)) := by
  refine fnc_startG (N := 18) (np := 500) hT Try.func40 rfl rfl (by kernel_rfl) ?_
  unfold M.spec_l06Make at hM
  refine tr_start (ks := [0, 2, 4, 6]) (st' := [(0, .d (.agg (eXCategory.b a0))), (2, .d (.agg (eXCategory.b a1))), (4, .d (.sl a2.length 0 (a2.flatMap eI.b))), (6, .d (.sl a3.length 0 (a3.flatMap eI.b)))]) (by kernel_rfl) ?_
  refine tr_sr hT hm [] [4, 6, 8, 10, 16, 2009, 2011, 2017] [(4, .d (.sl a2.length 0 (a2.flatMap eI.b))), (6, .d (.sl a3.length 0 (a3.flatMap eI.b))), (8, .d (.rp 1004 0)), (10, .d (.rp 1005 0)), (16, .d (.rp 1008 0)), bxB 2009 (eXCategory.b a0), bxB 2011 (eXCategory.b a1), (2017, .r (.arr 1 [iv 0, nilv, nilv, nilv, nilv, iv 0, nilv, nilv, nilv, nilv, nilv, nilv] []))] .nil (by kernel_rfl) (by kernel_rfl) ?_
  obtain ⟨v1, hv1, hM⟩ := bind_some' hM
  obtain ⟨v2, hv2, hM⟩ := bind_some' hM
  obtain ⟨v3, hv3, hM⟩ := bind_some' hM
  obtain ⟨v4, hv4, hM⟩ := bind_some' hM
  refine tr_sr hT hm [(1, .call [] [] [.agg (eXCategory.b a0)] [] (.agg (eXCategory.o v1))), (3, .call [] [] [.agg (eXCategory.b a1)] [] (.agg (eXCategory.o v2))), (5, .call [] [] [.sl a2.length 0 (a2.flatMap eI.b)] [] (.fr 1 v3.length (v3.flatMap eI.o))), (7, .call [] [] [.sl a3.length 0 (a3.flatMap eI.b)] [] (.fr 1 v4.length (v4.flatMap eI.o)))] [16, 2017, 24003, 24005, 24007, 24009, 28003, 28005, 28007, 28009, 32001, 36001] ([(16, .d (.rp 1008 0)), (2017, .r (.arr 1 [iv v1.Objects, .rs 12001 0 v1.From.length, .rs 12002 0 v1.To.length, .rs 12003 0 v1.Identity.length, .rs 12004 0 v1.Composites.length, iv v2.Objects, .rs 14001 0 v2.From.length, .rs 14002 0 v2.To.length, .rs 14003 0 v2.Identity.length, .rs 14004 0 v2.Composites.length, .rs 16000 0 v3.length, .rs 18000 0 v4.length] [12001, 12002, 12003, 12004, 14001, 14002, 14003, 14004, 16000, 18000]))] ++ rsS 12000 (eXCategory.o v1) ++ rsS 14000 (eXCategory.o v2) ++ [(32001, .r (.arr 1 (v3.flatMap eI.o) [])), (36001, .r (.arr 1 (v4.flatMap eI.o) []))]) (cc0 ok81 (spec_l02Own_c a0 _ hv1) (by kernel_rfl) (cc0 ok81 (spec_l02Own_c a1 _ hv2) (by kernel_rfl) (cc0 ok82 (spec_l01Own_c a2 _ hv3) (by kernel_rfl) (cc0 ok82 (spec_l01Own_c a3 _ hv4) (by kernel_rfl) (.cons (Nat.le_of_ble_eq_true (n := 12) (m := 12) rfl) .nil))))) (by kernel_rfl) (by kernel_rfl) ?_
  refine tr_ret (rg_r ?_)
  obtain rfl := Option.some.inj hM
  exact retg (names := []) (.cons (lenO_flat eI_ok v1.From) (.cons (lenO_flat eI_ok v1.To) (.cons (lenO_flat eI_ok v1.Identity) (.cons (lenO_flat (eS_ok eI_ok) v1.Composites) (.cons (lenO_flat eI_ok v2.From) (.cons (lenO_flat eI_ok v2.To) (.cons (lenO_flat eI_ok v2.Identity) (.cons (lenO_flat (eS_ok eI_ok) v2.Composites) (.cons (lenO_flat eI_ok v3) (.cons (lenO_flat eI_ok v4) .nil)))))))))) (by kernel_rfl)

theorem ok41 : CallOk Try.prog 41 := callOk_of Try.func41 (by kernel_rfl) (by kernel_rfl)
theorem laws_toInt64S_c (a0 : List Int) (r : (List Int)) (hM : M.laws_toInt64S a0 = some r) :
    FnC Try.prog 41 [] [.sl a0.length 0 (a0.flatMap eI.b)] [] (.fr 1 r.length (r.flatMap eI.o)) := by
  refine fnc_startG (N := 22) (np := 500) hT Try.func41 rfl rfl (by kernel_rfl) ?_
  unfold M.laws_toInt64S at hM
  refine tr_start (ks := [0]) (st' := [(0, .d (.sl a0.length 0 (a0.flatMap eI.b)))]) (by kernel_rfl) ?_
  refine tr_sr hT hm [] [0] [(0, .d (.sl a0.length 0 (a0.flatMap eI.b)))] .nil (by kernel_rfl) (by kernel_rfl) ?_
  obtain ⟨h1, hM⟩ := chk_some hM
  refine tr_sr hT hm [] [0, 6, 2015] [(0, .d (.sl a0.length 0 (a0.flatMap eI.b))), (6, .d (.rs 1007 0 ((a0.length : Int).toNat))), (2015, .r (.arr 1 (repl (a0.length : Int).toNat [.int .i64 0]) []))] (.cons h1.1 (.cons (Int.le_refl (a0.length : Int)) (.cons h1.2 .nil))) (by kernel_rfl) (by kernel_rfl) ?_
  refine Tr.by (imp_cvE (r := 1007) (sz := 1) (refs := []) (repl_flat (f := eI.o) (zs := [.int .i64 0]) (z := (0 : Int)) rfl (a0.length : Int).toNat) (menO_flat eI_ok _) (by kernel_rfl)) ?_
  refine Tr.by (imp_cvD (k := 6) (congrArg (D.rs 1007 0) (List.length_replicate.symm : (a0.length : Int).toNat = (List.replicate (a0.length : Int).toNat (0 : Int)).length)) (by kernel_rfl)) ?_
  refine tr_seq ?_
  refine tr_sr hT hm [] [0, 6, 8, 2015] [(0, .d (.sl a0.length 0 (a0.flatMap eI.b))), (6, .d (.rs 1007 0 ((List.replicate (a0.length : Int).toNat (0 : Int)).length))), (8, .d (iv 0)), (2015, .r (.arr 1 ((List.replicate (a0.length : Int).toNat (0 : Int)).flatMap eI.o) []))] .nil (by kernel_rfl) (by kernel_rfl) ?_
  refine tr_block ?_
  refine tr_iterS (fun (s2 : (List Int) × Int) => [(0, .d (.sl a0.length 0 (a0.flatMap eI.b))), (6, .d (.rs 1007 0 s2.1.length)), (8, .d (iv s2.2)), (2015, .r (.arr 1 (s2.1.flatMap eI.o) []))]) ((List.replicate (a0.length : Int).toNat (0 : Int)), 0) [0, 6, 8, 2015] (by kernel_rfl) hM ?_
  intro n5 next3 ih4 s2 hM
  refine tr_seq ?_
  refine tr_sr hT hm [] [0, 6, 8, 22, 2015] [(0, .d (.sl a0.length 0 (a0.flatMap eI.b))), (6, .d (.rs 1007 0 s2.1.length)), (8, .d (iv s2.2)), (22, .d (bv (decide (s2.2 < (a0.length : Int))))), (2015, .r (.arr 1 (s2.1.flatMap eI.o) []))] .nil (by kernel_rfl) (by kernel_rfl) ?_
  rcases Bool.eq_false_or_eq_true (decide (s2.2 < (a0.length : Int))) with h6 | h6
  · have hM := ite_true' hM h6
    refine tr_condTe (e := decide (s2.2 < (a0.length : Int))) h6 (by kernel_rfl) ?_
    refine tr_skip (q_n ?_)
    refine tr_seq ?_
    refine tr_block ?_
    obtain ⟨y7, hy7, hM⟩ := bind_some' hM
    have hy7' := idx_some hy7
    obtain ⟨y8, hy8, hM⟩ := bind_some' hM
    have hy8' := idx_some hy8
    refine tr_r hT hm [(5, .val (iv y7))] [0, 6, 8, 2015] [(0, .d (.sl a0.length 0 (a0.flatMap eI.b))), (6, .d (.rs 1007 0 s2.1.length)), (8, .d (iv s2.2)), (2015, .r (.arr 1 ((s2.1.flatMap eI.o).take (0 + s2.2.toNat * 1) ++ [iv y7] ++ (s2.1.flatMap eI.o).drop (0 + s2.2.toNat * 1 + 1)) []))] (.cons hy7'.1 (.cons hy7'.2.1 (.cons (at_b0 eI_ok hy7'.2.2 (d := iv y7) (by kernel_rfl)) (.cons hy8'.1 (.cons hy8'.2.1 (.cons (store_le eI_ok hy8'.2.2) .nil)))))) (by kernel_rfl) (by kernel_rfl) (b_n (q_n ?_))
    refine Tr.by (imp_cvE (r := 1007) (sz := 1) (refs := []) (set_flat eI_ok.lenO (y := y7) hy8'.2.2) (menO_flat eI_ok _) (by kernel_rfl)) ?_
    refine Tr.by (imp_cvD (k := 6) (congrArg (D.rs 1007 0) (List.length_set.symm : s2.1.length = (s2.1.set s2.2.toNat y7).length)) (by kernel_rfl)) ?_
    refine tr_r hT hm [] [0, 6, 8, 2015] [(0, .d (.sl a0.length 0 (a0.flatMap eI.b))), (6, .d (.rs 1007 0 ((s2.1.set s2.2.toNat y7).length))), (8, .d (iv (IntKind.i64.wrap (s2.2 + 1)))), (2015, .r (.arr 1 ((s2.1.set s2.2.toNat y7).flatMap eI.o) []))] .nil (by kernel_rfl) (by kernel_rfl) (l_n ?_)
    exact trl_start (ks := [0, 6, 8, 2015]) (by kernel_rfl) (ih4 (s2.1.set s2.2.toNat y7, IntKind.i64.wrap (s2.2 + 1)) hM)
  · have hM := ite_false' hM h6
    refine tr_condFe (e := decide (s2.2 < (a0.length : Int))) h6 (by kernel_rfl) ?_
    refine tr_exit (q_x (l_x (b_h (q_n ?_))))
    refine tr_sr hT hm [] [4, 2015] [(4, .d (.rs 1007 0 s2.1.length)), (2015, .r (.arr 1 (s2.1.flatMap eI.o) []))] .nil (by kernel_rfl) (by kernel_rfl) ?_
    refine tr_ret (rg_r ?_)
    obtain rfl := Option.some.inj hM
    exact retg (names := []) (.cons (lenO_flat eI_ok s2.1) .nil) (by kernel_rfl)

theorem ok53 : CallOk Try.prog 53 := callOk_of Try.func53 (by kernel_rfl) (by kernel_rfl)
theorem laws_toInt64SS_c (a0 : List (List Int)) (r : (List (List Int))) (hM : M.laws_toInt64SS a0 = some r) :
    FnC Try.prog 53 [] [.sl a0.length 0 (a0.flatMap (eS eI).b)] [] (.fr 1 r.length (r.flatMap (eS eI).o)) := by
  refine fnc_startG (N := 23) (np := 500) hT Try.func53 rfl rfl (by kernel_rfl) ?_
  unfold M.laws_toInt64SS at hM
  refine tr_start (ks := [0]) (st' := [(0, .d (.sl a0.length 0 (a0.flatMap (eS eI).b)))]) (by kernel_rfl) ?_
  refine tr_sr hT hm [] [0] [(0, .d (.sl a0.length 0 (a0.flatMap (eS eI).b)))] .nil (by kernel_rfl) (by kernel_rfl) ?_
  obtain ⟨h1, hM⟩ := chk_some hM
  refine tr_sr hT hm [] [0, 6, 2015] [(0, .d (.sl a0.length 0 (a0.flatMap (eS eI).b))), (6, .d (.rs 1007 0 ((a0.length : Int).toNat))), (2015, .r (.arr 1 (repl (a0.length : Int).toNat [.slice .none 0 0]) []))] (.cons h1.1 (.cons (Int.le_refl (a0.length : Int)) (.cons h1.2 .nil))) (by kernel_rfl) (by kernel_rfl) ?_
  refine Tr.by (imp_cvL (r := 1007) (sz := 1) (refs := []) (subl_repl (f := (eS eI).o) (zs := [.slice .none 0 0]) (z := ([] : List Int)) (.cons Sub.nil_fr .nil) (a0.length : Int).toNat) (repl_hl (by kernel_rfl)) (menO_flat (eS_ok eI_ok) _) (by kernel_rfl)) ?_
  refine Tr.by (imp_cvD (k := 6) (congrArg (D.rs 1007 0) (List.length_replicate.symm : (a0.length : Int).toNat = (List.replicate (a0.length : Int).toNat ([] : List Int)).length)) (by kernel_rfl)) ?_
  refine tr_seq ?_
  refine tr_sr hT hm [] [0, 6, 8, 2015] [(0, .d (.sl a0.length 0 (a0.flatMap (eS eI).b))), (6, .d (.rs 1007 0 ((List.replicate (a0.length : Int).toNat ([] : List Int)).length))), (8, .d (iv 0)), (2015, .r (.arr 1 ((List.replicate (a0.length : Int).toNat ([] : List Int)).flatMap (eS eI).o) []))] .nil (by kernel_rfl) (by kernel_rfl) ?_
  refine tr_block ?_
  refine tr_iterS (fun (s2 : (List (List Int)) × Int) => [(0, .d (.sl a0.length 0 (a0.flatMap (eS eI).b))), (6, .d (.rs 1007 0 s2.1.length)), (8, .d (iv s2.2)), (2015, .r (.arr 1 (s2.1.flatMap (eS eI).o) []))]) ((List.replicate (a0.length : Int).toNat ([] : List Int)), 0) [0, 6, 8, 2015] (by kernel_rfl) hM ?_
  intro n5 next3 ih4 s2 hM
  refine tr_seq ?_
  refine tr_sr hT hm [] [0, 6, 8, 22, 2015] [(0, .d (.sl a0.length 0 (a0.flatMap (eS eI).b))), (6, .d (.rs 1007 0 s2.1.length)), (8, .d (iv s2.2)), (22, .d (bv (decide (s2.2 < (a0.length : Int))))), (2015, .r (.arr 1 (s2.1.flatMap (eS eI).o) []))] .nil (by kernel_rfl) (by kernel_rfl) ?_
  rcases Bool.eq_false_or_eq_true (decide (s2.2 < (a0.length : Int))) with h6 | h6
  · have hM := ite_true' hM h6
    refine tr_condTe (e := decide (s2.2 < (a0.length : Int))) h6 (by kernel_rfl) ?_
    refine tr_skip (q_n ?_)
    refine tr_seq ?_
    refine tr_block ?_
    obtain ⟨y7, hy7, hM⟩ := bind_some' hM
    have hy7' := idx_some hy7
    obtain ⟨v8, hv8, hM⟩ := bind_some' hM
    obtain ⟨y9, hy9, hM⟩ := bind_some' hM
    have hy9' := idx_some hy9
    refine tr_r hT hm [(5, .val (.sl y7.length 0 (y7.flatMap eI.b))), (6, .call [] [] [.sl y7.length 0 (y7.flatMap eI.b)] [] (.fr 1 v8.length (v8.flatMap eI.o)))] [0, 6, 8, 2015, 44001] [(0, .d (.sl a0.length 0 (a0.flatMap (eS eI).b))), (6, .d (.rs 1007 0 s2.1.length)), (8, .d (iv s2.2)), (2015, .r (.arr 1 ((s2.1.flatMap (eS eI).o).take (0 + s2.2.toNat * 1) ++ [.rs 22000 0 v8.length] ++ (s2.1.flatMap (eS eI).o).drop (0 + s2.2.toNat * 1 + 1)) [22000])), (44001, .r (.arr 1 (v8.flatMap eI.o) []))] (.cons hy7'.1 (.cons hy7'.2.1 (.cons (at_b0 (eS_ok eI_ok) hy7'.2.2 (d := .sl y7.length 0 (y7.flatMap eI.b)) (by kernel_rfl)) (cc0 ok41 (laws_toInt64S_c y7 _ hv8) (by kernel_rfl) (.cons hy9'.1 (.cons hy9'.2.1 (.cons (store_le (eS_ok eI_ok) hy9'.2.2) .nil))))))) (by kernel_rfl) (by kernel_rfl) (b_n (q_n ?_))
    refine Tr.by (imp_dem (r := 1007) (q := 22000) (sz := 1) (n := v8.length) (j := 0) (pre := (s2.1.flatMap (eS eI).o).take (0 + s2.2.toNat * 1)) (l := [.rs 22000 0 v8.length]) (post := (s2.1.flatMap (eS eI).o).drop (0 + s2.2.toNat * 1 + 1)) (refs := [22000]) (refs' := []) (menO_take (eS_ok eI_ok) _ _) (menO_drop (eS_ok eI_ok) _ _) (lenO_of eI_ok v8 rfl) (by kernel_rfl) (by kernel_rfl) (by kernel_rfl) (by kernel_rfl) (by kernel_rfl)) ?_
    refine Tr.by (imp_cvE (r := 1007) (sz := 1) (refs := []) (set_flatF eI_ok (y := v8) hy9'.2.2 rfl) (menO_flat (eS_ok eI_ok) _) (by kernel_rfl)) ?_
    refine Tr.by (imp_cvD (k := 6) (congrArg (D.rs 1007 0) (List.length_set.symm : s2.1.length = (s2.1.set s2.2.toNat v8).length)) (by kernel_rfl)) ?_
    refine tr_r hT hm [] [0, 6, 8, 2015] [(0, .d (.sl a0.length 0 (a0.flatMap (eS eI).b))), (6, .d (.rs 1007 0 ((s2.1.set s2.2.toNat v8).length))), (8, .d (iv (IntKind.i64.wrap (s2.2 + 1)))), (2015, .r (.arr 1 ((s2.1.set s2.2.toNat v8).flatMap (eS eI).o) []))] .nil (by kernel_rfl) (by kernel_rfl) (l_n ?_)
    exact trl_start (ks := [0, 6, 8, 2015]) (by kernel_rfl) (ih4 (s2.1.set s2.2.toNat v8, IntKind.i64.wrap (s2.2 + 1)) hM)
  · have hM := ite_false' hM h6
    refine tr_condFe (e := decide (s2.2 < (a0.length : Int))) h6 (by kernel_rfl) ?_
    refine tr_exit (q_x (l_x (b_h (q_n ?_))))
    refine tr_sr hT hm [] [4, 2015] [(4, .d (.rs 1007 0 s2.1.length)), (2015, .r (.arr 1 (s2.1.flatMap (eS eI).o) []))] .nil (by kernel_rfl) (by kernel_rfl) ?_
    refine tr_ret (rg_r ?_)
    obtain rfl := Option.some.inj hM
    exact retg (names := []) (.cons (lenO_flat (eS_ok eI_ok) s2.1) .nil) (by kernel_rfl)

theorem ok23 : CallOk Try.prog 23 := callOk_of Try.func23 (by kernel_rfl) (by kernel_rfl)
theorem laws_toCategory_c (a0 : XCategory) (r : XCategory) (hM : M.laws_toCategory a0 = some r) :
    FnC Try.prog 23 [] [.agg (eXCategory.b a0)] [] (.agg (eXCategory.o r)) := by
  refine fnc_startG (N := 24) (np := 500) hT Try.func23 rfl rfl (by kernel_rfl) ?_
  unfold M.laws_toCategory at hM
  refine tr_start (ks := [0]) (st' := [(0, .d (.agg (eXCategory.b a0)))]) (by kernel_rfl) ?_
  refine tr_sr hT hm [] [2, 4, 2003, 2005] [(2, .d (.rp 1001 0)), (4, .d (.rp 1002 0)), bxB 2003 (eXCategory.b a0), (2005, .r (.arr 1 [iv 0, nilv, nilv, nilv, nilv] []))] .nil (by kernel_rfl) (by kernel_rfl) ?_
  refine tr_sr hT hm [] [2, 4, 6, 2003, 2005, 2007] [(2, .d (.rp 1001 0)), (4, .d (.rp 1002 0)), (6, .d (.rp 1003 0)), bxB 2003 (eXCategory.b a0), (2005, .r (.arr 1 [iv 0, nilv, nilv, nilv, nilv] [])), (2007, .r (.arr 1 [iv 0, nilv, nilv, nilv, nilv] []))] .nil (by kernel_rfl) (by kernel_rfl) ?_
  refine tr_sr hT hm [] [2, 4, 6, 2003, 2005, 2007] [(2, .d (.rp 1001 0)), (4, .d (.rp 1002 0)), (6, .d (.rp 1003 0)), bxB 2003 (eXCategory.b a0), (2005, .r (.arr 1 [iv 0, nilv, nilv, nilv, nilv] [])), (2007, .r (.arr 1 [iv a0.Objects, nilv, nilv, nilv, nilv] []))] (.cons (Nat.le_of_ble_eq_true (n := 1) (m := 5) rfl) .nil) (by kernel_rfl) (by kernel_rfl) ?_
  obtain ⟨v1, hv1, hM⟩ := bind_some' hM
  refine tr_sr hT hm [(2, .call [] [] [.sl a0.From.length 0 (a0.From.flatMap eI.b)] [] (.fr 1 v1.length (v1.flatMap eI.o)))] [2, 4, 6, 2003, 2005, 2007, 22001] [(2, .d (.rp 1001 0)), (4, .d (.rp 1002 0)), (6, .d (.rp 1003 0)), bxB 2003 (eXCategory.b a0), (2005, .r (.arr 1 [iv 0, nilv, nilv, nilv, nilv] [])), (2007, .r (.arr 1 [iv a0.Objects, .rs 11000 0 v1.length, nilv, nilv, nilv] [11000])), (22001, .r (.arr 1 (v1.flatMap eI.o) []))] (cc0 ok41 (laws_toInt64S_c a0.From _ hv1) (by kernel_rfl) (.cons (Nat.le_of_ble_eq_true (n := 2) (m := 5) rfl) .nil)) (by kernel_rfl) (by kernel_rfl) ?_
  obtain ⟨v2, hv2, hM⟩ := bind_some' hM
  refine tr_sr hT hm [(2, .call [] [] [.sl a0.To.length 0 (a0.To.flatMap eI.b)] [] (.fr 1 v2.length (v2.flatMap eI.o)))] [2, 4, 6, 2003, 2005, 2007, 22001, 30001] [(2, .d (.rp 1001 0)), (4, .d (.rp 1002 0)), (6, .d (.rp 1003 0)), bxB 2003 (eXCategory.b a0), (2005, .r (.arr 1 [iv 0, nilv, nilv, nilv, nilv] [])), (2007, .r (.arr 1 [iv a0.Objects, .rs 11000 0 v1.length, .rs 15000 0 v2.length, nilv, nilv] [11000, 15000])), (22001, .r (.arr 1 (v1.flatMap eI.o) [])), (30001, .r (.arr 1 (v2.flatMap eI.o) []))] (cc0 ok41 (laws_toInt64S_c a0.To _ hv2) (by kernel_rfl) (.cons (Nat.le_of_ble_eq_true (n := 3) (m := 5) rfl) .nil)) (by kernel_rfl) (by kernel_rfl) ?_
  obtain ⟨v3, hv3, hM⟩ := bind_some' hM
  refine tr_sr hT hm [(2, .call [] [] [.sl a0.Identity.length 0 (a0.Identity.flatMap eI.b)] [] (.fr 1 v3.length (v3.flatMap eI.o)))] [2, 4, 6, 2003, 2005, 2007, 22001, 30001, 38001] [(2, .d (.rp 1001 0)), (4, .d (.rp 1002 0)), (6, .d (.rp 1003 0)), bxB 2003 (eXCategory.b a0), (2005, .r (.arr 1 [iv 0, nilv, nilv, nilv, nilv] [])), (2007, .r (.arr 1 [iv a0.Objects, .rs 11000 0 v1.length, .rs 15000 0 v2.length, .rs 19000 0 v3.length, nilv] [11000, 15000, 19000])), (22001, .r (.arr 1 (v1.flatMap eI.o) [])), (30001, .r (.arr 1 (v2.flatMap eI.o) [])), (38001, .r (.arr 1 (v3.flatMap eI.o) []))] (cc0 ok41 (laws_toInt64S_c a0.Identity _ hv3) (by kernel_rfl) (.cons (Nat.le_of_ble_eq_true (n := 4) (m := 5) rfl) .nil)) (by kernel_rfl) (by kernel_rfl) ?_
  obtain ⟨v4, hv4, hM⟩ := bind_some' hM
  refine tr_sr hT hm [(2, .call [] [] [.sl a0.Composites.length 0 (a0.Composites.flatMap (eS eI).b)] [] (.fr 1 v4.length (v4.flatMap (eS eI).o)))] [4, 6, 2005, 2007, 22001, 30001, 38001, 46001] [(4, .d (.rp 1002 0)), (6, .d (.rp 1003 0)), (2005, .r (.arr 1 [iv 0, nilv, nilv, nilv, nilv] [])), (2007, .r (.arr 1 [iv a0.Objects, .rs 11000 0 v1.length, .rs 15000 0 v2.length, .rs 19000 0 v3.length, .rs 23000 0 v4.length] [11000, 15000, 19000, 23000])), (22001, .r (.arr 1 (v1.flatMap eI.o) [])), (30001, .r (.arr 1 (v2.flatMap eI.o) [])), (38001, .r (.arr 1 (v3.flatMap eI.o) [])), (46001, .r (.arr 1 (v4.flatMap (eS eI).o) []))] (cc0 ok53 (laws_toInt64SS_c a0.Composites _ hv4) (by kernel_rfl) (.cons (Nat.le_of_ble_eq_true (n := 5) (m := 5) rfl) .nil)) (by kernel_rfl) (by kernel_rfl) ?_
  refine tr_sr hT hm [] [4, 2005, 22001, 30001, 38001, 46001] [(4, .d (.rp 1002 0)), (2005, .r (.arr 1 [iv a0.Objects, .rs 11000 0 v1.length, .rs 15000 0 v2.length, .rs 19000 0 v3.length, .rs 23000 0 v4.length] [11000, 15000, 19000, 23000])), (22001, .r (.arr 1 (v1.flatMap eI.o) [])), (30001, .r (.arr 1 (v2.flatMap eI.o) [])), (38001, .r (.arr 1 (v3.flatMap eI.o) [])), (46001, .r (.arr 1 (v4.flatMap (eS eI).o) []))] (.cons (Nat.le_of_ble_eq_true (n := 5) (m := 5) rfl) .nil) (by kernel_rfl) (by kernel_rfl) ?_
  refine tr_ret (rg_r ?_)
  obtain rfl := Option.some.inj hM
  exact retg (names := []) (.cons (lenO_flat eI_ok v1) (.cons (lenO_flat eI_ok v2) (.cons (lenO_flat eI_ok v3) (.cons (lenO_flat (eS_ok eI_ok) v4) .nil)))) (by kernel_rfl)

theorem ok9 : CallOk Try.prog 9 := callOk_of Try.func9 (by kernel_rfl) (by kernel_rfl)
theorem laws_toFunctor_c (a0 : XFunctor) (r : XFunctor) (hM : M.laws_toFunctor a0 = some r) :
    FnC Try.prog 9 [] [.agg (eXFunctor.b a0)] [] (.agg (eXFunctor.o r)) := by
  refine fnc_startG (N := 21) (np := 500) hT Try.func9 rfl rfl (by kernel_rfl) ?_
  unfold M.laws_toFunctor at hM
  refine tr_start (ks := [0]) (st' := [(0, .d (.agg (eXFunctor.b a0)))]) (by kernel_rfl) ?_
  refine tr_sr hT hm [] [2, 4, 2003, 2005] [(2, .d (.rp 1001 0)), (4, .d (.rp 1002 0)), bxB 2003 (eXFunctor.b a0), (2005, .r (.arr 1 [iv 0, nilv, nilv, nilv, nilv, iv 0, nilv, nilv, nilv, nilv, nilv, nilv] []))] .nil (by kernel_rfl) (by kernel_rfl) ?_
  refine tr_sr hT hm [] [2, 4, 6, 2003, 2005, 2007] [(2, .d (.rp 1001 0)), (4, .d (.rp 1002 0)), (6, .d (.rp 1003 0)), bxB 2003 (eXFunctor.b a0), (2005, .r (.arr 1 [iv 0, nilv, nilv, nilv, nilv, iv 0, nilv, nilv, nilv, nilv, nilv, nilv] [])), (2007, .r (.arr 1 [iv 0, nilv, nilv, nilv, nilv, iv 0, nilv, nilv, nilv, nilv, nilv, nilv] []))] .nil (by kernel_rfl) (by kernel_rfl) ?_
  obtain ⟨v1, hv1, hM⟩ := bind_some' hM
  refine tr_sr hT hm [(2, .call [] [] [.agg (eXCategory.b a0.Source)] [] (.agg (eXCategory.o v1)))] [2, 4, 6, 2003, 2005, 2007, 16003, 16005, 16007, 16009] ([(2, .d (.rp 1001 0)), (4, .d (.rp 1002 0)), (6, .d (.rp 1003 0)), bxB 2003 (eXFunctor.b a0), (2005, .r (.arr 1 [iv 0, nilv, nilv, nilv, nilv, iv 0, nilv, nilv, nilv, nilv, nilv, nilv] [])), (2007, .r (.arr 1 [iv v1.Objects, .rs 8001 0 v1.From.length, .rs 8002 0 v1.To.length, .rs 8003 0 v1.Identity.length, .rs 8004 0 v1.Composites.length, iv 0, nilv, nilv, nilv, nilv, nilv, nilv] [8001, 8002, 8003, 8004]))] ++ rsS 8000 (eXCategory.o v1)) (cc0 ok23 (laws_toCategory_c a0.Source _ hv1) (by kernel_rfl) (.cons (Nat.le_of_ble_eq_true (n := 5) (m := 12) rfl) .nil)) (by kernel_rfl) (by kernel_rfl) ?_
  obtain ⟨v2, hv2, hM⟩ := bind_some' hM
  refine tr_sr hT hm [(2, .call [] [] [.agg (eXCategory.b a0.Target)] [] (.agg (eXCategory.o v2)))] [2, 4, 6, 2003, 2005, 2007, 16003, 16005, 16007, 16009, 24003, 24005, 24007, 24009] ([(2, .d (.rp 1001 0)), (4, .d (.rp 1002 0)), (6, .d (.rp 1003 0)), bxB 2003 (eXFunctor.b a0), (2005, .r (.arr 1 [iv 0, nilv, nilv, nilv, nilv, iv 0, nilv, nilv, nilv, nilv, nilv, nilv] [])), (2007, .r (.arr 1 [iv v1.Objects, .rs 8001 0 v1.From.length, .rs 8002 0 v1.To.length, .rs 8003 0 v1.Identity.length, .rs 8004 0 v1.Composites.length, iv v2.Objects, .rs 12001 0 v2.From.length, .rs 12002 0 v2.To.length, .rs 12003 0 v2.Identity.length, .rs 12004 0 v2.Composites.length, nilv, nilv] [8001, 8002, 8003, 8004, 12001, 12002, 12003, 12004]))] ++ rsS 8000 (eXCategory.o v1) ++ rsS 12000 (eXCategory.o v2)) (cc0 ok23 (laws_toCategory_c a0.Target _ hv2) (by kernel_rfl) (.cons (Nat.le_of_ble_eq_true (n := 10) (m := 12) rfl) .nil)) (by kernel_rfl) (by kernel_rfl) ?_
  obtain ⟨v3, hv3, hM⟩ := bind_some' hM
  refine tr_sr hT hm [(2, .call [] [] [.sl a0.Objects.length 0 (a0.Objects.flatMap eI.b)] [] (.fr 1 v3.length (v3.flatMap eI.o)))] [2, 4, 6, 2003, 2005, 2007, 16003, 16005, 16007, 16009, 24003, 24005, 24007, 24009, 32001] ([(2, .d (.rp 1001 0)), (4, .d (.rp 1002 0)), (6, .d (.rp 1003 0)), bxB 2003 (eXFunctor.b a0), (2005, .r (.arr 1 [iv 0, nilv, nilv, nilv, nilv, iv 0, nilv, nilv, nilv, nilv, nilv, nilv] [])), (2007, .r (.arr 1 [iv v1.Objects, .rs 8001 0 v1.From.length, .rs 8002 0 v1.To.length, .rs 8003 0 v1.Identity.length, .rs 8004 0 v1.Composites.length, iv v2.Objects, .rs 12001 0 v2.From.length, .rs 12002 0 v2.To.length, .rs 12003 0 v2.Identity.length, .rs 12004 0 v2.Composites.length, .rs 16000 0 v3.length, nilv] [8001, 8002, 8003, 8004, 12001, 12002, 12003, 12004, 16000]))] ++ rsS 8000 (eXCategory.o v1) ++ rsS 12000 (eXCategory.o v2) ++ [(32001, .r (.arr 1 (v3.flatMap eI.o) []))]) (cc0 ok41 (laws_toInt64S_c a0.Objects _ hv3) (by kernel_rfl) (.cons (Nat.le_of_ble_eq_true (n := 11) (m := 12) rfl) .nil)) (by kernel_rfl) (by kernel_rfl) ?_
  obtain ⟨v4, hv4, hM⟩ := bind_some' hM
  refine tr_sr hT hm [(2, .call [] [] [.sl a0.Arrows.length 0 (a0.Arrows.flatMap eI.b)] [] (.fr 1 v4.length (v4.flatMap eI.o)))] [4, 6, 2005, 2007, 16003, 16005, 16007, 16009, 24003, 24005, 24007, 24009, 32001, 40001] ([(4, .d (.rp 1002 0)), (6, .d (.rp 1003 0)), (2005, .r (.arr 1 [iv 0, nilv, nilv, nilv, nilv, iv 0, nilv, nilv, nilv, nilv, nilv, nilv] [])), (2007, .r (.arr 1 [iv v1.Objects, .rs 8001 0 v1.From.length, .rs 8002 0 v1.To.length, .rs 8003 0 v1.Identity.length, .rs 8004 0 v1.Composites.length, iv v2.Objects, .rs 12001 0 v2.From.length, .rs 12002 0 v2.To.length, .rs 12003 0 v2.Identity.length, .rs 12004 0 v2.Composites.length, .rs 16000 0 v3.length, .rs 20000 0 v4.length] [8001, 8002, 8003, 8004, 12001, 12002, 12003, 12004, 16000, 20000]))] ++ rsS 8000 (eXCategory.o v1) ++ rsS 12000 (eXCategory.o v2) ++ [(32001, .r (.arr 1 (v3.flatMap eI.o) [])), (40001, .r (.arr 1 (v4.flatMap eI.o) []))]) (cc0 ok41 (laws_toInt64S_c a0.Arrows _ hv4) (by kernel_rfl) (.cons (Nat.le_of_ble_eq_true (n := 12) (m := 12) rfl) .nil)) (by kernel_rfl) (by kernel_rfl) ?_
  refine tr_sr hT hm [] [4, 2005, 16003, 16005, 16007, 16009, 24003, 24005, 24007, 24009, 32001, 40001] ([(4, .d (.rp 1002 0)), (2005, .r (.arr 1 [iv v1.Objects, .rs 8001 0 v1.From.length, .rs 8002 0 v1.To.length, .rs 8003 0 v1.Identity.length, .rs 8004 0 v1.Composites.length, iv v2.Objects, .rs 12001 0 v2.From.length, .rs 12002 0 v2.To.length, .rs 12003 0 v2.Identity.length, .rs 12004 0 v2.Composites.length, .rs 16000 0 v3.length, .rs 20000 0 v4.length] [8001, 8002, 8003, 8004, 12001, 12002, 12003, 12004, 16000, 20000]))] ++ rsS 8000 (eXCategory.o v1) ++ rsS 12000 (eXCategory.o v2) ++ [(32001, .r (.arr 1 (v3.flatMap eI.o) [])), (40001, .r (.arr 1 (v4.flatMap eI.o) []))]) (.cons (Nat.le_of_ble_eq_true (n := 12) (m := 12) rfl) .nil) (by kernel_rfl) (by kernel_rfl) ?_
  refine tr_ret (rg_r ?_)
  obtain rfl := Option.some.inj hM
  exact retg (names := []) (.cons (lenO_flat eI_ok v1.From) (.cons (lenO_flat eI_ok v1.To) (.cons (lenO_flat eI_ok v1.Identity) (.cons (lenO_flat (eS_ok eI_ok) v1.Composites) (.cons (lenO_flat eI_ok v2.From) (.cons (lenO_flat eI_ok v2.To) (.cons (lenO_flat eI_ok v2.Identity) (.cons (lenO_flat (eS_ok eI_ok) v2.Composites) (.cons (lenO_flat eI_ok v3) (.cons (lenO_flat eI_ok v4) .nil)))))))))) (by kernel_rfl)

theorem ok137 : CallOk Try.prog 137 := callOk_of Try.func137 (by kernel_rfl) (by kernel_rfl)
theorem impl_Category_arrows_c (a0 : XCategory) (r : Int) (hM : M.impl_Category_arrows a0 = some r) :
    FnC Try.prog 137 [] [.pt (eXCategory.b a0) 0] [] (iv r) := by
  refine fnc_startG (N := 8) (np := 500) hT Try.func137 rfl rfl (by kernel_rfl) ?_
  unfold M.impl_Category_arrows at hM
  refine tr_start (ks := [0]) (st' := [(0, .d (.pt (eXCategory.b a0) 0))]) (by kernel_rfl) ?_
  refine tr_sr hT hm [] [0] [(0, .d (.pt (eXCategory.b a0) 0))] .nil (by kernel_rfl) (by kernel_rfl) ?_
  refine tr_sr hT hm [] [4] [(4, .d (iv (a0.From.length : Int)))] .nil (by kernel_rfl) (by kernel_rfl) ?_
  refine tr_ret (rg_r ?_)
  obtain rfl := Option.some.inj hM
  exact retg (names := []) .nil (by kernel_rfl)

theorem ok149 : CallOk Try.prog 149 := callOk_of Try.func149 (by kernel_rfl) (by kernel_rfl)
theorem impl_inRange_c (a0 : Int) (a1 : Int) (a2 : Int) (r : Bool) (hM : M.impl_inRange a0 a1 a2 = some r) :
    FnC Try.prog 149 [] [iv a0, iv a1, iv a2] [] (bv r) := by
  refine fnc_startG (N := 15) (np := 500) hT Try.func149 rfl rfl (by kernel_rfl) ?_
  unfold M.impl_inRange at hM
  refine tr_start (ks := [0, 2, 4]) (st' := [(0, .d (iv a0)), (2, .d (iv a1)), (4, .d (iv a2))]) (by kernel_rfl) ?_
  refine tr_sr hT hm [] [0, 2, 4] [(0, .d (iv a0)), (2, .d (iv a1)), (4, .d (iv a2))] .nil (by kernel_rfl) (by kernel_rfl) ?_
  rcases Bool.eq_false_or_eq_true (decide (a0 ≥ a1)) with h1 | h1
  · have hM := ite_true' hM h1
    refine tr_sr hT hm [(3, .val (bv true))] [12] [(12, .d (bv (decide (a0 ≤ a2))))] (.cons (congrArg (fun b => bv b) h1) .nil) (by kernel_rfl) (by kernel_rfl) ?_
    refine tr_ret (rg_r ?_)
    obtain rfl := Option.some.inj hM
    exact retg (names := []) .nil (by kernel_rfl)
  · have hM := ite_false' hM h1
    refine tr_sr hT hm [(3, .val (bv false))] [12] [(12, .d (bv false))] (.cons (congrArg (fun b => bv b) h1) .nil) (by kernel_rfl) (by kernel_rfl) ?_
    refine tr_ret (rg_r ?_)
    obtain rfl := Option.some.inj hM
    exact retg (names := []) .nil (by kernel_rfl)

theorem ok138 : CallOk Try.prog 138 := callOk_of Try.func138 (by kernel_rfl) (by kernel_rfl)
theorem impl_within_c (a0 : List Int) (a1 : Int) (r : Bool) (hM : M.impl_within a0 a1 = some r) :
    FnC Try.prog 138 [] [.sl a0.length 0 (a0.flatMap eI.b), iv a1] [] (bv r) := by
  refine fnc_startG (N := 19) (np := 500) hT Try.func138 rfl rfl (by kernel_rfl) ?_
  unfold M.impl_within at hM
  refine tr_start (ks := [0, 2]) (st' := [(0, .d (.sl a0.length 0 (a0.flatMap eI.b))), (2, .d (iv a1))]) (by kernel_rfl) ?_
  refine tr_sr hT hm [] [0, 2] [(0, .d (.sl a0.length 0 (a0.flatMap eI.b))), (2, .d (iv a1))] .nil (by kernel_rfl) (by kernel_rfl) ?_
  refine tr_seq ?_
  refine tr_sr hT hm [] [2, 14, 16, 18] [(2, .d (iv a1)), (14, .d (.sl a0.length 0 (a0.flatMap eI.b))), (16, .d (iv (a0.length : Int))), (18, .d (iv 0))] .nil (by kernel_rfl) (by kernel_rfl) ?_
  refine tr_block ?_
  refine tr_iterS (fun (s1 : Int) => [(2, .d (iv a1)), (14, .d (.sl a0.length 0 (a0.flatMap eI.b))), (16, .d (iv (a0.length : Int))), (18, .d (iv s1))]) 0 [2, 14, 16, 18] (by kernel_rfl) hM ?_
  intro n4 next2 ih3 s1 hM
  refine tr_sr hT hm [] [2, 14, 16, 18, 20] [(2, .d (iv a1)), (14, .d (.sl a0.length 0 (a0.flatMap eI.b))), (16, .d (iv (a0.length : Int))), (18, .d (iv s1)), (20, .d (bv (decide (s1 < (a0.length : Int)))))] .nil (by kernel_rfl) (by kernel_rfl) ?_
  refine tr_seq ?_
  rcases Bool.eq_false_or_eq_true (decide (s1 < (a0.length : Int))) with h5 | h5
  · have hM := ite_true' hM h5
    refine tr_condTe (e := decide (s1 < (a0.length : Int))) h5 (by kernel_rfl) ?_
    refine tr_skip (q_n ?_)
    refine tr_seq ?_
    refine tr_block ?_
    obtain ⟨y6, hy6, hM⟩ := bind_some' hM
    have hy6' := idx_some hy6
    refine tr_sr hT hm [(1, .val (iv y6))] [2, 12, 14, 16, 18] [(2, .d (iv a1)), (12, .d (iv y6)), (14, .d (.sl a0.length 0 (a0.flatMap eI.b))), (16, .d (iv (a0.length : Int))), (18, .d (iv s1))] (.cons hy6'.1 (.cons hy6'.2.1 (.cons (at_b0 eI_ok hy6'.2.2 (d := iv y6) (by kernel_rfl)) .nil))) (by kernel_rfl) (by kernel_rfl) ?_
    obtain ⟨v7, hv7, hM⟩ := bind_some' hM
    refine tr_sr hT hm [(3, .call [] [] [iv y6, iv 0, iv (IntKind.i64.wrap (a1 - 1))] [] (bv v7))] [2, 14, 16, 18, 34] [(2, .d (iv a1)), (14, .d (.sl a0.length 0 (a0.flatMap eI.b))), (16, .d (iv (a0.length : Int))), (18, .d (iv s1)), (34, .d (bv (!v7)))] (cc0 ok149 (impl_inRange_c y6 0 (IntKind.i64.wrap (a1 - 1)) _ hv7) (by kernel_rfl) .nil) (by kernel_rfl) (by kernel_rfl) ?_
    rcases Bool.eq_false_or_eq_true v7 with h8 | h8
    · have hM := ite_true' hM h8
      refine tr_condFe (e := !v7) (congrArg not h8) (by kernel_rfl) ?_
      refine tr_skip (b_n (q_n ?_))
      refine tr_r hT hm [] [2, 14, 16, 18] [(2, .d (iv a1)), (14, .d (.sl a0.length 0 (a0.flatMap eI.b))), (16, .d (iv (a0.length : Int))), (18, .d (iv (IntKind.i64.wrap (s1 + 1))))] .nil (by kernel_rfl) (by kernel_rfl) (l_n ?_)
      exact trl_start (ks := [2, 14, 16, 18]) (by kernel_rfl) (ih3 (IntKind.i64.wrap (s1 + 1)) hM)
    · have hM := ite_false' hM h8
      refine tr_condTe (e := !v7) (congrArg not h8) (by kernel_rfl) ?_
      refine tr_sr hT hm [] [8] [(8, .d (bv false))] .nil (by kernel_rfl) (by kernel_rfl) ?_
      refine tr_ret (b_r (q_r (l_r (b_r (q_r (rg_r ?_))))))
      obtain rfl := Option.some.inj hM
      exact retg (names := []) .nil (by kernel_rfl)
  · have hM := ite_false' hM h5
    refine tr_condFe (e := decide (s1 < (a0.length : Int))) h5 (by kernel_rfl) ?_
    refine tr_exit (q_x (l_x (b_h (q_n ?_))))
    refine tr_sr hT hm [] [8] [(8, .d (bv true))] .nil (by kernel_rfl) (by kernel_rfl) ?_
    refine tr_ret (rg_r ?_)
    obtain rfl := Option.some.inj hM
    exact retg (names := []) .nil (by kernel_rfl)

theorem ok153 : CallOk Try.prog 153 := callOk_of Try.func153 (by kernel_rfl) (by kernel_rfl)
theorem impl_Category_ends_c (a0 : XCategory) (a1 : Int) (r : Xends) (hM : M.impl_Category_ends a0 a1 = some r) :
    FnC Try.prog 153 [] [.pt (eXCategory.b a0) 0, iv a1] [] (.agg (eXends.o r)) := by
  refine fnc_startG (N := 20) (np := 500) hT Try.func153 rfl rfl (by kernel_rfl) ?_
  unfold M.impl_Category_ends at hM
  refine tr_start (ks := [0, 2]) (st' := [(0, .d (.pt (eXCategory.b a0) 0)), (2, .d (iv a1))]) (by kernel_rfl) ?_
  refine tr_sr hT hm [] [0, 2, 8, 2009] [(0, .d (.pt (eXCategory.b a0) 0)), (2, .d (iv a1)), (8, .d (.rp 1004 0)), (2009, .r (.arr 1 [iv 0, iv 0] []))] .nil (by kernel_rfl) (by kernel_rfl) ?_
  obtain ⟨y1, hy1, hM⟩ := bind_some' hM
  have hy1' := idx_some hy1
  obtain ⟨y2, hy2, hM⟩ := bind_some' hM
  have hy2' := idx_some hy2
  refine tr_sr hT hm [(6, .val (iv y1)), (13, .val (iv y2))] [8, 2009] [(8, .d (.rp 1004 0)), (2009, .r (.arr 1 [iv y1, iv y2] []))] (.cons hy1'.1 (.cons hy1'.2.1 (.cons (at_b0 eI_ok hy1'.2.2 (d := iv y1) (by kernel_rfl)) (.cons hy2'.1 (.cons hy2'.2.1 (.cons (at_b0 eI_ok hy2'.2.2 (d := iv y2) (by kernel_rfl)) (.cons (Nat.le_of_ble_eq_true (n := 2) (m := 2) rfl) .nil))))))) (by kernel_rfl) (by kernel_rfl) ?_
  refine tr_ret (rg_r ?_)
  obtain rfl := Option.some.inj hM
  exact retg (names := []) .nil (by kernel_rfl)

end Go.Proofs.Ytknmijgiefkijaa.WvB
