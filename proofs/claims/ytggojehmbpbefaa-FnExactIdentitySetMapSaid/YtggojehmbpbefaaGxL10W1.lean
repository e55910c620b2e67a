/- Walks. Printed by wip/gen. -/
import Derived.Test.YtggojehmbpbefaaGxL10W0
namespace Go.Proofs.Ytggojehmbpbefaa.L10
open Go.Gx

theorem ok185 : CallOk Try.prog 185 := callOk_of Try.func185 (by kernel_rfl) (by kernel_rfl)
theorem impl_SetFunctor_fault_c (a0 : XSetFunctor) (r : Int × Int × Int × Int) (hM : M.impl_SetFunctor_fault a0 = some r) :
    FnC Try.prog 185 [] [.pt (eXSetFunctor.b a0) 0] [] (.tup [iv r.1, iv r.2.1, iv r.2.2.1, iv r.2.2.2]) := by
  refine fnc_startG (N := 109) (np := 500) hT Try.func185 rfl rfl (by kernel_rfl) ?_
  unfold M.impl_SetFunctor_fault at hM
  refine tr_start (ks := [0]) (st' := [(0, .d (.pt (eXSetFunctor.b a0) 0))]) (by kernel_rfl) ?_
  refine tr_sr hT hm [] [0] [(0, .d (.pt (eXSetFunctor.b a0) 0))] .nil (by kernel_rfl) (by kernel_rfl) ?_
  refine tr_sr hT hm [] [0, 12] [(0, .d (.pt (eXSetFunctor.b a0) 0)), (12, .d (.pt (eXSetFunctor.b a0) 0))] .nil (by kernel_rfl) (by kernel_rfl) ?_
  refine tr_seq ?_
  refine tr_sr hT hm [] [0, 12, 46, 48, 50] [(0, .d (.pt (eXSetFunctor.b a0) 0)), (12, .d (.pt (eXSetFunctor.b a0) 0)), (46, .d (.sl a0.Shape.Identity.length 0 (a0.Shape.Identity.flatMap eI.b))), (48, .d (iv (a0.Shape.Identity.length : Int))), (50, .d (iv 0))] .nil (by kernel_rfl) (by kernel_rfl) ?_
  refine tr_block ?_
  refine tr_iterS (fun (s1 : Int) => [(0, .d (.pt (eXSetFunctor.b a0) 0)), (12, .d (.pt (eXSetFunctor.b a0) 0)), (46, .d (.sl a0.Shape.Identity.length 0 (a0.Shape.Identity.flatMap eI.b))), (48, .d (iv (a0.Shape.Identity.length : Int))), (50, .d (iv s1))]) 0 [0, 12, 46, 48, 50] (by kernel_rfl) hM ?_
  intro n4 next2 ih3 s1 hM
  refine tr_sr hT hm [] [0, 12, 46, 48, 50, 52] [(0, .d (.pt (eXSetFunctor.b a0) 0)), (12, .d (.pt (eXSetFunctor.b a0) 0)), (46, .d (.sl a0.Shape.Identity.length 0 (a0.Shape.Identity.flatMap eI.b))), (48, .d (iv (a0.Shape.Identity.length : Int))), (50, .d (iv s1)), (52, .d (bv (decide (s1 < (a0.Shape.Identity.length : Int)))))] .nil (by kernel_rfl) (by kernel_rfl) ?_
  refine tr_seq ?_
  rcases Bool.eq_false_or_eq_true (decide (s1 < (a0.Shape.Identity.length : Int))) with h5 | h5
  · have hM := ite_true' hM h5
    refine tr_condTe (e := decide (s1 < (a0.Shape.Identity.length : Int))) h5 (by kernel_rfl) ?_
    refine tr_skip (q_n ?_)
    refine tr_seq ?_
    refine tr_block ?_
    obtain ⟨y6, hy6, hM⟩ := bind_some' hM
    have hy6' := idx_some hy6
    refine tr_sr hT hm [(2, .val (iv y6))] [0, 12, 14, 16, 46, 48, 50] [(0, .d (.pt (eXSetFunctor.b a0) 0)), (12, .d (.pt (eXSetFunctor.b a0) 0)), (14, .d (iv s1)), (16, .d (iv y6)), (46, .d (.sl a0.Shape.Identity.length 0 (a0.Shape.Identity.flatMap eI.b))), (48, .d (iv (a0.Shape.Identity.length : Int))), (50, .d (iv s1))] (.cons hy6'.1 (.cons hy6'.2.1 (.cons (at_b0 eI_ok hy6'.2.2 (d := iv y6) (by kernel_rfl)) .nil))) (by kernel_rfl) (by kernel_rfl) ?_
    obtain ⟨y7, hy7, hM⟩ := bind_some' hM
    have hy7' := idx_some hy7
    refine tr_sr hT hm [(6, .val (.sl y7.length 0 (y7.flatMap eI.b)))] [0, 12, 14, 46, 48, 50, 72, 74, 76] [(0, .d (.pt (eXSetFunctor.b a0) 0)), (12, .d (.pt (eXSetFunctor.b a0) 0)), (14, .d (iv s1)), (46, .d (.sl a0.Shape.Identity.length 0 (a0.Shape.Identity.flatMap eI.b))), (48, .d (iv (a0.Shape.Identity.length : Int))), (50, .d (iv s1)), (72, .d (.sl y7.length 0 (y7.flatMap eI.b))), (74, .d (iv (y7.length : Int))), (76, .d (iv 0))] (.cons hy7'.1 (.cons hy7'.2.1 (.cons (at_b0 (eS_ok eI_ok) hy7'.2.2 (d := .sl y7.length 0 (y7.flatMap eI.b)) (by kernel_rfl)) .nil))) (by kernel_rfl) (by kernel_rfl) ?_
    refine tr_block ?_
    refine tr_iterS (fun (s8 : Int) => [(0, .d (.pt (eXSetFunctor.b a0) 0)), (12, .d (.pt (eXSetFunctor.b a0) 0)), (14, .d (iv s1)), (46, .d (.sl a0.Shape.Identity.length 0 (a0.Shape.Identity.flatMap eI.b))), (48, .d (iv (a0.Shape.Identity.length : Int))), (50, .d (iv s1)), (72, .d (.sl y7.length 0 (y7.flatMap eI.b))), (74, .d (iv (y7.length : Int))), (76, .d (iv s8))]) 0 [0, 12, 14, 46, 48, 50, 72, 74, 76] (by kernel_rfl) hM ?_
    intro n11 next9 ih10 s8 hM
    refine tr_sr hT hm [] [0, 12, 14, 46, 48, 50, 72, 74, 76, 78] [(0, .d (.pt (eXSetFunctor.b a0) 0)), (12, .d (.pt (eXSetFunctor.b a0) 0)), (14, .d (iv s1)), (46, .d (.sl a0.Shape.Identity.length 0 (a0.Shape.Identity.flatMap eI.b))), (48, .d (iv (a0.Shape.Identity.length : Int))), (50, .d (iv s1)), (72, .d (.sl y7.length 0 (y7.flatMap eI.b))), (74, .d (iv (y7.length : Int))), (76, .d (iv s8)), (78, .d (bv (decide (s8 < (y7.length : Int)))))] .nil (by kernel_rfl) (by kernel_rfl) ?_
    refine tr_seq ?_
    rcases Bool.eq_false_or_eq_true (decide (s8 < (y7.length : Int))) with h12 | h12
    · have hM := ite_true' hM h12
      refine tr_condTe (e := decide (s8 < (y7.length : Int))) h12 (by kernel_rfl) ?_
      refine tr_skip (q_n ?_)
      refine tr_seq ?_
      refine tr_block ?_
      obtain ⟨y13, hy13, hM⟩ := bind_some' hM
      have hy13' := idx_some hy13
      refine tr_sr hT hm [(2, .val (iv y13))] [0, 12, 14, 18, 20, 46, 48, 50, 72, 74, 76] [(0, .d (.pt (eXSetFunctor.b a0) 0)), (12, .d (.pt (eXSetFunctor.b a0) 0)), (14, .d (iv s1)), (18, .d (iv s8)), (20, .d (iv y13)), (46, .d (.sl a0.Shape.Identity.length 0 (a0.Shape.Identity.flatMap eI.b))), (48, .d (iv (a0.Shape.Identity.length : Int))), (50, .d (iv s1)), (72, .d (.sl y7.length 0 (y7.flatMap eI.b))), (74, .d (iv (y7.length : Int))), (76, .d (iv s8))] (.cons hy13'.1 (.cons hy13'.2.1 (.cons (at_b0 eI_ok hy13'.2.2 (d := iv y13) (by kernel_rfl)) .nil))) (by kernel_rfl) (by kernel_rfl) ?_
      refine tr_sr hT hm [] [0, 12, 14, 18, 46, 48, 50, 72, 74, 76, 90] [(0, .d (.pt (eXSetFunctor.b a0) 0)), (12, .d (.pt (eXSetFunctor.b a0) 0)), (14, .d (iv s1)), (18, .d (iv s8)), (46, .d (.sl a0.Shape.Identity.length 0 (a0.Shape.Identity.flatMap eI.b))), (48, .d (iv (a0.Shape.Identity.length : Int))), (50, .d (iv s1)), (72, .d (.sl y7.length 0 (y7.flatMap eI.b))), (74, .d (iv (y7.length : Int))), (76, .d (iv s8)), (90, .d (bv (y13 != s8)))] .nil (by kernel_rfl) (by kernel_rfl) ?_
      rcases Bool.eq_false_or_eq_true (y13 != s8) with h14 | h14
      · have hM := ite_true' hM h14
        refine tr_condTe (e := y13 != s8) h14 (by kernel_rfl) ?_
        refine tr_sr hT hm [] [4, 6, 8, 10] [(4, .d (iv 1)), (6, .d (iv s1)), (8, .d (iv s8)), (10, .d (iv 0))] .nil (by kernel_rfl) (by kernel_rfl) ?_
        refine tr_ret (b_r (q_r (l_r (b_r (b_r (q_r (l_r (b_r (q_r (rg_r ?_))))))))))
        obtain rfl := Option.some.inj hM
        exact retg (names := []) .nil (by kernel_rfl)
      · have hM := ite_false' hM h14
        refine tr_condFe (e := y13 != s8) h14 (by kernel_rfl) ?_
        refine tr_skip (b_n (q_n ?_))
        refine tr_r hT hm [] [0, 12, 14, 46, 48, 50, 72, 74, 76] [(0, .d (.pt (eXSetFunctor.b a0) 0)), (12, .d (.pt (eXSetFunctor.b a0) 0)), (14, .d (iv s1)), (46, .d (.sl a0.Shape.Identity.length 0 (a0.Shape.Identity.flatMap eI.b))), (48, .d (iv (a0.Shape.Identity.length : Int))), (50, .d (iv s1)), (72, .d (.sl y7.length 0 (y7.flatMap eI.b))), (74, .d (iv (y7.length : Int))), (76, .d (iv (IntKind.i64.wrap (s8 + 1))))] .nil (by kernel_rfl) (by kernel_rfl) (l_n ?_)
        exact trl_start (ks := [0, 12, 14, 46, 48, 50, 72, 74, 76]) (by kernel_rfl) (ih10 (IntKind.i64.wrap (s8 + 1)) hM)
    · have hM := ite_false' hM h12
      refine tr_condFe (e := decide (s8 < (y7.length : Int))) h12 (by kernel_rfl) ?_
      refine tr_exit (q_x (l_x (b_h (b_n (q_n ?_)))))
      refine tr_r hT hm [] [0, 12, 46, 48, 50] [(0, .d (.pt (eXSetFunctor.b a0) 0)), (12, .d (.pt (eXSetFunctor.b a0) 0)), (46, .d (.sl a0.Shape.Identity.length 0 (a0.Shape.Identity.flatMap eI.b))), (48, .d (iv (a0.Shape.Identity.length : Int))), (50, .d (iv (IntKind.i64.wrap (s1 + 1))))] .nil (by kernel_rfl) (by kernel_rfl) (l_n ?_)
      exact trl_start (ks := [0, 12, 46, 48, 50]) (by kernel_rfl) (ih3 (IntKind.i64.wrap (s1 + 1)) hM)
  · have hM := ite_false' hM h5
    refine tr_condFe (e := decide (s1 < (a0.Shape.Identity.length : Int))) h5 (by kernel_rfl) ?_
    refine tr_exit (q_x (l_x (b_h (q_n ?_))))
    refine tr_seq ?_
    refine tr_sr hT hm [] [0, 106, 108, 110] [(0, .d (.pt (eXSetFunctor.b a0) 0)), (106, .d (.sl a0.Shape.Composites.length 0 (a0.Shape.Composites.flatMap (eS eI).b))), (108, .d (iv (a0.Shape.Composites.length : Int))), (110, .d (iv 0))] .nil (by kernel_rfl) (by kernel_rfl) ?_
    refine tr_block ?_
    refine tr_iterS (fun (s15 : Int) => [(0, .d (.pt (eXSetFunctor.b a0) 0)), (106, .d (.sl a0.Shape.Composites.length 0 (a0.Shape.Composites.flatMap (eS eI).b))), (108, .d (iv (a0.Shape.Composites.length : Int))), (110, .d (iv s15))]) 0 [0, 106, 108, 110] (by kernel_rfl) hM ?_
    intro n18 next16 ih17 s15 hM
    refine tr_sr hT hm [] [0, 106, 108, 110, 112] [(0, .d (.pt (eXSetFunctor.b a0) 0)), (106, .d (.sl a0.Shape.Composites.length 0 (a0.Shape.Composites.flatMap (eS eI).b))), (108, .d (iv (a0.Shape.Composites.length : Int))), (110, .d (iv s15)), (112, .d (bv (decide (s15 < (a0.Shape.Composites.length : Int)))))] .nil (by kernel_rfl) (by kernel_rfl) ?_
    refine tr_seq ?_
    rcases Bool.eq_false_or_eq_true (decide (s15 < (a0.Shape.Composites.length : Int))) with h19 | h19
    · have hM := ite_true' hM h19
      refine tr_condTe (e := decide (s15 < (a0.Shape.Composites.length : Int))) h19 (by kernel_rfl) ?_
      refine tr_skip (q_n ?_)
      refine tr_seq ?_
      refine tr_block ?_
      obtain ⟨y20, hy20, hM⟩ := bind_some' hM
      have hy20' := idx_some hy20
      refine tr_sr hT hm [(2, .val (.sl y20.length 0 (y20.flatMap eI.b)))] [0, 22, 24, 106, 108, 110] [(0, .d (.pt (eXSetFunctor.b a0) 0)), (22, .d (iv s15)), (24, .d (.sl y20.length 0 (y20.flatMap eI.b))), (106, .d (.sl a0.Shape.Composites.length 0 (a0.Shape.Composites.flatMap (eS eI).b))), (108, .d (iv (a0.Shape.Composites.length : Int))), (110, .d (iv s15))] (.cons hy20'.1 (.cons hy20'.2.1 (.cons (at_b0 (eS_ok eI_ok) hy20'.2.2 (d := .sl y20.length 0 (y20.flatMap eI.b)) (by kernel_rfl)) .nil))) (by kernel_rfl) (by kernel_rfl) ?_
      refine tr_sr hT hm [] [0, 22, 106, 108, 110, 120, 122, 124] [(0, .d (.pt (eXSetFunctor.b a0) 0)), (22, .d (iv s15)), (106, .d (.sl a0.Shape.Composites.length 0 (a0.Shape.Composites.flatMap (eS eI).b))), (108, .d (iv (a0.Shape.Composites.length : Int))), (110, .d (iv s15)), (120, .d (.sl y20.length 0 (y20.flatMap eI.b))), (122, .d (iv (y20.length : Int))), (124, .d (iv 0))] .nil (by kernel_rfl) (by kernel_rfl) ?_
      refine tr_block ?_
      refine tr_iterS (fun (s21 : Int) => [(0, .d (.pt (eXSetFunctor.b a0) 0)), (22, .d (iv s15)), (106, .d (.sl a0.Shape.Composites.length 0 (a0.Shape.Composites.flatMap (eS eI).b))), (108, .d (iv (a0.Shape.Composites.length : Int))), (110, .d (iv s15)), (120, .d (.sl y20.length 0 (y20.flatMap eI.b))), (122, .d (iv (y20.length : Int))), (124, .d (iv s21))]) 0 [0, 22, 106, 108, 110, 120, 122, 124] (by kernel_rfl) hM ?_
      intro n24 next22 ih23 s21 hM
      refine tr_sr hT hm [] [0, 22, 106, 108, 110, 120, 122, 124, 126] [(0, .d (.pt (eXSetFunctor.b a0) 0)), (22, .d (iv s15)), (106, .d (.sl a0.Shape.Composites.length 0 (a0.Shape.Composites.flatMap (eS eI).b))), (108, .d (iv (a0.Shape.Composites.length : Int))), (110, .d (iv s15)), (120, .d (.sl y20.length 0 (y20.flatMap eI.b))), (122, .d (iv (y20.length : Int))), (124, .d (iv s21)), (126, .d (bv (decide (s21 < (y20.length : Int)))))] .nil (by kernel_rfl) (by kernel_rfl) ?_
      refine tr_seq ?_
      rcases Bool.eq_false_or_eq_true (decide (s21 < (y20.length : Int))) with h25 | h25
      · have hM := ite_true' hM h25
        refine tr_condTe (e := decide (s21 < (y20.length : Int))) h25 (by kernel_rfl) ?_
        refine tr_skip (q_n ?_)
        refine tr_seq ?_
        refine tr_block ?_
        obtain ⟨y26, hy26, hM⟩ := bind_some' hM
        have hy26' := idx_some hy26
        refine tr_sr hT hm [(2, .val (iv y26))] [0, 22, 26, 28, 106, 108, 110, 120, 122, 124] [(0, .d (.pt (eXSetFunctor.b a0) 0)), (22, .d (iv s15)), (26, .d (iv s21)), (28, .d (iv y26)), (106, .d (.sl a0.Shape.Composites.length 0 (a0.Shape.Composites.flatMap (eS eI).b))), (108, .d (iv (a0.Shape.Composites.length : Int))), (110, .d (iv s15)), (120, .d (.sl y20.length 0 (y20.flatMap eI.b))), (122, .d (iv (y20.length : Int))), (124, .d (iv s21))] (.cons hy26'.1 (.cons hy26'.2.1 (.cons (at_b0 eI_ok hy26'.2.2 (d := iv y26) (by kernel_rfl)) .nil))) (by kernel_rfl) (by kernel_rfl) ?_
        refine tr_seq ?_
        refine tr_sr hT hm [] [0, 22, 26, 28, 106, 108, 110, 120, 122, 124, 136] [(0, .d (.pt (eXSetFunctor.b a0) 0)), (22, .d (iv s15)), (26, .d (iv s21)), (28, .d (iv y26)), (106, .d (.sl a0.Shape.Composites.length 0 (a0.Shape.Composites.flatMap (eS eI).b))), (108, .d (iv (a0.Shape.Composites.length : Int))), (110, .d (iv s15)), (120, .d (.sl y20.length 0 (y20.flatMap eI.b))), (122, .d (iv (y20.length : Int))), (124, .d (iv s21)), (136, .d (bv (decide (y26 < 0))))] .nil (by kernel_rfl) (by kernel_rfl) ?_
        rcases Bool.eq_false_or_eq_true (decide (y26 < 0)) with h27 | h27
        · have hM := ite_true' hM h27
          refine tr_condTe (e := decide (y26 < 0)) h27 (by kernel_rfl) ?_
          refine tr_exit (q_x (b_h (q_n ?_)))
          refine tr_r hT hm [] [0, 22, 106, 108, 110, 120, 122, 124] [(0, .d (.pt (eXSetFunctor.b a0) 0)), (22, .d (iv s15)), (106, .d (.sl a0.Shape.Composites.length 0 (a0.Shape.Composites.flatMap (eS eI).b))), (108, .d (iv (a0.Shape.Composites.length : Int))), (110, .d (iv s15)), (120, .d (.sl y20.length 0 (y20.flatMap eI.b))), (122, .d (iv (y20.length : Int))), (124, .d (iv (IntKind.i64.wrap (s21 + 1))))] .nil (by kernel_rfl) (by kernel_rfl) (l_n ?_)
          exact trl_start (ks := [0, 22, 106, 108, 110, 120, 122, 124]) (by kernel_rfl) (ih23 (IntKind.i64.wrap (s21 + 1)) hM)
        · have hM := ite_false' hM h27
          refine tr_condFe (e := decide (y26 < 0)) h27 (by kernel_rfl) ?_
          refine tr_skip (q_n ?_)
          obtain ⟨y28, hy28, hM⟩ := bind_some' hM
          have hy28' := idx_some hy28
          refine tr_sr hT hm [(6, .val (.sl y28.length 0 (y28.flatMap eI.b)))] [0, 22, 26, 28, 106, 108, 110, 120, 122, 124, 150, 152, 154] [(0, .d (.pt (eXSetFunctor.b a0) 0)), (22, .d (iv s15)), (26, .d (iv s21)), (28, .d (iv y26)), (106, .d (.sl a0.Shape.Composites.length 0 (a0.Shape.Composites.flatMap (eS eI).b))), (108, .d (iv (a0.Shape.Composites.length : Int))), (110, .d (iv s15)), (120, .d (.sl y20.length 0 (y20.flatMap eI.b))), (122, .d (iv (y20.length : Int))), (124, .d (iv s21)), (150, .d (.sl y28.length 0 (y28.flatMap eI.b))), (152, .d (iv (y28.length : Int))), (154, .d (iv 0))] (.cons hy28'.1 (.cons hy28'.2.1 (.cons (at_b0 (eS_ok eI_ok) hy28'.2.2 (d := .sl y28.length 0 (y28.flatMap eI.b)) (by kernel_rfl)) .nil))) (by kernel_rfl) (by kernel_rfl) ?_
          refine tr_block ?_
          refine tr_iterS (fun (s29 : Int) => [(0, .d (.pt (eXSetFunctor.b a0) 0)), (22, .d (iv s15)), (26, .d (iv s21)), (28, .d (iv y26)), (106, .d (.sl a0.Shape.Composites.length 0 (a0.Shape.Composites.flatMap (eS eI).b))), (108, .d (iv (a0.Shape.Composites.length : Int))), (110, .d (iv s15)), (120, .d (.sl y20.length 0 (y20.flatMap eI.b))), (122, .d (iv (y20.length : Int))), (124, .d (iv s21)), (150, .d (.sl y28.length 0 (y28.flatMap eI.b))), (152, .d (iv (y28.length : Int))), (154, .d (iv s29))]) 0 [0, 22, 26, 28, 106, 108, 110, 120, 122, 124, 150, 152, 154] (by kernel_rfl) hM ?_
          intro n32 next30 ih31 s29 hM
          refine tr_sr hT hm [] [0, 22, 26, 28, 106, 108, 110, 120, 122, 124, 150, 152, 154, 156] [(0, .d (.pt (eXSetFunctor.b a0) 0)), (22, .d (iv s15)), (26, .d (iv s21)), (28, .d (iv y26)), (106, .d (.sl a0.Shape.Composites.length 0 (a0.Shape.Composites.flatMap (eS eI).b))), (108, .d (iv (a0.Shape.Composites.length : Int))), (110, .d (iv s15)), (120, .d (.sl y20.length 0 (y20.flatMap eI.b))), (122, .d (iv (y20.length : Int))), (124, .d (iv s21)), (150, .d (.sl y28.length 0 (y28.flatMap eI.b))), (152, .d (iv (y28.length : Int))), (154, .d (iv s29)), (156, .d (bv (decide (s29 < (y28.length : Int)))))] .nil (by kernel_rfl) (by kernel_rfl) ?_
          refine tr_seq ?_
          rcases Bool.eq_false_or_eq_true (decide (s29 < (y28.length : Int))) with h33 | h33
          · have hM := ite_true' hM h33
            refine tr_condTe (e := decide (s29 < (y28.length : Int))) h33 (by kernel_rfl) ?_
            refine tr_skip (q_n ?_)
            refine tr_seq ?_
            refine tr_block ?_
            obtain ⟨y34, hy34, hM⟩ := bind_some' hM
            have hy34' := idx_some hy34
            refine tr_sr hT hm [(2, .val (iv y34))] [0, 22, 26, 28, 30, 32, 106, 108, 110, 120, 122, 124, 150, 152, 154] [(0, .d (.pt (eXSetFunctor.b a0) 0)), (22, .d (iv s15)), (26, .d (iv s21)), (28, .d (iv y26)), (30, .d (iv s29)), (32, .d (iv y34)), (106, .d (.sl a0.Shape.Composites.length 0 (a0.Shape.Composites.flatMap (eS eI).b))), (108, .d (iv (a0.Shape.Composites.length : Int))), (110, .d (iv s15)), (120, .d (.sl y20.length 0 (y20.flatMap eI.b))), (122, .d (iv (y20.length : Int))), (124, .d (iv s21)), (150, .d (.sl y28.length 0 (y28.flatMap eI.b))), (152, .d (iv (y28.length : Int))), (154, .d (iv s29))] (.cons hy34'.1 (.cons hy34'.2.1 (.cons (at_b0 eI_ok hy34'.2.2 (d := iv y34) (by kernel_rfl)) .nil))) (by kernel_rfl) (by kernel_rfl) ?_
            obtain ⟨y35, hy35, hM⟩ := bind_some' hM
            have hy35' := idx_some hy35
            obtain ⟨y36, hy36, hM⟩ := bind_some' hM
            have hy36' := idx_some hy36
            obtain ⟨y37, hy37, hM⟩ := bind_some' hM
            have hy37' := idx_some hy37
            obtain ⟨y38, hy38, hM⟩ := bind_some' hM
            have hy38' := idx_some hy38
            refine tr_sr hT hm [(6, .val (.sl y35.length 0 (y35.flatMap eI.b))), (9, .val (iv y36)), (16, .val (.sl y37.length 0 (y37.flatMap eI.b))), (19, .val (iv y38))] [0, 22, 26, 28, 30, 106, 108, 110, 120, 122, 124, 150, 152, 154, 204] [(0, .d (.pt (eXSetFunctor.b a0) 0)), (22, .d (iv s15)), (26, .d (iv s21)), (28, .d (iv y26)), (30, .d (iv s29)), (106, .d (.sl a0.Shape.Composites.length 0 (a0.Shape.Composites.flatMap (eS eI).b))), (108, .d (iv (a0.Shape.Composites.length : Int))), (110, .d (iv s15)), (120, .d (.sl y20.length 0 (y20.flatMap eI.b))), (122, .d (iv (y20.length : Int))), (124, .d (iv s21)), (150, .d (.sl y28.length 0 (y28.flatMap eI.b))), (152, .d (iv (y28.length : Int))), (154, .d (iv s29)), (204, .d (bv (y36 != y38)))] (.cons hy35'.1 (.cons hy35'.2.1 (.cons (at_b0 (eS_ok eI_ok) hy35'.2.2 (d := .sl y35.length 0 (y35.flatMap eI.b)) (by kernel_rfl)) (.cons hy36'.1 (.cons hy36'.2.1 (.cons (at_b0 eI_ok hy36'.2.2 (d := iv y36) (by kernel_rfl)) (.cons hy37'.1 (.cons hy37'.2.1 (.cons (at_b0 (eS_ok eI_ok) hy37'.2.2 (d := .sl y37.length 0 (y37.flatMap eI.b)) (by kernel_rfl)) (.cons hy38'.1 (.cons hy38'.2.1 (.cons (at_b0 eI_ok hy38'.2.2 (d := iv y38) (by kernel_rfl)) .nil)))))))))))) (by kernel_rfl) (by kernel_rfl) ?_
            rcases Bool.eq_false_or_eq_true (y36 != y38) with h39 | h39
            · have hM := ite_true' hM h39
              refine tr_condTe (e := y36 != y38) h39 (by kernel_rfl) ?_
              refine tr_sr hT hm [] [4, 6, 8, 10] [(4, .d (iv 2)), (6, .d (iv s15)), (8, .d (iv s21)), (10, .d (iv s29))] .nil (by kernel_rfl) (by kernel_rfl) ?_
              refine tr_ret (b_r (q_r (l_r (b_r (b_r (q_r (l_r (b_r (b_r (q_r (l_r (b_r (q_r (rg_r ?_))))))))))))))
              obtain rfl := Option.some.inj hM
              exact retg (names := []) .nil (by kernel_rfl)
            · have hM := ite_false' hM h39
              refine tr_condFe (e := y36 != y38) h39 (by kernel_rfl) ?_
              refine tr_skip (b_n (q_n ?_))
              refine tr_r hT hm [] [0, 22, 26, 28, 106, 108, 110, 120, 122, 124, 150, 152, 154] [(0, .d (.pt (eXSetFunctor.b a0) 0)), (22, .d (iv s15)), (26, .d (iv s21)), (28, .d (iv y26)), (106, .d (.sl a0.Shape.Composites.length 0 (a0.Shape.Composites.flatMap (eS eI).b))), (108, .d (iv (a0.Shape.Composites.length : Int))), (110, .d (iv s15)), (120, .d (.sl y20.length 0 (y20.flatMap eI.b))), (122, .d (iv (y20.length : Int))), (124, .d (iv s21)), (150, .d (.sl y28.length 0 (y28.flatMap eI.b))), (152, .d (iv (y28.length : Int))), (154, .d (iv (IntKind.i64.wrap (s29 + 1))))] .nil (by kernel_rfl) (by kernel_rfl) (l_n ?_)
              exact trl_start (ks := [0, 22, 26, 28, 106, 108, 110, 120, 122, 124, 150, 152, 154]) (by kernel_rfl) (ih31 (IntKind.i64.wrap (s29 + 1)) hM)
          · have hM := ite_false' hM h33
            refine tr_condFe (e := decide (s29 < (y28.length : Int))) h33 (by kernel_rfl) ?_
            refine tr_exit (q_x (l_x (b_h (b_n (q_n ?_)))))
            refine tr_r hT hm [] [0, 22, 106, 108, 110, 120, 122, 124] [(0, .d (.pt (eXSetFunctor.b a0) 0)), (22, .d (iv s15)), (106, .d (.sl a0.Shape.Composites.length 0 (a0.Shape.Composites.flatMap (eS eI).b))), (108, .d (iv (a0.Shape.Composites.length : Int))), (110, .d (iv s15)), (120, .d (.sl y20.length 0 (y20.flatMap eI.b))), (122, .d (iv (y20.length : Int))), (124, .d (iv (IntKind.i64.wrap (s21 + 1))))] .nil (by kernel_rfl) (by kernel_rfl) (l_n ?_)
            exact trl_start (ks := [0, 22, 106, 108, 110, 120, 122, 124]) (by kernel_rfl) (ih23 (IntKind.i64.wrap (s21 + 1)) hM)
      · have hM := ite_false' hM h25
        refine tr_condFe (e := decide (s21 < (y20.length : Int))) h25 (by kernel_rfl) ?_
        refine tr_exit (q_x (l_x (b_h (b_n (q_n ?_)))))
        refine tr_r hT hm [] [0, 106, 108, 110] [(0, .d (.pt (eXSetFunctor.b a0) 0)), (106, .d (.sl a0.Shape.Composites.length 0 (a0.Shape.Composites.flatMap (eS eI).b))), (108, .d (iv (a0.Shape.Composites.length : Int))), (110, .d (iv (IntKind.i64.wrap (s15 + 1))))] .nil (by kernel_rfl) (by kernel_rfl) (l_n ?_)
        exact trl_start (ks := [0, 106, 108, 110]) (by kernel_rfl) (ih17 (IntKind.i64.wrap (s15 + 1)) hM)
    · have hM := ite_false' hM h19
      refine tr_condFe (e := decide (s15 < (a0.Shape.Composites.length : Int))) h19 (by kernel_rfl) ?_
      refine tr_exit (q_x (l_x (b_h (q_n ?_))))
      refine tr_sr hT hm [] [4, 6, 8, 10] [(4, .d (iv 0)), (6, .d (iv 0)), (8, .d (iv 0)), (10, .d (iv 0))] .nil (by kernel_rfl) (by kernel_rfl) ?_
      refine tr_ret (rg_r ?_)
      obtain rfl := Option.some.inj hM
      exact retg (names := []) .nil (by kernel_rfl)

theorem ok119 : CallOk Try.prog 119 := callOk_of Try.func119 (by kernel_rfl) (by kernel_rfl)
theorem impl_SetFunctor_isSetFunctor_c (a0 : XSetFunctor) (r : Bool) (hM : M.impl_SetFunctor_isSetFunctor a0 = some r) :
    FnC Try.prog 119 [] [.pt (eXSetFunctor.b a0) 0] [] (bv r) := by
  refine fnc_startG (N := 19) (np := 500) hT Try.func119 rfl rfl (by kernel_rfl) ?_
  unfold M.impl_SetFunctor_isSetFunctor at hM
  refine tr_start (ks := [0]) (st' := [(0, .d (.pt (eXSetFunctor.b a0) 0))]) (by kernel_rfl) ?_
  refine tr_sr hT hm [] [0] [(0, .d (.pt (eXSetFunctor.b a0) 0))] .nil (by kernel_rfl) (by kernel_rfl) ?_
  refine tr_seq ?_
  obtain ⟨v1, hv1, hM⟩ := bind_some' hM
  refine tr_sr hT hm [(1, .call [] [] [.pt (eXSetFunctor.b a0) 0] [] (bv v1))] [0, 18] [(0, .d (.pt (eXSetFunctor.b a0) 0)), (18, .d (bv (!v1)))] (cc0 ok184 (impl_SetFunctor_isShape_c a0 _ hv1) (by kernel_rfl) .nil) (by kernel_rfl) (by kernel_rfl) ?_
  rcases Bool.eq_false_or_eq_true v1 with h2 | h2
  · have hM := ite_true' hM h2
    refine tr_condFe (e := !v1) (congrArg not h2) (by kernel_rfl) ?_
    refine tr_skip (q_n ?_)
    obtain ⟨v3, hv3, hM⟩ := bind_some' hM
    refine tr_sr hT hm [(1, .call [] [] [.pt (eXSetFunctor.b a0) 0] [] (.tup [iv v3.1, iv v3.2.1, iv v3.2.2.1, iv v3.2.2.2]))] [6] [(6, .d (iv v3.1))] (cc0 ok185 (impl_SetFunctor_fault_c a0 _ hv3) (by kernel_rfl) .nil) (by kernel_rfl) (by kernel_rfl) ?_
    refine tr_sr hT hm [] [4] [(4, .d (bv (v3.1 == 0)))] .nil (by kernel_rfl) (by kernel_rfl) ?_
    refine tr_ret (rg_r ?_)
    obtain rfl := Option.some.inj hM
    exact retg (names := []) .nil (by kernel_rfl)
  · have hM := ite_false' hM h2
    refine tr_condTe (e := !v1) (congrArg not h2) (by kernel_rfl) ?_
    refine tr_sr hT hm [] [4] [(4, .d (bv false))] .nil (by kernel_rfl) (by kernel_rfl) ?_
    refine tr_ret (q_r (rg_r ?_))
    obtain rfl := Option.some.inj hM
    exact retg (names := []) .nil (by kernel_rfl)

theorem ok186 : CallOk Try.prog 186 := callOk_of Try.func186 (by kernel_rfl) (by kernel_rfl)
theorem impl_SetFunctor_copy_c (a0 : XSetFunctor) (r : XSetFunctor) (hM : M.impl_SetFunctor_copy a0 = some r) :
    FnC Try.prog 186 [] [.pt (eXSetFunctor.b a0) 0] [] (.agg (eXSetFunctor.o r)) := by
  refine fnc_startG (N := 18) (np := 500) hT Try.func186 rfl rfl (by kernel_rfl) ?_
  unfold M.impl_SetFunctor_copy at hM
  refine tr_start (ks := [0]) (st' := [(0, .d (.pt (eXSetFunctor.b a0) 0))]) (by kernel_rfl) ?_
  refine tr_sr hT hm [] [0, 4, 2005] [(0, .d (.pt (eXSetFunctor.b a0) 0)), (4, .d (.rp 1002 0)), (2005, .r (.arr 1 [iv 0, nilv, nilv, nilv, nilv, nilv, nilv] []))] .nil (by kernel_rfl) (by kernel_rfl) ?_
  obtain ⟨v1, hv1, hM⟩ := bind_some' hM
  obtain ⟨v2, hv2, hM⟩ := bind_some' hM
  obtain ⟨v3, hv3, hM⟩ := bind_some' hM
  refine tr_sr hT hm [(3, .call [] [] [.pt (eXCategory.b a0.Shape) 0] [] (.agg (eXCategory.o v1))), (8, .call [] [] [.sl a0.Sizes.length 0 (a0.Sizes.flatMap eI.b)] [] (.fr 1 v2.length (v2.flatMap eI.o))), (13, .call [] [] [.sl a0.Actions.length 0 (a0.Actions.flatMap (eS eI).b)] [] (.fr 1 v3.length (v3.flatMap (eS eI).o)))] [4, 2005, 16003, 16005, 16007, 16009, 26001, 36001] ([(4, .d (.rp 1002 0)), (2005, .r (.arr 1 [iv v1.Objects, .rs 8001 0 v1.From.length, .rs 8002 0 v1.To.length, .rs 8003 0 v1.Identity.length, .rs 8004 0 v1.Composites.length, .rs 13000 0 v2.length, .rs 18000 0 v3.length] [8001, 8002, 8003, 8004, 13000, 18000]))] ++ rsS 8000 (eXCategory.o v1) ++ [(26001, .r (.arr 1 (v2.flatMap eI.o) [])), (36001, .r (.arr 1 (v3.flatMap (eS eI).o) []))]) (cc (B := []) (ρ := []) (rB := []) ok180 (impl_Category_copy_c a0.Shape _ hv1) (.cons (.pass (.ptk (ds := eXSetFunctor.b a0) (ds' := eXCategory.b a0.Shape) (off := 0) (n := 5) (by kernel_rfl) (by kernel_rfl) (by kernel_rfl))) .nil) (.inl rfl) (cc0 ok169 (impl_clone_c a0.Sizes _ hv2) (by kernel_rfl) (cc0 ok187 (impl_clones_c a0.Actions _ hv3) (by kernel_rfl) (.cons (Nat.le_of_ble_eq_true (n := 7) (m := 7) rfl) .nil)))) (by kernel_rfl) (by kernel_rfl) ?_
  refine tr_ret (rg_r ?_)
  obtain rfl := Option.some.inj hM
  exact retg (names := []) (.cons (lenO_flat eI_ok v1.From) (.cons (lenO_flat eI_ok v1.To) (.cons (lenO_flat eI_ok v1.Identity) (.cons (lenO_flat (eS_ok eI_ok) v1.Composites) (.cons (lenO_flat eI_ok v2) (.cons (lenO_flat (eS_ok eI_ok) v3) .nil)))))) (by kernel_rfl)

theorem ok121 : CallOk Try.prog 121 := callOk_of Try.func121 (by kernel_rfl) (by kernel_rfl)
theorem impl_setMap_c (a0 : XSetFunctor) (a1 : XSetFunctor) (a2 : List (List Int)) (r : XSetMap) (hM : M.impl_setMap a0 a1 a2 = some r) :
    FnC Try.prog 121 [] [.pt (eXSetFunctor.b a0) 0, .pt (eXSetFunctor.b a1) 0, .sl a2.length 0 (a2.flatMap (eS eI).b)] [] (.agg (eXSetMap.o r)) := by
  refine fnc_startG (N := 14) (np := 500) hT Try.func121 rfl rfl (by kernel_rfl) ?_
  unfold M.impl_setMap at hM
  refine tr_start (ks := [0, 2, 4]) (st' := [(0, .d (.pt (eXSetFunctor.b a0) 0)), (2, .d (.pt (eXSetFunctor.b a1) 0)), (4, .d (.sl a2.length 0 (a2.flatMap (eS eI).b)))]) (by kernel_rfl) ?_
  refine tr_sr hT hm [] [0, 2, 4, 12, 2013] [(0, .d (.pt (eXSetFunctor.b a0) 0)), (2, .d (.pt (eXSetFunctor.b a1) 0)), (4, .d (.sl a2.length 0 (a2.flatMap (eS eI).b))), (12, .d (.rp 1006 0)), (2013, .r (.arr 1 [iv 0, nilv, nilv, nilv, nilv, nilv, nilv, iv 0, nilv, nilv, nilv, nilv, nilv, nilv, nilv] []))] .nil (by kernel_rfl) (by kernel_rfl) ?_
  obtain ⟨v1, hv1, hM⟩ := bind_some' hM
  obtain ⟨v2, hv2, hM⟩ := bind_some' hM
  obtain ⟨v3, hv3, hM⟩ := bind_some' hM
  refine tr_sr hT hm [(1, .call [] [] [.pt (eXSetFunctor.b a0) 0] [] (.agg (eXSetFunctor.o v1))), (3, .call [] [] [.pt (eXSetFunctor.b a1) 0] [] (.agg (eXSetFunctor.o v2))), (5, .call [] [] [.sl a2.length 0 (a2.flatMap (eS eI).b)] [] (.fr 1 v3.length (v3.flatMap (eS eI).o)))] [12, 2013, 20003, 20005, 20007, 20009, 20011, 20013, 24003, 24005, 24007, 24009, 24011, 24013, 28001] ([(12, .d (.rp 1006 0)), (2013, .r (.arr 1 [iv v1.Shape.Objects, .rs 10001 0 v1.Shape.From.length, .rs 10002 0 v1.Shape.To.length, .rs 10003 0 v1.Shape.Identity.length, .rs 10004 0 v1.Shape.Composites.length, .rs 10005 0 v1.Sizes.length, .rs 10006 0 v1.Actions.length, iv v2.Shape.Objects, .rs 12001 0 v2.Shape.From.length, .rs 12002 0 v2.Shape.To.length, .rs 12003 0 v2.Shape.Identity.length, .rs 12004 0 v2.Shape.Composites.length, .rs 12005 0 v2.Sizes.length, .rs 12006 0 v2.Actions.length, .rs 14000 0 v3.length] [10001, 10002, 10003, 10004, 10005, 10006, 12001, 12002, 12003, 12004, 12005, 12006, 14000]))] ++ rsS 10000 (eXSetFunctor.o v1) ++ rsS 12000 (eXSetFunctor.o v2) ++ [(28001, .r (.arr 1 (v3.flatMap (eS eI).o) []))]) (cc0 ok186 (impl_SetFunctor_copy_c a0 _ hv1) (by kernel_rfl) (cc0 ok186 (impl_SetFunctor_copy_c a1 _ hv2) (by kernel_rfl) (cc0 ok187 (impl_clones_c a2 _ hv3) (by kernel_rfl) (.cons (Nat.le_of_ble_eq_true (n := 15) (m := 15) rfl) .nil)))) (by kernel_rfl) (by kernel_rfl) ?_
  refine tr_ret (rg_r ?_)
  obtain rfl := Option.some.inj hM
  exact retg (names := []) (.cons (lenO_flat eI_ok v1.Shape.From) (.cons (lenO_flat eI_ok v1.Shape.To) (.cons (lenO_flat eI_ok v1.Shape.Identity) (.cons (lenO_flat (eS_ok eI_ok) v1.Shape.Composites) (.cons (lenO_flat eI_ok v1.Sizes) (.cons (lenO_flat (eS_ok eI_ok) v1.Actions) (.cons (lenO_flat eI_ok v2.Shape.From) (.cons (lenO_flat eI_ok v2.Shape.To) (.cons (lenO_flat eI_ok v2.Shape.Identity) (.cons (lenO_flat (eS_ok eI_ok) v2.Shape.Composites) (.cons (lenO_flat eI_ok v2.Sizes) (.cons (lenO_flat (eS_ok eI_ok) v2.Actions) (.cons (lenO_flat (eS_ok eI_ok) v3) .nil))))))))))))) (by kernel_rfl)

theorem ok120 : CallOk Try.prog 120 := callOk_of Try.func120 (by kernel_rfl) (by kernel_rfl)
theorem impl_numbers_c (a0 : Int) (r : (List Int)) (hM : M.impl_numbers a0 = some r) :
    FnC Try.prog 120 [] [iv a0] [] (.fr 1 r.length (r.flatMap eI.o)) := by
  refine fnc_startG (N := 18) (np := 500) hT Try.func120 rfl rfl (by kernel_rfl) ?_
  unfold M.impl_numbers at hM
  refine tr_start (ks := [0]) (st' := [(0, .d (iv a0))]) (by kernel_rfl) ?_
  refine tr_sr hT hm [] [0] [(0, .d (iv a0))] .nil (by kernel_rfl) (by kernel_rfl) ?_
  obtain ⟨h1, hM⟩ := chk_some hM
  refine tr_sr hT hm [] [6, 2013] [(6, .d (.rs 1006 0 a0.toNat)), (2013, .r (.arr 1 (repl a0.toNat [.int .i64 0]) []))] (.cons h1.1 (.cons (Int.le_refl a0) (.cons h1.2 .nil))) (by kernel_rfl) (by kernel_rfl) ?_
  refine Tr.by (imp_cvE (r := 1006) (sz := 1) (refs := []) (repl_flat (f := eI.o) (zs := [.int .i64 0]) (z := (0 : Int)) rfl a0.toNat) (menO_flat eI_ok _) (by kernel_rfl)) ?_
  refine Tr.by (imp_cvD (k := 6) (congrArg (D.rs 1006 0) (List.length_replicate.symm : a0.toNat = (List.replicate a0.toNat (0 : Int)).length)) (by kernel_rfl)) ?_
  refine tr_seq ?_
  refine tr_sr hT hm [] [6, 16, 18, 2013] [(6, .d (.rs 1006 0 ((List.replicate a0.toNat (0 : Int)).length))), (16, .d (iv ((List.replicate a0.toNat (0 : Int)).length : Int))), (18, .d (iv 0)), (2013, .r (.arr 1 ((List.replicate a0.toNat (0 : Int)).flatMap eI.o) []))] .nil (by kernel_rfl) (by kernel_rfl) ?_
  refine tr_block ?_
  refine tr_iterS (fun (s2 : (List Int) × Int) => [(6, .d (.rs 1006 0 s2.1.length)), (16, .d (iv ((List.replicate a0.toNat (0 : Int)).length : Int))), (18, .d (iv s2.2)), (2013, .r (.arr 1 (s2.1.flatMap eI.o) []))]) ((List.replicate a0.toNat (0 : Int)), 0) [6, 16, 18, 2013] (by kernel_rfl) hM ?_
  intro n5 next3 ih4 s2 hM
  refine tr_sr hT hm [] [6, 16, 18, 20, 2013] [(6, .d (.rs 1006 0 s2.1.length)), (16, .d (iv ((List.replicate a0.toNat (0 : Int)).length : Int))), (18, .d (iv s2.2)), (20, .d (bv (decide (s2.2 < ((List.replicate a0.toNat (0 : Int)).length : Int))))), (2013, .r (.arr 1 (s2.1.flatMap eI.o) []))] .nil (by kernel_rfl) (by kernel_rfl) ?_
  refine tr_seq ?_
  rcases Bool.eq_false_or_eq_true (decide (s2.2 < ((List.replicate a0.toNat (0 : Int)).length : Int))) with h6 | h6
  · have hM := ite_true' hM h6
    refine tr_condTe (e := decide (s2.2 < ((List.replicate a0.toNat (0 : Int)).length : Int))) h6 (by kernel_rfl) ?_
    refine tr_skip (q_n ?_)
    refine tr_seq ?_
    refine tr_block ?_
    refine tr_sr hT hm [] [6, 8, 16, 18, 2013] [(6, .d (.rs 1006 0 s2.1.length)), (8, .d (iv s2.2)), (16, .d (iv ((List.replicate a0.toNat (0 : Int)).length : Int))), (18, .d (iv s2.2)), (2013, .r (.arr 1 (s2.1.flatMap eI.o) []))] .nil (by kernel_rfl) (by kernel_rfl) ?_
    obtain ⟨y7, hy7, hM⟩ := bind_some' hM
    have hy7' := idx_some hy7
    refine tr_r hT hm [] [6, 16, 18, 2013] [(6, .d (.rs 1006 0 s2.1.length)), (16, .d (iv ((List.replicate a0.toNat (0 : Int)).length : Int))), (18, .d (iv s2.2)), (2013, .r (.arr 1 ((s2.1.flatMap eI.o).take (0 + s2.2.toNat * 1) ++ [iv s2.2] ++ (s2.1.flatMap eI.o).drop (0 + s2.2.toNat * 1 + 1)) []))] (.cons hy7'.1 (.cons hy7'.2.1 (.cons (store_le eI_ok hy7'.2.2) .nil))) (by kernel_rfl) (by kernel_rfl) (b_n (q_n ?_))
    refine Tr.by (imp_cvE (r := 1006) (sz := 1) (refs := []) (set_flat eI_ok.lenO (y := s2.2) hy7'.2.2) (menO_flat eI_ok _) (by kernel_rfl)) ?_
    refine Tr.by (imp_cvD (k := 6) (congrArg (D.rs 1006 0) (List.length_set.symm : s2.1.length = (s2.1.set s2.2.toNat s2.2).length)) (by kernel_rfl)) ?_
    refine tr_r hT hm [] [6, 16, 18, 2013] [(6, .d (.rs 1006 0 ((s2.1.set s2.2.toNat s2.2).length))), (16, .d (iv ((List.replicate a0.toNat (0 : Int)).length : Int))), (18, .d (iv (IntKind.i64.wrap (s2.2 + 1)))), (2013, .r (.arr 1 ((s2.1.set s2.2.toNat s2.2).flatMap eI.o) []))] .nil (by kernel_rfl) (by kernel_rfl) (l_n ?_)
    exact trl_start (ks := [6, 16, 18, 2013]) (by kernel_rfl) (ih4 (s2.1.set s2.2.toNat s2.2, IntKind.i64.wrap (s2.2 + 1)) hM)
  · have hM := ite_false' hM h6
    refine tr_condFe (e := decide (s2.2 < ((List.replicate a0.toNat (0 : Int)).length : Int))) h6 (by kernel_rfl) ?_
    refine tr_exit (q_x (l_x (b_h (q_n ?_))))
    refine tr_sr hT hm [] [4, 2013] [(4, .d (.rs 1006 0 s2.1.length)), (2013, .r (.arr 1 (s2.1.flatMap eI.o) []))] .nil (by kernel_rfl) (by kernel_rfl) ?_
    refine tr_ret (rg_r ?_)
    obtain rfl := Option.some.inj hM
    exact retg (names := []) (.cons (lenO_flat eI_ok s2.1) .nil) (by kernel_rfl)

theorem ok50 : CallOk Try.prog 50 := callOk_of Try.func50 (by kernel_rfl) (by kernel_rfl)
theorem impl_IdentitySetMap_c (a0 : XSetFunctor) (r : XSetMap × Int) (hM : M.impl_IdentitySetMap a0 = some r) :
    FnC Try.prog 50 [] [.agg (eXSetFunctor.b a0)] [] (.tup [.agg (eXSetMap.o r.1), iv r.2]) := by
  refine fnc_startG (N := 26) (np := 500) hT Try.func50 rfl rfl (by kernel_rfl) ?_
  unfold M.impl_IdentitySetMap at hM
  refine tr_start (ks := [0]) (st' := [(0, .d (.agg (eXSetFunctor.b a0)))]) (by kernel_rfl) ?_
  refine tr_sr hT hm [] [2, 4, 2003, 2005] [(2, .d (.rp 1001 0)), (4, .d (.rp 1002 0)), bxB 2003 (eXSetFunctor.b a0), (2005, .r (.arr 1 [iv 0, nilv, nilv, nilv, nilv, nilv, nilv, iv 0, nilv, nilv, nilv, nilv, nilv, nilv, nilv] []))] .nil (by kernel_rfl) (by kernel_rfl) ?_
  refine tr_seq ?_
  obtain ⟨v1, hv1, hM⟩ := bind_some' hM
  refine tr_sr hT hm [(0, .call [1001] [] [.pt (eXSetFunctor.b a0) 0] [] (bv v1))] [2, 4, 16, 2003, 2005] [(2, .d (.rp 1001 0)), (4, .d (.rp 1002 0)), (16, .d (bv (!v1))), bxB 2003 (eXSetFunctor.b a0), (2005, .r (.arr 1 [iv 0, nilv, nilv, nilv, nilv, nilv, nilv, iv 0, nilv, nilv, nilv, nilv, nilv, nilv, nilv] []))] (cc (B := [1001]) (ρ := []) (rB := [(1001, .arr 1 [iv a0.Shape.Objects, .sl a0.Shape.From.length 0 (a0.Shape.From.flatMap eI.b), .sl a0.Shape.To.length 0 (a0.Shape.To.flatMap eI.b), .sl a0.Shape.Identity.length 0 (a0.Shape.Identity.flatMap eI.b), .sl a0.Shape.Composites.length 0 (a0.Shape.Composites.flatMap (eS eI).b), .sl a0.Sizes.length 0 (a0.Sizes.flatMap eI.b), .sl a0.Actions.length 0 (a0.Actions.flatMap (eS eI).b)] [])]) ok119 (impl_SetFunctor_isSetFunctor_c a0 _ hv1) (.cons (.of1 (.rp (r := 1001) (sz := 1) (cells := [iv a0.Shape.Objects, .sl a0.Shape.From.length 0 (a0.Shape.From.flatMap eI.b), .sl a0.Shape.To.length 0 (a0.Shape.To.flatMap eI.b), .sl a0.Shape.Identity.length 0 (a0.Shape.Identity.flatMap eI.b), .sl a0.Shape.Composites.length 0 (a0.Shape.Composites.flatMap (eS eI).b), .sl a0.Sizes.length 0 (a0.Sizes.flatMap eI.b), .sl a0.Actions.length 0 (a0.Actions.flatMap (eS eI).b)]) (refs := []) (memB (by kernel_rfl)) (by kernel_rfl) (.cons .v (.cons (.same rfl rfl) (.cons (.same rfl rfl) (.cons (.same rfl rfl) (.cons (.same rfl rfl) (.cons (.same rfl rfl) (.cons (.same rfl rfl) .nil))))))))) .nil) (.inr ⟨.v, trivial⟩) .nil) (by kernel_rfl) (by kernel_rfl) ?_
  rcases Bool.eq_false_or_eq_true v1 with h2 | h2
  · have hM := ite_true' hM h2
    refine tr_condFe (e := !v1) (congrArg not h2) (by kernel_rfl) ?_
    refine tr_skip (q_n ?_)
    refine tr_sr hT hm [] [2, 4, 8, 2003, 2005, 2021] [(2, .d (.rp 1001 0)), (4, .d (.rp 1002 0)), (8, .d (.rs 1010 0 (([] : List (List Int)).length))), bxB 2003 (eXSetFunctor.b a0), (2005, .r (.arr 1 [iv 0, nilv, nilv, nilv, nilv, nilv, nilv, iv 0, nilv, nilv, nilv, nilv, nilv, nilv, nilv] [])), (2021, .r (.arr 1 (([] : List (List Int)).flatMap (eS eI).o) []))] .nil (by kernel_rfl) (by kernel_rfl) ?_
    refine tr_seq ?_
    refine tr_sr hT hm [] [2, 4, 8, 24, 26, 28, 2003, 2005, 2021] [(2, .d (.rp 1001 0)), (4, .d (.rp 1002 0)), (8, .d (.rs 1010 0 (([] : List (List Int)).length))), (24, .d (.sl a0.Sizes.length 0 (a0.Sizes.flatMap eI.b))), (26, .d (iv (a0.Sizes.length : Int))), (28, .d (iv 0)), bxB 2003 (eXSetFunctor.b a0), (2005, .r (.arr 1 [iv 0, nilv, nilv, nilv, nilv, nilv, nilv, iv 0, nilv, nilv, nilv, nilv, nilv, nilv, nilv] [])), (2021, .r (.arr 1 (([] : List (List Int)).flatMap (eS eI).o) []))] .nil (by kernel_rfl) (by kernel_rfl) ?_
    refine tr_block ?_
    refine tr_iterS (fun (s3 : (List (List Int)) × Int) => [(2, .d (.rp 1001 0)), (4, .d (.rp 1002 0)), (8, .d (.rs 1010 0 s3.1.length)), (24, .d (.sl a0.Sizes.length 0 (a0.Sizes.flatMap eI.b))), (26, .d (iv (a0.Sizes.length : Int))), (28, .d (iv s3.2)), bxB 2003 (eXSetFunctor.b a0), (2005, .r (.arr 1 [iv 0, nilv, nilv, nilv, nilv, nilv, nilv, iv 0, nilv, nilv, nilv, nilv, nilv, nilv, nilv] [])), (2021, .r (.arr 1 (s3.1.flatMap (eS eI).o) []))]) (([] : List (List Int)), 0) [2, 4, 8, 24, 26, 28, 2003, 2005, 2021] (by kernel_rfl) hM ?_
    intro n6 next4 ih5 s3 hM
    refine tr_sr hT hm [] [2, 4, 8, 24, 26, 28, 30, 2003, 2005, 2021] [(2, .d (.rp 1001 0)), (4, .d (.rp 1002 0)), (8, .d (.rs 1010 0 s3.1.length)), (24, .d (.sl a0.Sizes.length 0 (a0.Sizes.flatMap eI.b))), (26, .d (iv (a0.Sizes.length : Int))), (28, .d (iv s3.2)), (30, .d (bv (decide (s3.2 < (a0.Sizes.length : Int))))), bxB 2003 (eXSetFunctor.b a0), (2005, .r (.arr 1 [iv 0, nilv, nilv, nilv, nilv, nilv, nilv, iv 0, nilv, nilv, nilv, nilv, nilv, nilv, nilv] [])), (2021, .r (.arr 1 (s3.1.flatMap (eS eI).o) []))] .nil (by kernel_rfl) (by kernel_rfl) ?_
    refine tr_seq ?_
    rcases Bool.eq_false_or_eq_true (decide (s3.2 < (a0.Sizes.length : Int))) with h7 | h7
    · have hM := ite_true' hM h7
      refine tr_condTe (e := decide (s3.2 < (a0.Sizes.length : Int))) h7 (by kernel_rfl) ?_
      refine tr_skip (q_n ?_)
      refine tr_seq ?_
      refine tr_block ?_
      obtain ⟨y8, hy8, hM⟩ := bind_some' hM
      have hy8' := idx_some hy8
      refine tr_sr hT hm [(1, .val (iv y8))] [2, 4, 8, 12, 24, 26, 28, 2003, 2005, 2021] [(2, .d (.rp 1001 0)), (4, .d (.rp 1002 0)), (8, .d (.rs 1010 0 s3.1.length)), (12, .d (iv y8)), (24, .d (.sl a0.Sizes.length 0 (a0.Sizes.flatMap eI.b))), (26, .d (iv (a0.Sizes.length : Int))), (28, .d (iv s3.2)), bxB 2003 (eXSetFunctor.b a0), (2005, .r (.arr 1 [iv 0, nilv, nilv, nilv, nilv, nilv, nilv, iv 0, nilv, nilv, nilv, nilv, nilv, nilv, nilv] [])), (2021, .r (.arr 1 (s3.1.flatMap (eS eI).o) []))] (.cons hy8'.1 (.cons hy8'.2.1 (.cons (at_b0 eI_ok hy8'.2.2 (d := iv y8) (by kernel_rfl)) .nil))) (by kernel_rfl) (by kernel_rfl) ?_
      obtain ⟨v9, hv9, hM⟩ := bind_some' hM
      obtain ⟨h10, hM⟩ := chk_some hM
      refine tr_r hT hm [(2, .call [] [] [iv y8] [] (.fr 1 v9.length (v9.flatMap eI.o))), (4, .app true)] [2, 4, 8, 24, 26, 28, 2003, 2005, 2045, 44001] [(2, .d (.rp 1001 0)), (4, .d (.rp 1002 0)), (8, .d (.rs 1022 0 (s3.1.length + 1))), (24, .d (.sl a0.Sizes.length 0 (a0.Sizes.flatMap eI.b))), (26, .d (iv (a0.Sizes.length : Int))), (28, .d (iv s3.2)), bxB 2003 (eXSetFunctor.b a0), (2005, .r (.arr 1 [iv 0, nilv, nilv, nilv, nilv, nilv, nilv, iv 0, nilv, nilv, nilv, nilv, nilv, nilv, nilv] [])), (2045, .r (.arr 1 (s3.1.flatMap (eS eI).o ++ [.rs 22000 0 v9.length]) [22000])), (44001, .r (.arr 1 (v9.flatMap eI.o) []))] (cc0 ok120 (impl_numbers_c y8 _ hv9) (by kernel_rfl) (.cons (lenO_flat (eS_ok eI_ok) s3.1) (.cons (by kernel_rfl : ([.rs 22000 0 v9.length] : List D).length = 1 * 1) (.cons h10 .nil)))) (by kernel_rfl) (by kernel_rfl) (b_n (q_n ?_))
      refine Tr.by (imp_demE (r := 1022) (q := 22000) (sz := 1) (n := v9.length) (j := 0) (pre := s3.1.flatMap (eS eI).o) (l := [.rs 22000 0 v9.length]) (refs := [22000]) (refs' := []) (menO_flat (eS_ok eI_ok) _) (lenO_flat eI_ok v9) (by kernel_rfl) (by kernel_rfl) (by kernel_rfl) (by kernel_rfl) (by kernel_rfl)) ?_
      refine Tr.by (imp_cvE (r := 1022) (sz := 1) (refs := []) (flat_snoc (eS eI).o s3.1 v9) (menO_flat (eS_ok eI_ok) _) (by kernel_rfl)) ?_
      refine Tr.by (imp_cvD (k := 8) (congrArg (D.rs 1022 0) ((len_snoc s3.1 v9) : s3.1.length + 1 = (s3.1 ++ [v9]).length)) (by kernel_rfl)) ?_
      refine tr_r hT hm [] [2, 4, 8, 24, 26, 28, 2003, 2005, 2045] [(2, .d (.rp 1001 0)), (4, .d (.rp 1002 0)), (8, .d (.rs 1022 0 ((s3.1 ++ [v9]).length))), (24, .d (.sl a0.Sizes.length 0 (a0.Sizes.flatMap eI.b))), (26, .d (iv (a0.Sizes.length : Int))), (28, .d (iv (IntKind.i64.wrap (s3.2 + 1)))), bxB 2003 (eXSetFunctor.b a0), (2005, .r (.arr 1 [iv 0, nilv, nilv, nilv, nilv, nilv, nilv, iv 0, nilv, nilv, nilv, nilv, nilv, nilv, nilv] [])), (2045, .r (.arr 1 ((s3.1 ++ [v9]).flatMap (eS eI).o) []))] .nil (by kernel_rfl) (by kernel_rfl) (l_n ?_)
      refine TrL.by (imp_sel (ks := [2, 4, 8, 24, 26, 28, 2003, 2005, 2045]) (st' := [(2, .d (.rp 1001 0)), (4, .d (.rp 1002 0)), (8, .d (.rs 1022 0 ((s3.1 ++ [v9]).length))), (24, .d (.sl a0.Sizes.length 0 (a0.Sizes.flatMap eI.b))), (26, .d (iv (a0.Sizes.length : Int))), (28, .d (iv (IntKind.i64.wrap (s3.2 + 1)))), bxB 2003 (eXSetFunctor.b a0), (2005, .r (.arr 1 [iv 0, nilv, nilv, nilv, nilv, nilv, nilv, iv 0, nilv, nilv, nilv, nilv, nilv, nilv, nilv] [])), (2045, .r (.arr 1 ((s3.1 ++ [v9]).flatMap (eS eI).o) []))]) (by kernel_rfl)) ?_
      refine TrL.by (imp_rename (r := 1022) (q := 1010) (by kernel_rfl) (Nat.le_of_ble_eq_true rfl)) ?_
      exact trl_start (ks := [2, 4, 8, 24, 26, 28, 2003, 2005, 2021]) (by kernel_rfl) (ih5 (s3.1 ++ [v9], IntKind.i64.wrap (s3.2 + 1)) hM)
    · have hM := ite_false' hM h7
      refine tr_condFe (e := decide (s3.2 < (a0.Sizes.length : Int))) h7 (by kernel_rfl) ?_
      refine tr_exit (q_x (l_x (b_h (q_n ?_))))
      obtain ⟨v11, hv11, hM⟩ := bind_some' hM
      refine tr_sr hT hm [(1, .call [1001, 1010] [] [.pt (eXSetFunctor.b a0) 0, .pt (eXSetFunctor.b a0) 0, .sl s3.1.length 0 (s3.1.flatMap (eS eI).b)] [] (.agg (eXSetMap.o v11)))] [4, 6, 2005, 54003, 54005, 54007, 54009, 54011, 54013, 54017, 54019, 54021, 54023, 54025, 54027, 54029] ([(4, .d (.rp 1002 0)), (6, .d (iv 0)), bxO 2005 27000 (eXSetMap.o v11)] ++ rsS 27000 (eXSetMap.o v11)) (cc (B := [1001, 1010]) (ρ := []) (rB := [(1001, .arr 1 [iv a0.Shape.Objects, .sl a0.Shape.From.length 0 (a0.Shape.From.flatMap eI.b), .sl a0.Shape.To.length 0 (a0.Shape.To.flatMap eI.b), .sl a0.Shape.Identity.length 0 (a0.Shape.Identity.flatMap eI.b), .sl a0.Shape.Composites.length 0 (a0.Shape.Composites.flatMap (eS eI).b), .sl a0.Sizes.length 0 (a0.Sizes.flatMap eI.b), .sl a0.Actions.length 0 (a0.Actions.flatMap (eS eI).b)] []), (1010, .arr 1 (s3.1.flatMap (eS eI).o) [])]) ok121 (impl_setMap_c a0 a0 s3.1 _ hv11) (.cons (.of1 (.rp (r := 1001) (sz := 1) (cells := [iv a0.Shape.Objects, .sl a0.Shape.From.length 0 (a0.Shape.From.flatMap eI.b), .sl a0.Shape.To.length 0 (a0.Shape.To.flatMap eI.b), .sl a0.Shape.Identity.length 0 (a0.Shape.Identity.flatMap eI.b), .sl a0.Shape.Composites.length 0 (a0.Shape.Composites.flatMap (eS eI).b), .sl a0.Sizes.length 0 (a0.Sizes.flatMap eI.b), .sl a0.Actions.length 0 (a0.Actions.flatMap (eS eI).b)]) (refs := []) (memB (by kernel_rfl)) (by kernel_rfl) (.cons .v (.cons (.same rfl rfl) (.cons (.same rfl rfl) (.cons (.same rfl rfl) (.cons (.same rfl rfl) (.cons (.same rfl rfl) (.cons (.same rfl rfl) .nil))))))))) (.cons (.of1 (.rp (r := 1001) (sz := 1) (cells := [iv a0.Shape.Objects, .sl a0.Shape.From.length 0 (a0.Shape.From.flatMap eI.b), .sl a0.Shape.To.length 0 (a0.Shape.To.flatMap eI.b), .sl a0.Shape.Identity.length 0 (a0.Shape.Identity.flatMap eI.b), .sl a0.Shape.Composites.length 0 (a0.Shape.Composites.flatMap (eS eI).b), .sl a0.Sizes.length 0 (a0.Sizes.flatMap eI.b), .sl a0.Actions.length 0 (a0.Actions.flatMap (eS eI).b)]) (refs := []) (memB (by kernel_rfl)) (by kernel_rfl) (.cons .v (.cons (.same rfl rfl) (.cons (.same rfl rfl) (.cons (.same rfl rfl) (.cons (.same rfl rfl) (.cons (.same rfl rfl) (.cons (.same rfl rfl) .nil))))))))) (.cons (.of1 (.rs (r := 1010) (sz := 1) (refs := []) (memB (by kernel_rfl)) (by kernel_rfl) (bor_flat (eS_ok eI_ok) _ _ _))) .nil))) (.inr ⟨(.agg (eXSetMap_nb _)), trivial⟩) (.cons (Nat.le_of_ble_eq_true (n := 15) (m := 15) rfl) .nil)) (by kernel_rfl) (by kernel_rfl) ?_
      refine tr_ret (rg_r ?_)
      obtain rfl := Option.some.inj hM
      exact retg (names := []) (.cons (lenO_flat eI_ok v11.Source.Shape.From) (.cons (lenO_flat eI_ok v11.Source.Shape.To) (.cons (lenO_flat eI_ok v11.Source.Shape.Identity) (.cons (lenO_flat (eS_ok eI_ok) v11.Source.Shape.Composites) (.cons (lenO_flat eI_ok v11.Source.Sizes) (.cons (lenO_flat (eS_ok eI_ok) v11.Source.Actions) (.cons (lenO_flat eI_ok v11.Target.Shape.From) (.cons (lenO_flat eI_ok v11.Target.Shape.To) (.cons (lenO_flat eI_ok v11.Target.Shape.Identity) (.cons (lenO_flat (eS_ok eI_ok) v11.Target.Shape.Composites) (.cons (lenO_flat eI_ok v11.Target.Sizes) (.cons (lenO_flat (eS_ok eI_ok) v11.Target.Actions) (.cons (lenO_flat (eS_ok eI_ok) v11.Parts) .nil))))))))))))) (by kernel_rfl)
  · have hM := ite_false' hM h2
    refine tr_condTe (e := !v1) (congrArg not h2) (by kernel_rfl) ?_
    refine tr_sr hT hm [] [4, 6, 2005] [(4, .d (.rp 1002 0)), (6, .d (iv 1)), (2005, .r (.arr 1 [iv 0, nilv, nilv, nilv, nilv, nilv, nilv, iv 0, nilv, nilv, nilv, nilv, nilv, nilv, nilv] []))] (.cons (Nat.le_of_ble_eq_true (n := 15) (m := 15) rfl) .nil) (by kernel_rfl) (by kernel_rfl) ?_
    refine tr_ret (q_r (rg_r ?_))
    refine RetG.by (imp_cvB (r := 1002) (sz := 1) (cells := [iv 0, nilv, nilv, nilv, nilv, nilv, nilv, iv 0, nilv, nilv, nilv, nilv, nilv, nilv, nilv]) (cells' := [iv 0, .fr 1 ([] : List Int).length (([] : List Int).flatMap eI.o), .fr 1 ([] : List Int).length (([] : List Int).flatMap eI.o), .fr 1 ([] : List Int).length (([] : List Int).flatMap eI.o), .fr 1 ([] : List (List Int)).length (([] : List (List Int)).flatMap (eS eI).o), .fr 1 ([] : List Int).length (([] : List Int).flatMap eI.o), .fr 1 ([] : List (List Int)).length (([] : List (List Int)).flatMap (eS eI).o), iv 0, .fr 1 ([] : List Int).length (([] : List Int).flatMap eI.o), .fr 1 ([] : List Int).length (([] : List Int).flatMap eI.o), .fr 1 ([] : List Int).length (([] : List Int).flatMap eI.o), .fr 1 ([] : List (List Int)).length (([] : List (List Int)).flatMap (eS eI).o), .fr 1 ([] : List Int).length (([] : List Int).flatMap eI.o), .fr 1 ([] : List (List Int)).length (([] : List (List Int)).flatMap (eS eI).o), .fr 1 ([] : List (List Int)).length (([] : List (List Int)).flatMap (eS eI).o)]) (refs := []) (refs' := []) (.cons (.refl _) (.cons Sub.nil_fr (.cons Sub.nil_fr (.cons Sub.nil_fr (.cons Sub.nil_fr (.cons Sub.nil_fr (.cons Sub.nil_fr (.cons (.refl _) (.cons Sub.nil_fr (.cons Sub.nil_fr (.cons Sub.nil_fr (.cons Sub.nil_fr (.cons Sub.nil_fr (.cons Sub.nil_fr (.cons Sub.nil_fr .nil))))))))))))))) (by kernel_rfl) (by kernel_rfl) (by kernel_rfl)) ?_
    obtain rfl := Option.some.inj hM
    exact retg (names := []) .nil (by kernel_rfl)

theorem ok52 : CallOk Try.prog 52 := callOk_of Try.func52 (by kernel_rfl) (by kernel_rfl)
theorem laws_eqSetFunctor_c (a0 : XSetFunctor) (a1 : XSetFunctor) (r : Bool) (hM : M.laws_eqSetFunctor a0 a1 = some r) :
    FnC Try.prog 52 [] [.agg (eXSetFunctor.b a0), .agg (eXSetFunctor.b a1)] [] (bv r) := by
  refine fnc_startG (N := 23) (np := 500) hT Try.func52 rfl rfl (by kernel_rfl) ?_
  unfold M.laws_eqSetFunctor at hM
  refine tr_start (ks := [0, 2]) (st' := [(0, .d (.agg (eXSetFunctor.b a0))), (2, .d (.agg (eXSetFunctor.b a1)))]) (by kernel_rfl) ?_
  refine tr_sr hT hm [] [4, 6, 2005, 2007] [(4, .d (.rp 1002 0)), (6, .d (.rp 1003 0)), bxB 2005 (eXSetFunctor.b a0), bxB 2007 (eXSetFunctor.b a1)] .nil (by kernel_rfl) (by kernel_rfl) ?_
  refine tr_seq ?_
  obtain ⟨v1, hv1, hM⟩ := bind_some' hM
  refine tr_sr hT hm [(4, .call [] [] [.agg [iv a0.Shape.Objects, .sl a0.Shape.From.length 0 (a0.Shape.From.flatMap eI.b), .sl a0.Shape.To.length 0 (a0.Shape.To.flatMap eI.b), .sl a0.Shape.Identity.length 0 (a0.Shape.Identity.flatMap eI.b), .sl a0.Shape.Composites.length 0 (a0.Shape.Composites.flatMap (eS eI).b)], .agg [iv a1.Shape.Objects, .sl a1.Shape.From.length 0 (a1.Shape.From.flatMap eI.b), .sl a1.Shape.To.length 0 (a1.Shape.To.flatMap eI.b), .sl a1.Shape.Identity.length 0 (a1.Shape.Identity.flatMap eI.b), .sl a1.Shape.Composites.length 0 (a1.Shape.Composites.flatMap (eS eI).b)]] [] (bv v1))] [4, 6, 20, 2005, 2007] [(4, .d (.rp 1002 0)), (6, .d (.rp 1003 0)), (20, .d (bv (!v1))), bxB 2005 (eXSetFunctor.b a0), bxB 2007 (eXSetFunctor.b a1)] (cc0 ok28 (laws_eqCategory_c a0.Shape a1.Shape _ hv1) (by kernel_rfl) .nil) (by kernel_rfl) (by kernel_rfl) ?_
  rcases Bool.eq_false_or_eq_true v1 with h2 | h2
  · have hM := ite_true' hM h2
    refine tr_condFe (e := !v1) (congrArg not h2) (by kernel_rfl) ?_
    refine tr_skip (q_n ?_)
    refine tr_seq ?_
    obtain ⟨v3, hv3, hM⟩ := bind_some' hM
    refine tr_sr hT hm [(4, .call [] [] [.sl a0.Sizes.length 0 (a0.Sizes.flatMap eI.b), .sl a1.Sizes.length 0 (a1.Sizes.flatMap eI.b)] [] (bv v3))] [4, 6, 32, 2005, 2007] [(4, .d (.rp 1002 0)), (6, .d (.rp 1003 0)), (32, .d (bv (!v3))), bxB 2005 (eXSetFunctor.b a0), bxB 2007 (eXSetFunctor.b a1)] (cc0 ok65 (laws_eqInt64S_c a0.Sizes a1.Sizes _ hv3) (by kernel_rfl) .nil) (by kernel_rfl) (by kernel_rfl) ?_
    rcases Bool.eq_false_or_eq_true v3 with h4 | h4
    · have hM := ite_true' hM h4
      refine tr_condFe (e := !v3) (congrArg not h4) (by kernel_rfl) ?_
      refine tr_skip (q_n ?_)
      refine tr_seq ?_
      obtain ⟨v5, hv5, hM⟩ := bind_some' hM
      refine tr_sr hT hm [(4, .call [] [] [.sl a0.Actions.length 0 (a0.Actions.flatMap (eS eI).b), .sl a1.Actions.length 0 (a1.Actions.flatMap (eS eI).b)] [] (bv v5))] [44] [(44, .d (bv (!v5)))] (cc0 ok66 (laws_eqInt64SS_c a0.Actions a1.Actions _ hv5) (by kernel_rfl) .nil) (by kernel_rfl) (by kernel_rfl) ?_
      rcases Bool.eq_false_or_eq_true v5 with h6 | h6
      · have hM := ite_true' hM h6
        refine tr_condFe (e := !v5) (congrArg not h6) (by kernel_rfl) ?_
        refine tr_skip (q_n ?_)
        refine tr_sr hT hm [] [8] [(8, .d (bv true))] .nil (by kernel_rfl) (by kernel_rfl) ?_
        refine tr_ret (rg_r ?_)
        obtain rfl := Option.some.inj hM
        exact retg (names := []) .nil (by kernel_rfl)
      · have hM := ite_false' hM h6
        refine tr_condTe (e := !v5) (congrArg not h6) (by kernel_rfl) ?_
        refine tr_sr hT hm [] [8] [(8, .d (bv false))] .nil (by kernel_rfl) (by kernel_rfl) ?_
        refine tr_ret (q_r (rg_r ?_))
        obtain rfl := Option.some.inj hM
        exact retg (names := []) .nil (by kernel_rfl)
    · have hM := ite_false' hM h4
      refine tr_condTe (e := !v3) (congrArg not h4) (by kernel_rfl) ?_
      refine tr_sr hT hm [] [8] [(8, .d (bv false))] .nil (by kernel_rfl) (by kernel_rfl) ?_
      refine tr_ret (q_r (rg_r ?_))
      obtain rfl := Option.some.inj hM
      exact retg (names := []) .nil (by kernel_rfl)
  · have hM := ite_false' hM h2
    refine tr_condTe (e := !v1) (congrArg not h2) (by kernel_rfl) ?_
    refine tr_sr hT hm [] [8] [(8, .d (bv false))] .nil (by kernel_rfl) (by kernel_rfl) ?_
    refine tr_ret (q_r (rg_r ?_))
    obtain rfl := Option.some.inj hM
    exact retg (names := []) .nil (by kernel_rfl)

theorem ok51 : CallOk Try.prog 51 := callOk_of Try.func51 (by kernel_rfl) (by kernel_rfl)
theorem laws_eqSetMap_c (a0 : XSetMap) (a1 : XSetMap) (r : Bool) (hM : M.laws_eqSetMap a0 a1 = some r) :
    FnC Try.prog 51 [] [.agg (eXSetMap.b a0), .agg (eXSetMap.b a1)] [] (bv r) := by
  refine fnc_startG (N := 23) (np := 500) hT Try.func51 rfl rfl (by kernel_rfl) ?_
  unfold M.laws_eqSetMap at hM
  refine tr_start (ks := [0, 2]) (st' := [(0, .d (.agg (eXSetMap.b a0))), (2, .d (.agg (eXSetMap.b a1)))]) (by kernel_rfl) ?_
  refine tr_sr hT hm [] [4, 6, 2005, 2007] [(4, .d (.rp 1002 0)), (6, .d (.rp 1003 0)), bxB 2005 (eXSetMap.b a0), bxB 2007 (eXSetMap.b a1)] .nil (by kernel_rfl) (by kernel_rfl) ?_
  refine tr_seq ?_
  obtain ⟨v1, hv1, hM⟩ := bind_some' hM
  refine tr_sr hT hm [(4, .call [] [] [.agg [iv a0.Source.Shape.Objects, .sl a0.Source.Shape.From.length 0 (a0.Source.Shape.From.flatMap eI.b), .sl a0.Source.Shape.To.length 0 (a0.Source.Shape.To.flatMap eI.b), .sl a0.Source.Shape.Identity.length 0 (a0.Source.Shape.Identity.flatMap eI.b), .sl a0.Source.Shape.Composites.length 0 (a0.Source.Shape.Composites.flatMap (eS eI).b), .sl a0.Source.Sizes.length 0 (a0.Source.Sizes.flatMap eI.b), .sl a0.Source.Actions.length 0 (a0.Source.Actions.flatMap (eS eI).b)], .agg [iv a1.Source.Shape.Objects, .sl a1.Source.Shape.From.length 0 (a1.Source.Shape.From.flatMap eI.b), .sl a1.Source.Shape.To.length 0 (a1.Source.Shape.To.flatMap eI.b), .sl a1.Source.Shape.Identity.length 0 (a1.Source.Shape.Identity.flatMap eI.b), .sl a1.Source.Shape.Composites.length 0 (a1.Source.Shape.Composites.flatMap (eS eI).b), .sl a1.Source.Sizes.length 0 (a1.Source.Sizes.flatMap eI.b), .sl a1.Source.Actions.length 0 (a1.Source.Actions.flatMap (eS eI).b)]] [] (bv v1))] [4, 6, 20, 2005, 2007] [(4, .d (.rp 1002 0)), (6, .d (.rp 1003 0)), (20, .d (bv (!v1))), bxB 2005 (eXSetMap.b a0), bxB 2007 (eXSetMap.b a1)] (cc0 ok52 (laws_eqSetFunctor_c a0.Source a1.Source _ hv1) (by kernel_rfl) .nil) (by kernel_rfl) (by kernel_rfl) ?_
  rcases Bool.eq_false_or_eq_true v1 with h2 | h2
  · have hM := ite_true' hM h2
    refine tr_condFe (e := !v1) (congrArg not h2) (by kernel_rfl) ?_
    refine tr_skip (q_n ?_)
    refine tr_seq ?_
    obtain ⟨v3, hv3, hM⟩ := bind_some' hM
    refine tr_sr hT hm [(4, .call [] [] [.agg [iv a0.Target.Shape.Objects, .sl a0.Target.Shape.From.length 0 (a0.Target.Shape.From.flatMap eI.b), .sl a0.Target.Shape.To.length 0 (a0.Target.Shape.To.flatMap eI.b), .sl a0.Target.Shape.Identity.length 0 (a0.Target.Shape.Identity.flatMap eI.b), .sl a0.Target.Shape.Composites.length 0 (a0.Target.Shape.Composites.flatMap (eS eI).b), .sl a0.Target.Sizes.length 0 (a0.Target.Sizes.flatMap eI.b), .sl a0.Target.Actions.length 0 (a0.Target.Actions.flatMap (eS eI).b)], .agg [iv a1.Target.Shape.Objects, .sl a1.Target.Shape.From.length 0 (a1.Target.Shape.From.flatMap eI.b), .sl a1.Target.Shape.To.length 0 (a1.Target.Shape.To.flatMap eI.b), .sl a1.Target.Shape.Identity.length 0 (a1.Target.Shape.Identity.flatMap eI.b), .sl a1.Target.Shape.Composites.length 0 (a1.Target.Shape.Composites.flatMap (eS eI).b), .sl a1.Target.Sizes.length 0 (a1.Target.Sizes.flatMap eI.b), .sl a1.Target.Actions.length 0 (a1.Target.Actions.flatMap (eS eI).b)]] [] (bv v3))] [4, 6, 32, 2005, 2007] [(4, .d (.rp 1002 0)), (6, .d (.rp 1003 0)), (32, .d (bv (!v3))), bxB 2005 (eXSetMap.b a0), bxB 2007 (eXSetMap.b a1)] (cc0 ok52 (laws_eqSetFunctor_c a0.Target a1.Target _ hv3) (by kernel_rfl) .nil) (by kernel_rfl) (by kernel_rfl) ?_
    rcases Bool.eq_false_or_eq_true v3 with h4 | h4
    · have hM := ite_true' hM h4
      refine tr_condFe (e := !v3) (congrArg not h4) (by kernel_rfl) ?_
      refine tr_skip (q_n ?_)
      refine tr_seq ?_
      obtain ⟨v5, hv5, hM⟩ := bind_some' hM
      refine tr_sr hT hm [(4, .call [] [] [.sl a0.Parts.length 0 (a0.Parts.flatMap (eS eI).b), .sl a1.Parts.length 0 (a1.Parts.flatMap (eS eI).b)] [] (bv v5))] [44] [(44, .d (bv (!v5)))] (cc0 ok66 (laws_eqInt64SS_c a0.Parts a1.Parts _ hv5) (by kernel_rfl) .nil) (by kernel_rfl) (by kernel_rfl) ?_
      rcases Bool.eq_false_or_eq_true v5 with h6 | h6
      · have hM := ite_true' hM h6
        refine tr_condFe (e := !v5) (congrArg not h6) (by kernel_rfl) ?_
        refine tr_skip (q_n ?_)
        refine tr_sr hT hm [] [8] [(8, .d (bv true))] .nil (by kernel_rfl) (by kernel_rfl) ?_
        refine tr_ret (rg_r ?_)
        obtain rfl := Option.some.inj hM
        exact retg (names := []) .nil (by kernel_rfl)
      · have hM := ite_false' hM h6
        refine tr_condTe (e := !v5) (congrArg not h6) (by kernel_rfl) ?_
        refine tr_sr hT hm [] [8] [(8, .d (bv false))] .nil (by kernel_rfl) (by kernel_rfl) ?_
        refine tr_ret (q_r (rg_r ?_))
        obtain rfl := Option.some.inj hM
        exact retg (names := []) .nil (by kernel_rfl)
    · have hM := ite_false' hM h4
      refine tr_condTe (e := !v3) (congrArg not h4) (by kernel_rfl) ?_
      refine tr_sr hT hm [] [8] [(8, .d (bv false))] .nil (by kernel_rfl) (by kernel_rfl) ?_
      refine tr_ret (q_r (rg_r ?_))
      obtain rfl := Option.some.inj hM
      exact retg (names := []) .nil (by kernel_rfl)
  · have hM := ite_false' hM h2
    refine tr_condTe (e := !v1) (congrArg not h2) (by kernel_rfl) ?_
    refine tr_sr hT hm [] [8] [(8, .d (bv false))] .nil (by kernel_rfl) (by kernel_rfl) ?_
    refine tr_ret (q_r (rg_r ?_))
    obtain rfl := Option.some.inj hM
    exact retg (names := []) .nil (by kernel_rfl)

theorem ok53 : CallOk Try.prog 53 := callOk_of Try.func53 (by kernel_rfl) (by kernel_rfl)
theorem laws_markSetFunctor_c (a0 : XSetFunctor) (a1 : Int) (r : Int × XSetFunctor) (hM : M.laws_markSetFunctor a0 a1 = some r) :
    FnC Try.prog 53 [(101, .arr 1 (a0.Shape.From.flatMap eI.o) []), (102, .arr 1 (a0.Shape.To.flatMap eI.o) []), (103, .arr 1 (a0.Shape.Identity.flatMap eI.o) []), (104, .arr 1 (a0.Shape.Composites.flatMap (eS eI).o) []), (105, .arr 1 (a0.Sizes.flatMap eI.o) []), (106, .arr 1 (a0.Actions.flatMap (eS eI).o) [])] [.agg [iv a0.Shape.Objects, .rs 101 0 a0.Shape.From.length, .rs 102 0 a0.Shape.To.length, .rs 103 0 a0.Shape.Identity.length, .rs 104 0 a0.Shape.Composites.length, .rs 105 0 a0.Sizes.length, .rs 106 0 a0.Actions.length], iv a1] [(101, .arr 1 (r.2.Shape.From.flatMap eI.o) []), (102, .arr 1 (r.2.Shape.To.flatMap eI.o) []), (103, .arr 1 (r.2.Shape.Identity.flatMap eI.o) []), (104, .arr 1 (r.2.Shape.Composites.flatMap (eS eI).o) []), (105, .arr 1 (r.2.Sizes.flatMap eI.o) []), (106, .arr 1 (r.2.Actions.flatMap (eS eI).o) [])] (iv r.1) := by
  refine fnc_startG (N := 18) (np := 500) hT Try.func53 rfl rfl (by kernel_rfl) ?_
  unfold M.laws_markSetFunctor at hM
  refine tr_start (ks := [0, 2, 203, 205, 207, 209, 211, 213]) (st' := ([(0, .d (.agg (rsC 100 (eXSetFunctor.o a0)))), (2, .d (iv a1))] ++ rsS 100 (eXSetFunctor.o a0))) (by kernel_rfl) ?_
  refine tr_sr hT hm [] [2, 4, 203, 205, 207, 209, 211, 213, 2005] ([(2, .d (iv a1)), (4, .d (.rp 1002 0))] ++ rsS 100 (eXSetFunctor.o a0) ++ [bxO 2005 100 (eXSetFunctor.o a0)]) .nil (by kernel_rfl) (by kernel_rfl) ?_
  obtain ⟨v1, hv1, hM⟩ := bind_some' hM
  refine tr_sr hT hm [(3, .call [] [(101, 101), (102, 102), (103, 103), (104, 104)] [.agg [iv a0.Shape.Objects, .rs 101 0 a0.Shape.From.length, .rs 102 0 a0.Shape.To.length, .rs 103 0 a0.Shape.Identity.length, .rs 104 0 a0.Shape.Composites.length], iv a1] [(101, .arr 1 (v1.2.From.flatMap eI.o) []), (102, .arr 1 (v1.2.To.flatMap eI.o) []), (103, .arr 1 (v1.2.Identity.flatMap eI.o) []), (104, .arr 1 (v1.2.Composites.flatMap (eS eI).o) [])] (iv v1.1))] [2, 4, 203, 205, 207, 209, 211, 213, 2005] [(2, .d (iv v1.1)), (4, .d (.rp 1002 0)), (203, .r (.arr 1 (v1.2.From.flatMap eI.o) [])), (205, .r (.arr 1 (v1.2.To.flatMap eI.o) [])), (207, .r (.arr 1 (v1.2.Identity.flatMap eI.o) [])), (209, .r (.arr 1 (v1.2.Composites.flatMap (eS eI).o) [])), (211, .r (.arr 1 (a0.Sizes.flatMap eI.o) [])), (213, .r (.arr 1 (a0.Actions.flatMap (eS eI).o) [])), bxO 2005 100 (eXSetFunctor.o a0)] (cc (B := []) (ρ := [(101, 101), (102, 102), (103, 103), (104, 104)]) (rB := []) ok29 (laws_markCategory_c a0.Shape a1 _ hv1) (.cons (.aggA (.cons (.same rfl) (.cons (.pass (.rs rfl)) (.cons (.pass (.rs rfl)) (.cons (.pass (.rs rfl)) (.cons (.pass (.rs rfl)) .nil)))))) (.cons (.same rfl) .nil)) (.inl rfl) .nil) (by kernel_rfl) (by kernel_rfl) ?_
  refine Tr.by (imp_cvB (r := 1002) (sz := 1) (cells := [iv a0.Shape.Objects, .rs 101 0 a0.Shape.From.length, .rs 102 0 a0.Shape.To.length, .rs 103 0 a0.Shape.Identity.length, .rs 104 0 a0.Shape.Composites.length, .rs 105 0 a0.Sizes.length, .rs 106 0 a0.Actions.length]) (cells' := [iv a0.Shape.Objects, .rs 101 0 v1.2.From.length, .rs 102 0 a0.Shape.To.length, .rs 103 0 a0.Shape.Identity.length, .rs 104 0 a0.Shape.Composites.length, .rs 105 0 a0.Sizes.length, .rs 106 0 a0.Actions.length]) (refs := [101, 102, 103, 104, 105, 106]) (refs' := [101, 102, 103, 104, 105, 106]) (.cons (.refl _) (.cons (Sub.of_eq (congrArg (D.rs 101 0) ((M.len_markCategory hv1).2.1 : a0.Shape.From.length = v1.2.From.length))) (.cons (.refl _) (.cons (.refl _) (.cons (.refl _) (.cons (.refl _) (.cons (.refl _) .nil))))))) (by kernel_rfl) (by kernel_rfl) (by kernel_rfl)) ?_
  refine Tr.by (imp_cvB (r := 1002) (sz := 1) (cells := [iv a0.Shape.Objects, .rs 101 0 v1.2.From.length, .rs 102 0 a0.Shape.To.length, .rs 103 0 a0.Shape.Identity.length, .rs 104 0 a0.Shape.Composites.length, .rs 105 0 a0.Sizes.length, .rs 106 0 a0.Actions.length]) (cells' := [iv a0.Shape.Objects, .rs 101 0 v1.2.From.length, .rs 102 0 v1.2.To.length, .rs 103 0 a0.Shape.Identity.length, .rs 104 0 a0.Shape.Composites.length, .rs 105 0 a0.Sizes.length, .rs 106 0 a0.Actions.length]) (refs := [101, 102, 103, 104, 105, 106]) (refs' := [101, 102, 103, 104, 105, 106]) (.cons (.refl _) (.cons (.refl _) (.cons (Sub.of_eq (congrArg (D.rs 102 0) ((M.len_markCategory hv1).2.2.1 : a0.Shape.To.length = v1.2.To.length))) (.cons (.refl _) (.cons (.refl _) (.cons (.refl _) (.cons (.refl _) .nil))))))) (by kernel_rfl) (by kernel_rfl) (by kernel_rfl)) ?_
  refine Tr.by (imp_cvB (r := 1002) (sz := 1) (cells := [iv a0.Shape.Objects, .rs 101 0 v1.2.From.length, .rs 102 0 v1.2.To.length, .rs 103 0 a0.Shape.Identity.length, .rs 104 0 a0.Shape.Composites.length, .rs 105 0 a0.Sizes.length, .rs 106 0 a0.Actions.length]) (cells' := [iv a0.Shape.Objects, .rs 101 0 v1.2.From.length, .rs 102 0 v1.2.To.length, .rs 103 0 v1.2.Identity.length, .rs 104 0 a0.Shape.Composites.length, .rs 105 0 a0.Sizes.length, .rs 106 0 a0.Actions.length]) (refs := [101, 102, 103, 104, 105, 106]) (refs' := [101, 102, 103, 104, 105, 106]) (.cons (.refl _) (.cons (.refl _) (.cons (.refl _) (.cons (Sub.of_eq (congrArg (D.rs 103 0) ((M.len_markCategory hv1).2.2.2.1 : a0.Shape.Identity.length = v1.2.Identity.length))) (.cons (.refl _) (.cons (.refl _) (.cons (.refl _) .nil))))))) (by kernel_rfl) (by kernel_rfl) (by kernel_rfl)) ?_
  refine Tr.by (imp_cvB (r := 1002) (sz := 1) (cells := [iv a0.Shape.Objects, .rs 101 0 v1.2.From.length, .rs 102 0 v1.2.To.length, .rs 103 0 v1.2.Identity.length, .rs 104 0 a0.Shape.Composites.length, .rs 105 0 a0.Sizes.length, .rs 106 0 a0.Actions.length]) (cells' := [iv a0.Shape.Objects, .rs 101 0 v1.2.From.length, .rs 102 0 v1.2.To.length, .rs 103 0 v1.2.Identity.length, .rs 104 0 v1.2.Composites.length, .rs 105 0 a0.Sizes.length, .rs 106 0 a0.Actions.length]) (refs := [101, 102, 103, 104, 105, 106]) (refs' := [101, 102, 103, 104, 105, 106]) (.cons (.refl _) (.cons (.refl _) (.cons (.refl _) (.cons (.refl _) (.cons (Sub.of_eq (congrArg (D.rs 104 0) ((M.len_markCategory hv1).2.2.2.2 : a0.Shape.Composites.length = v1.2.Composites.length))) (.cons (.refl _) (.cons (.refl _) .nil))))))) (by kernel_rfl) (by kernel_rfl) (by kernel_rfl)) ?_
  obtain ⟨v2, hv2, hM⟩ := bind_some' hM
  refine tr_sr hT hm [(3, .call [] [(0, 105)] [.rs 0 0 a0.Sizes.length, iv v1.1] [(0, .arr 1 (v2.2.flatMap eI.o) [])] (iv v2.1))] [2, 4, 203, 205, 207, 209, 211, 213, 2005] [(2, .d (iv v2.1)), (4, .d (.rp 1002 0)), (203, .r (.arr 1 (v1.2.From.flatMap eI.o) [])), (205, .r (.arr 1 (v1.2.To.flatMap eI.o) [])), (207, .r (.arr 1 (v1.2.Identity.flatMap eI.o) [])), (209, .r (.arr 1 (v1.2.Composites.flatMap (eS eI).o) [])), (211, .r (.arr 1 (v2.2.flatMap eI.o) [])), (213, .r (.arr 1 (a0.Actions.flatMap (eS eI).o) [])), (2005, .r (.arr 1 [iv a0.Shape.Objects, .rs 101 0 v1.2.From.length, .rs 102 0 v1.2.To.length, .rs 103 0 v1.2.Identity.length, .rs 104 0 v1.2.Composites.length, .rs 105 0 a0.Sizes.length, .rs 106 0 a0.Actions.length] [101, 102, 103, 104, 105, 106]))] (cc (B := []) (ρ := [(0, 105)]) (rB := []) ok70 (laws_markInt64S_c a0.Sizes v1.1 _ hv2) (.cons (.pass (.rs rfl)) (.cons (.same rfl) .nil)) (.inl rfl) .nil) (by kernel_rfl) (by kernel_rfl) ?_
  refine Tr.by (imp_cvB (r := 1002) (sz := 1) (cells := [iv a0.Shape.Objects, .rs 101 0 v1.2.From.length, .rs 102 0 v1.2.To.length, .rs 103 0 v1.2.Identity.length, .rs 104 0 v1.2.Composites.length, .rs 105 0 a0.Sizes.length, .rs 106 0 a0.Actions.length]) (cells' := [iv a0.Shape.Objects, .rs 101 0 v1.2.From.length, .rs 102 0 v1.2.To.length, .rs 103 0 v1.2.Identity.length, .rs 104 0 v1.2.Composites.length, .rs 105 0 v2.2.length, .rs 106 0 a0.Actions.length]) (refs := [101, 102, 103, 104, 105, 106]) (refs' := [101, 102, 103, 104, 105, 106]) (.cons (.refl _) (.cons (.refl _) (.cons (.refl _) (.cons (.refl _) (.cons (.refl _) (.cons (Sub.of_eq (congrArg (D.rs 105 0) ((M.len_markInt64S hv2) : a0.Sizes.length = v2.2.length))) (.cons (.refl _) .nil))))))) (by kernel_rfl) (by kernel_rfl) (by kernel_rfl)) ?_
  obtain ⟨v3, hv3, hM⟩ := bind_some' hM
  refine tr_sr hT hm [(3, .call [] [(0, 106)] [.rs 0 0 a0.Actions.length, iv v2.1] [(0, .arr 1 (v3.2.flatMap (eS eI).o) [])] (iv v3.1))] [2, 203, 205, 207, 209, 211, 213] [(2, .d (iv v3.1)), (203, .r (.arr 1 (v1.2.From.flatMap eI.o) [])), (205, .r (.arr 1 (v1.2.To.flatMap eI.o) [])), (207, .r (.arr 1 (v1.2.Identity.flatMap eI.o) [])), (209, .r (.arr 1 (v1.2.Composites.flatMap (eS eI).o) [])), (211, .r (.arr 1 (v2.2.flatMap eI.o) [])), (213, .r (.arr 1 (v3.2.flatMap (eS eI).o) []))] (cc (B := []) (ρ := [(0, 106)]) (rB := []) ok71 (laws_markInt64SS_c a0.Actions v2.1 _ hv3) (.cons (.pass (.rs rfl)) (.cons (.same rfl) .nil)) (.inl rfl) .nil) (by kernel_rfl) (by kernel_rfl) ?_
  refine tr_sr hT hm [] [8, 203, 205, 207, 209, 211, 213] [(8, .d (iv v3.1)), (203, .r (.arr 1 (v1.2.From.flatMap eI.o) [])), (205, .r (.arr 1 (v1.2.To.flatMap eI.o) [])), (207, .r (.arr 1 (v1.2.Identity.flatMap eI.o) [])), (209, .r (.arr 1 (v1.2.Composites.flatMap (eS eI).o) [])), (211, .r (.arr 1 (v2.2.flatMap eI.o) [])), (213, .r (.arr 1 (v3.2.flatMap (eS eI).o) []))] .nil (by kernel_rfl) (by kernel_rfl) ?_
  refine tr_ret (rg_r ?_)
  obtain rfl := Option.some.inj hM
  exact retg (names := [101, 102, 103, 104, 105, 106]) .nil (by kernel_rfl)

end Go.Proofs.Ytggojehmbpbefaa.L10
