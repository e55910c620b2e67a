/- Walks. Printed by wip/gen. -/
import Derived.Test.YtggojehmbpbefaaGxL1W4
namespace Go.Proofs.Ytggojehmbpbefaa
open Go.Gx

theorem ok157 : CallOk Try.prog 157 := callOk_of Try.func157 (by kernel_rfl) (by kernel_rfl)
theorem impl_Functor_fits_c (a0 : XFunctor) (r : Bool) (hM : M.impl_Functor_fits a0 = some r) :
    FnC Try.prog 157 [] [.pt (eXFunctor.b a0) 0] [] (bv r) := by
  refine fnc_startG (N := 195) (np := 500) hT Try.func157 rfl rfl (by kernel_rfl) ?_
  unfold M.impl_Functor_fits at hM
  refine tr_start (ks := [0]) (st' := [(0, .d (.pt (eXFunctor.b a0) 0))]) (by kernel_rfl) ?_
  refine tr_sr hT hm [] [0] [(0, .d (.pt (eXFunctor.b a0) 0))] .nil (by kernel_rfl) (by kernel_rfl) ?_
  refine tr_sr hT hm [] [0, 6, 8] [(0, .d (.pt (eXFunctor.b a0) 0)), (6, .d (.pt (eXFunctor.b a0) 0)), (8, .d (.pt (eXFunctor.b a0) 5))] .nil (by kernel_rfl) (by kernel_rfl) ?_
  refine tr_seq ?_
  rcases Bool.eq_false_or_eq_true ((a0.Objects.length : Int) != a0.Source.Objects) with h1 | h1
  · have hM := ite_true' hM h1
    refine tr_sr hT hm [(10, .val (bv true))] [0, 6, 8, 120] [(0, .d (.pt (eXFunctor.b a0) 0)), (6, .d (.pt (eXFunctor.b a0) 0)), (8, .d (.pt (eXFunctor.b a0) 5)), (120, .d (bv true))] (.cons (congrArg (fun b => bv b) h1) .nil) (by kernel_rfl) (by kernel_rfl) ?_
    refine tr_condT (by kernel_rfl) ?_
    refine tr_sr hT hm [] [4] [(4, .d (bv false))] .nil (by kernel_rfl) (by kernel_rfl) ?_
    refine tr_ret (q_r (rg_r ?_))
    obtain rfl := Option.some.inj hM
    exact retg (names := []) .nil (by kernel_rfl)
  · have hM := ite_false' hM h1
    obtain ⟨v2, hv2, hM⟩ := bind_some' hM
    rcases Bool.eq_false_or_eq_true ((a0.Arrows.length : Int) != v2) with h3 | h3
    · have hM := ite_true' hM h3
      refine tr_sr hT hm [(10, .val (bv false)), (17, .call [] [] [.pt (eXCategory.b a0.Source) 0] [] (iv v2)), (20, .val (bv true))] [0, 6, 8, 120] [(0, .d (.pt (eXFunctor.b a0) 0)), (6, .d (.pt (eXFunctor.b a0) 0)), (8, .d (.pt (eXFunctor.b a0) 5)), (120, .d (bv true))] (.cons (congrArg (fun b => bv b) h1) (cc (B := []) (ρ := []) (rB := []) ok160 (impl_Category_arrows_c a0.Source _ hv2) (.cons (.pass (.ptk (ds := eXFunctor.b a0) (ds' := eXCategory.b a0.Source) (off := 0) (n := 5) (by kernel_rfl) (by kernel_rfl) (by kernel_rfl))) .nil) (.inl rfl) (.cons (congrArg (fun b => bv b) h3) .nil))) (by kernel_rfl) (by kernel_rfl) ?_
      refine tr_condT (by kernel_rfl) ?_
      refine tr_sr hT hm [] [4] [(4, .d (bv false))] .nil (by kernel_rfl) (by kernel_rfl) ?_
      refine tr_ret (q_r (rg_r ?_))
      obtain rfl := Option.some.inj hM
      exact retg (names := []) .nil (by kernel_rfl)
    · have hM := ite_false' hM h3
      obtain ⟨v4, hv4, hM⟩ := bind_some' hM
      rcases Bool.eq_false_or_eq_true v4 with h5 | h5
      · have hM := ite_true' hM h5
        obtain ⟨v6, hv6, hM⟩ := bind_some' hM
        obtain ⟨v7, hv7, hM⟩ := bind_some' hM
        refine tr_sr hT hm [(10, .val (bv false)), (17, .call [] [] [.pt (eXCategory.b a0.Source) 0] [] (iv v2)), (20, .val (bv false)), (29, .call [] [] [.sl a0.Objects.length 0 (a0.Objects.flatMap eI.b), iv a0.Target.Objects] [] (bv v4)), (32, .val (bv false)), (38, .call [] [] [.pt (eXCategory.b a0.Target) 0] [] (iv v6)), (39, .call [] [] [.sl a0.Arrows.length 0 (a0.Arrows.flatMap eI.b), iv v6] [] (bv v7))] [0, 6, 8, 120] [(0, .d (.pt (eXFunctor.b a0) 0)), (6, .d (.pt (eXFunctor.b a0) 0)), (8, .d (.pt (eXFunctor.b a0) 5)), (120, .d (bv (!v7)))] (.cons (congrArg (fun b => bv b) h1) (cc (B := []) (ρ := []) (rB := []) ok160 (impl_Category_arrows_c a0.Source _ hv2) (.cons (.pass (.ptk (ds := eXFunctor.b a0) (ds' := eXCategory.b a0.Source) (off := 0) (n := 5) (by kernel_rfl) (by kernel_rfl) (by kernel_rfl))) .nil) (.inl rfl) (.cons (congrArg (fun b => bv b) h3) (cc0 ok159 (impl_within_c a0.Objects a0.Target.Objects _ hv4) (by kernel_rfl) (.cons (congrArg (fun b => bv b) (congrArg not h5)) (cc (B := []) (ρ := []) (rB := []) ok160 (impl_Category_arrows_c a0.Target _ hv6) (.cons (.pass (.ptk (ds := eXFunctor.b a0) (ds' := eXCategory.b a0.Target) (off := 5) (n := 5) (by kernel_rfl) (by kernel_rfl) (by kernel_rfl))) .nil) (.inl rfl) (cc0 ok159 (impl_within_c a0.Arrows v6 _ hv7) (by kernel_rfl) .nil))))))) (by kernel_rfl) (by kernel_rfl) ?_
        rcases Bool.eq_false_or_eq_true v7 with h8 | h8
        · have hM := ite_true' hM h8
          refine tr_condFe (e := !v7) (congrArg not h8) (by kernel_rfl) ?_
          refine tr_skip (q_n ?_)
          refine tr_seq ?_
          refine tr_sr hT hm [] [0, 6, 8, 128, 130, 132] [(0, .d (.pt (eXFunctor.b a0) 0)), (6, .d (.pt (eXFunctor.b a0) 0)), (8, .d (.pt (eXFunctor.b a0) 5)), (128, .d (.sl a0.Arrows.length 0 (a0.Arrows.flatMap eI.b))), (130, .d (iv (a0.Arrows.length : Int))), (132, .d (iv 0))] .nil (by kernel_rfl) (by kernel_rfl) ?_
          refine tr_block ?_
          refine tr_iterS (fun (s9 : Int) => [(0, .d (.pt (eXFunctor.b a0) 0)), (6, .d (.pt (eXFunctor.b a0) 0)), (8, .d (.pt (eXFunctor.b a0) 5)), (128, .d (.sl a0.Arrows.length 0 (a0.Arrows.flatMap eI.b))), (130, .d (iv (a0.Arrows.length : Int))), (132, .d (iv s9))]) 0 [0, 6, 8, 128, 130, 132] (by kernel_rfl) hM ?_
          intro n12 next10 ih11 s9 hM
          refine tr_sr hT hm [] [0, 6, 8, 128, 130, 132, 134] [(0, .d (.pt (eXFunctor.b a0) 0)), (6, .d (.pt (eXFunctor.b a0) 0)), (8, .d (.pt (eXFunctor.b a0) 5)), (128, .d (.sl a0.Arrows.length 0 (a0.Arrows.flatMap eI.b))), (130, .d (iv (a0.Arrows.length : Int))), (132, .d (iv s9)), (134, .d (bv (decide (s9 < (a0.Arrows.length : Int)))))] .nil (by kernel_rfl) (by kernel_rfl) ?_
          refine tr_seq ?_
          rcases Bool.eq_false_or_eq_true (decide (s9 < (a0.Arrows.length : Int))) with h13 | h13
          · have hM := ite_true' hM h13
            refine tr_condTe (e := decide (s9 < (a0.Arrows.length : Int))) h13 (by kernel_rfl) ?_
            refine tr_skip (q_n ?_)
            refine tr_seq ?_
            refine tr_block ?_
            obtain ⟨y14, hy14, hM⟩ := bind_some' hM
            have hy14' := idx_some hy14
            refine tr_sr hT hm [(2, .val (iv y14))] [0, 6, 8, 10, 12, 128, 130, 132] [(0, .d (.pt (eXFunctor.b a0) 0)), (6, .d (.pt (eXFunctor.b a0) 0)), (8, .d (.pt (eXFunctor.b a0) 5)), (10, .d (iv s9)), (12, .d (iv y14)), (128, .d (.sl a0.Arrows.length 0 (a0.Arrows.flatMap eI.b))), (130, .d (iv (a0.Arrows.length : Int))), (132, .d (iv s9))] (.cons hy14'.1 (.cons hy14'.2.1 (.cons (at_b0 eI_ok hy14'.2.2 (d := iv y14) (by kernel_rfl)) .nil))) (by kernel_rfl) (by kernel_rfl) ?_
            obtain ⟨y15, hy15, hM⟩ := bind_some' hM
            have hy15' := idx_some hy15
            obtain ⟨y16, hy16, hM⟩ := bind_some' hM
            have hy16' := idx_some hy16
            obtain ⟨y17, hy17, hM⟩ := bind_some' hM
            have hy17' := idx_some hy17
            rcases Bool.eq_false_or_eq_true (y15 != y17) with h18 | h18
            · have hM := ite_true' hM h18
              refine tr_sr hT hm [(6, .val (iv y15)), (17, .val (iv y16)), (19, .val (iv y17)), (21, .val (bv true))] [0, 6, 8, 128, 130, 132, 228] [(0, .d (.pt (eXFunctor.b a0) 0)), (6, .d (.pt (eXFunctor.b a0) 0)), (8, .d (.pt (eXFunctor.b a0) 5)), (128, .d (.sl a0.Arrows.length 0 (a0.Arrows.flatMap eI.b))), (130, .d (iv (a0.Arrows.length : Int))), (132, .d (iv s9)), (228, .d (bv true))] (.cons hy15'.1 (.cons hy15'.2.1 (.cons (at_b0 eI_ok hy15'.2.2 (d := iv y15) (by kernel_rfl)) (.cons hy16'.1 (.cons hy16'.2.1 (.cons (at_b0 eI_ok hy16'.2.2 (d := iv y16) (by kernel_rfl)) (.cons hy17'.1 (.cons hy17'.2.1 (.cons (at_b0 eI_ok hy17'.2.2 (d := iv y17) (by kernel_rfl)) (.cons (congrArg (fun b => bv b) h18) .nil)))))))))) (by kernel_rfl) (by kernel_rfl) ?_
              refine tr_condT (by kernel_rfl) ?_
              refine tr_sr hT hm [] [4] [(4, .d (bv false))] .nil (by kernel_rfl) (by kernel_rfl) ?_
              refine tr_ret (b_r (q_r (l_r (b_r (q_r (rg_r ?_))))))
              obtain rfl := Option.some.inj hM
              exact retg (names := []) .nil (by kernel_rfl)
            · have hM := ite_false' hM h18
              obtain ⟨y19, hy19, hM⟩ := bind_some' hM
              have hy19' := idx_some hy19
              obtain ⟨y20, hy20, hM⟩ := bind_some' hM
              have hy20' := idx_some hy20
              obtain ⟨y21, hy21, hM⟩ := bind_some' hM
              have hy21' := idx_some hy21
              refine tr_sr hT hm [(6, .val (iv y15)), (17, .val (iv y16)), (19, .val (iv y17)), (21, .val (bv false)), (28, .val (iv y19)), (39, .val (iv y20)), (41, .val (iv y21))] [0, 6, 8, 128, 130, 132, 186, 188, 190, 192, 194, 196, 198, 200, 202, 204, 206, 208, 210, 212, 214, 216, 218, 220, 222, 224, 226, 228] [(0, .d (.pt (eXFunctor.b a0) 0)), (6, .d (.pt (eXFunctor.b a0) 0)), (8, .d (.pt (eXFunctor.b a0) 5)), (128, .d (.sl a0.Arrows.length 0 (a0.Arrows.flatMap eI.b))), (130, .d (iv (a0.Arrows.length : Int))), (132, .d (iv s9)), (186, .d (.pt (eXFunctor.b a0) 5)), (188, .d (.pt (eXFunctor.b a0) 5)), (190, .d (.pt (eXFunctor.b a0) 7)), (192, .d (.sl a0.Target.To.length 0 (a0.Target.To.flatMap eI.b))), (194, .d (iv y14)), (196, .d (.pt (a0.Target.To.flatMap eI.b) (0 + y14.toNat * 1))), (198, .d (iv y19)), (200, .d (.pt (eXFunctor.b a0) 0)), (202, .d (.pt (eXFunctor.b a0) 0)), (204, .d (.pt (eXFunctor.b a0) 10)), (206, .d (.sl a0.Objects.length 0 (a0.Objects.flatMap eI.b))), (208, .d (.pt (eXFunctor.b a0) 0)), (210, .d (.pt (eXFunctor.b a0) 0)), (212, .d (.pt (eXFunctor.b a0) 2)), (214, .d (.sl a0.Source.To.length 0 (a0.Source.To.flatMap eI.b))), (216, .d (iv s9)), (218, .d (.pt (a0.Source.To.flatMap eI.b) (0 + s9.toNat * 1))), (220, .d (iv y20)), (222, .d (.pt (a0.Objects.flatMap eI.b) (0 + y20.toNat * 1))), (224, .d (iv y21)), (226, .d (bv (y19 != y21))), (228, .d (bv (y19 != y21)))] (.cons hy15'.1 (.cons hy15'.2.1 (.cons (at_b0 eI_ok hy15'.2.2 (d := iv y15) (by kernel_rfl)) (.cons hy16'.1 (.cons hy16'.2.1 (.cons (at_b0 eI_ok hy16'.2.2 (d := iv y16) (by kernel_rfl)) (.cons hy17'.1 (.cons hy17'.2.1 (.cons (at_b0 eI_ok hy17'.2.2 (d := iv y17) (by kernel_rfl)) (.cons (congrArg (fun b => bv b) h18) (.cons hy19'.1 (.cons hy19'.2.1 (.cons (at_b0 eI_ok hy19'.2.2 (d := iv y19) (by kernel_rfl)) (.cons hy20'.1 (.cons hy20'.2.1 (.cons (at_b0 eI_ok hy20'.2.2 (d := iv y20) (by kernel_rfl)) (.cons hy21'.1 (.cons hy21'.2.1 (.cons (at_b0 eI_ok hy21'.2.2 (d := iv y21) (by kernel_rfl)) .nil))))))))))))))))))) (by kernel_rfl) (by kernel_rfl) ?_
              rcases Bool.eq_false_or_eq_true (y19 != y21) with h22 | h22
              · have hM := ite_true' hM h22
                refine tr_condTe (e := y19 != y21) h22 (by kernel_rfl) ?_
                refine tr_sr hT hm [] [4] [(4, .d (bv false))] .nil (by kernel_rfl) (by kernel_rfl) ?_
                refine tr_ret (b_r (q_r (l_r (b_r (q_r (rg_r ?_))))))
                obtain rfl := Option.some.inj hM
                exact retg (names := []) .nil (by kernel_rfl)
              · have hM := ite_false' hM h22
                refine tr_condFe (e := y19 != y21) h22 (by kernel_rfl) ?_
                refine tr_skip (b_n (q_n ?_))
                refine tr_r hT hm [] [0, 6, 8, 128, 130, 132, 186, 188, 190, 192, 194, 196, 198, 200, 202, 204, 206, 208, 210, 212, 214, 216, 218, 220, 222, 224, 226] [(0, .d (.pt (eXFunctor.b a0) 0)), (6, .d (.pt (eXFunctor.b a0) 0)), (8, .d (.pt (eXFunctor.b a0) 5)), (128, .d (.sl a0.Arrows.length 0 (a0.Arrows.flatMap eI.b))), (130, .d (iv (a0.Arrows.length : Int))), (132, .d (iv (IntKind.i64.wrap (s9 + 1)))), (186, .d (.pt (eXFunctor.b a0) 5)), (188, .d (.pt (eXFunctor.b a0) 5)), (190, .d (.pt (eXFunctor.b a0) 7)), (192, .d (.sl a0.Target.To.length 0 (a0.Target.To.flatMap eI.b))), (194, .d (iv y14)), (196, .d (.pt (a0.Target.To.flatMap eI.b) (0 + y14.toNat * 1))), (198, .d (iv y19)), (200, .d (.pt (eXFunctor.b a0) 0)), (202, .d (.pt (eXFunctor.b a0) 0)), (204, .d (.pt (eXFunctor.b a0) 10)), (206, .d (.sl a0.Objects.length 0 (a0.Objects.flatMap eI.b))), (208, .d (.pt (eXFunctor.b a0) 0)), (210, .d (.pt (eXFunctor.b a0) 0)), (212, .d (.pt (eXFunctor.b a0) 2)), (214, .d (.sl a0.Source.To.length 0 (a0.Source.To.flatMap eI.b))), (216, .d (iv s9)), (218, .d (.pt (a0.Source.To.flatMap eI.b) (0 + s9.toNat * 1))), (220, .d (iv y20)), (222, .d (.pt (a0.Objects.flatMap eI.b) (0 + y20.toNat * 1))), (224, .d (iv y21)), (226, .d (bv (y19 != y21)))] .nil (by kernel_rfl) (by kernel_rfl) (l_n ?_)
                exact trl_start (ks := [0, 6, 8, 128, 130, 132]) (by kernel_rfl) (ih11 (IntKind.i64.wrap (s9 + 1)) hM)
          · have hM := ite_false' hM h13
            refine tr_condFe (e := decide (s9 < (a0.Arrows.length : Int))) h13 (by kernel_rfl) ?_
            refine tr_exit (q_x (l_x (b_h (q_n ?_))))
            refine tr_seq ?_
            refine tr_sr hT hm [] [0, 6, 8, 238, 240, 242] [(0, .d (.pt (eXFunctor.b a0) 0)), (6, .d (.pt (eXFunctor.b a0) 0)), (8, .d (.pt (eXFunctor.b a0) 5)), (238, .d (.sl a0.Source.Identity.length 0 (a0.Source.Identity.flatMap eI.b))), (240, .d (iv (a0.Source.Identity.length : Int))), (242, .d (iv 0))] .nil (by kernel_rfl) (by kernel_rfl) ?_
            refine tr_block ?_
            refine tr_iterS (fun (s23 : Int) => [(0, .d (.pt (eXFunctor.b a0) 0)), (6, .d (.pt (eXFunctor.b a0) 0)), (8, .d (.pt (eXFunctor.b a0) 5)), (238, .d (.sl a0.Source.Identity.length 0 (a0.Source.Identity.flatMap eI.b))), (240, .d (iv (a0.Source.Identity.length : Int))), (242, .d (iv s23))]) 0 [0, 6, 8, 238, 240, 242] (by kernel_rfl) hM ?_
            intro n26 next24 ih25 s23 hM
            refine tr_sr hT hm [] [0, 6, 8, 238, 240, 242, 244] [(0, .d (.pt (eXFunctor.b a0) 0)), (6, .d (.pt (eXFunctor.b a0) 0)), (8, .d (.pt (eXFunctor.b a0) 5)), (238, .d (.sl a0.Source.Identity.length 0 (a0.Source.Identity.flatMap eI.b))), (240, .d (iv (a0.Source.Identity.length : Int))), (242, .d (iv s23)), (244, .d (bv (decide (s23 < (a0.Source.Identity.length : Int)))))] .nil (by kernel_rfl) (by kernel_rfl) ?_
            refine tr_seq ?_
            rcases Bool.eq_false_or_eq_true (decide (s23 < (a0.Source.Identity.length : Int))) with h27 | h27
            · have hM := ite_true' hM h27
              refine tr_condTe (e := decide (s23 < (a0.Source.Identity.length : Int))) h27 (by kernel_rfl) ?_
              refine tr_skip (q_n ?_)
              refine tr_seq ?_
              refine tr_block ?_
              obtain ⟨y28, hy28, hM⟩ := bind_some' hM
              have hy28' := idx_some hy28
              refine tr_sr hT hm [(2, .val (iv y28))] [0, 6, 8, 14, 16, 238, 240, 242] [(0, .d (.pt (eXFunctor.b a0) 0)), (6, .d (.pt (eXFunctor.b a0) 0)), (8, .d (.pt (eXFunctor.b a0) 5)), (14, .d (iv s23)), (16, .d (iv y28)), (238, .d (.sl a0.Source.Identity.length 0 (a0.Source.Identity.flatMap eI.b))), (240, .d (iv (a0.Source.Identity.length : Int))), (242, .d (iv s23))] (.cons hy28'.1 (.cons hy28'.2.1 (.cons (at_b0 eI_ok hy28'.2.2 (d := iv y28) (by kernel_rfl)) .nil))) (by kernel_rfl) (by kernel_rfl) ?_
              obtain ⟨y29, hy29, hM⟩ := bind_some' hM
              have hy29' := idx_some hy29
              obtain ⟨y30, hy30, hM⟩ := bind_some' hM
              have hy30' := idx_some hy30
              obtain ⟨y31, hy31, hM⟩ := bind_some' hM
              have hy31' := idx_some hy31
              refine tr_sr hT hm [(6, .val (iv y29)), (17, .val (iv y30)), (19, .val (iv y31))] [0, 6, 8, 238, 240, 242, 292] [(0, .d (.pt (eXFunctor.b a0) 0)), (6, .d (.pt (eXFunctor.b a0) 0)), (8, .d (.pt (eXFunctor.b a0) 5)), (238, .d (.sl a0.Source.Identity.length 0 (a0.Source.Identity.flatMap eI.b))), (240, .d (iv (a0.Source.Identity.length : Int))), (242, .d (iv s23)), (292, .d (bv (y29 != y31)))] (.cons hy29'.1 (.cons hy29'.2.1 (.cons (at_b0 eI_ok hy29'.2.2 (d := iv y29) (by kernel_rfl)) (.cons hy30'.1 (.cons hy30'.2.1 (.cons (at_b0 eI_ok hy30'.2.2 (d := iv y30) (by kernel_rfl)) (.cons hy31'.1 (.cons hy31'.2.1 (.cons (at_b0 eI_ok hy31'.2.2 (d := iv y31) (by kernel_rfl)) .nil))))))))) (by kernel_rfl) (by kernel_rfl) ?_
              rcases Bool.eq_false_or_eq_true (y29 != y31) with h32 | h32
              · have hM := ite_true' hM h32
                refine tr_condTe (e := y29 != y31) h32 (by kernel_rfl) ?_
                refine tr_sr hT hm [] [4] [(4, .d (bv false))] .nil (by kernel_rfl) (by kernel_rfl) ?_
                refine tr_ret (b_r (q_r (l_r (b_r (q_r (rg_r ?_))))))
                obtain rfl := Option.some.inj hM
                exact retg (names := []) .nil (by kernel_rfl)
              · have hM := ite_false' hM h32
                refine tr_condFe (e := y29 != y31) h32 (by kernel_rfl) ?_
                refine tr_skip (b_n (q_n ?_))
                refine tr_r hT hm [] [0, 6, 8, 238, 240, 242] [(0, .d (.pt (eXFunctor.b a0) 0)), (6, .d (.pt (eXFunctor.b a0) 0)), (8, .d (.pt (eXFunctor.b a0) 5)), (238, .d (.sl a0.Source.Identity.length 0 (a0.Source.Identity.flatMap eI.b))), (240, .d (iv (a0.Source.Identity.length : Int))), (242, .d (iv (IntKind.i64.wrap (s23 + 1))))] .nil (by kernel_rfl) (by kernel_rfl) (l_n ?_)
                exact trl_start (ks := [0, 6, 8, 238, 240, 242]) (by kernel_rfl) (ih25 (IntKind.i64.wrap (s23 + 1)) hM)
            · have hM := ite_false' hM h27
              refine tr_condFe (e := decide (s23 < (a0.Source.Identity.length : Int))) h27 (by kernel_rfl) ?_
              refine tr_exit (q_x (l_x (b_h (q_n ?_))))
              refine tr_seq ?_
              refine tr_sr hT hm [] [0, 8, 302, 304, 306] [(0, .d (.pt (eXFunctor.b a0) 0)), (8, .d (.pt (eXFunctor.b a0) 5)), (302, .d (.sl a0.Source.Composites.length 0 (a0.Source.Composites.flatMap (eS eI).b))), (304, .d (iv (a0.Source.Composites.length : Int))), (306, .d (iv 0))] .nil (by kernel_rfl) (by kernel_rfl) ?_
              refine tr_block ?_
              refine tr_iterS (fun (s33 : Int) => [(0, .d (.pt (eXFunctor.b a0) 0)), (8, .d (.pt (eXFunctor.b a0) 5)), (302, .d (.sl a0.Source.Composites.length 0 (a0.Source.Composites.flatMap (eS eI).b))), (304, .d (iv (a0.Source.Composites.length : Int))), (306, .d (iv s33))]) 0 [0, 8, 302, 304, 306] (by kernel_rfl) hM ?_
              intro n36 next34 ih35 s33 hM
              refine tr_sr hT hm [] [0, 8, 302, 304, 306, 308] [(0, .d (.pt (eXFunctor.b a0) 0)), (8, .d (.pt (eXFunctor.b a0) 5)), (302, .d (.sl a0.Source.Composites.length 0 (a0.Source.Composites.flatMap (eS eI).b))), (304, .d (iv (a0.Source.Composites.length : Int))), (306, .d (iv s33)), (308, .d (bv (decide (s33 < (a0.Source.Composites.length : Int)))))] .nil (by kernel_rfl) (by kernel_rfl) ?_
              refine tr_seq ?_
              rcases Bool.eq_false_or_eq_true (decide (s33 < (a0.Source.Composites.length : Int))) with h37 | h37
              · have hM := ite_true' hM h37
                refine tr_condTe (e := decide (s33 < (a0.Source.Composites.length : Int))) h37 (by kernel_rfl) ?_
                refine tr_skip (q_n ?_)
                refine tr_seq ?_
                refine tr_block ?_
                obtain ⟨y38, hy38, hM⟩ := bind_some' hM
                have hy38' := idx_some hy38
                refine tr_sr hT hm [(2, .val (.sl y38.length 0 (y38.flatMap eI.b)))] [0, 8, 18, 20, 302, 304, 306] [(0, .d (.pt (eXFunctor.b a0) 0)), (8, .d (.pt (eXFunctor.b a0) 5)), (18, .d (iv s33)), (20, .d (.sl y38.length 0 (y38.flatMap eI.b))), (302, .d (.sl a0.Source.Composites.length 0 (a0.Source.Composites.flatMap (eS eI).b))), (304, .d (iv (a0.Source.Composites.length : Int))), (306, .d (iv s33))] (.cons hy38'.1 (.cons hy38'.2.1 (.cons (at_b0 (eS_ok eI_ok) hy38'.2.2 (d := .sl y38.length 0 (y38.flatMap eI.b)) (by kernel_rfl)) .nil))) (by kernel_rfl) (by kernel_rfl) ?_
                refine tr_sr hT hm [] [0, 8, 18, 302, 304, 306, 316, 318, 320] [(0, .d (.pt (eXFunctor.b a0) 0)), (8, .d (.pt (eXFunctor.b a0) 5)), (18, .d (iv s33)), (302, .d (.sl a0.Source.Composites.length 0 (a0.Source.Composites.flatMap (eS eI).b))), (304, .d (iv (a0.Source.Composites.length : Int))), (306, .d (iv s33)), (316, .d (.sl y38.length 0 (y38.flatMap eI.b))), (318, .d (iv (y38.length : Int))), (320, .d (iv 0))] .nil (by kernel_rfl) (by kernel_rfl) ?_
                refine tr_block ?_
                refine tr_iterS (fun (s39 : Int) => [(0, .d (.pt (eXFunctor.b a0) 0)), (8, .d (.pt (eXFunctor.b a0) 5)), (18, .d (iv s33)), (302, .d (.sl a0.Source.Composites.length 0 (a0.Source.Composites.flatMap (eS eI).b))), (304, .d (iv (a0.Source.Composites.length : Int))), (306, .d (iv s33)), (316, .d (.sl y38.length 0 (y38.flatMap eI.b))), (318, .d (iv (y38.length : Int))), (320, .d (iv s39))]) 0 [0, 8, 18, 302, 304, 306, 316, 318, 320] (by kernel_rfl) hM ?_
                intro n42 next40 ih41 s39 hM
                refine tr_sr hT hm [] [0, 8, 18, 302, 304, 306, 316, 318, 320, 322] [(0, .d (.pt (eXFunctor.b a0) 0)), (8, .d (.pt (eXFunctor.b a0) 5)), (18, .d (iv s33)), (302, .d (.sl a0.Source.Composites.length 0 (a0.Source.Composites.flatMap (eS eI).b))), (304, .d (iv (a0.Source.Composites.length : Int))), (306, .d (iv s33)), (316, .d (.sl y38.length 0 (y38.flatMap eI.b))), (318, .d (iv (y38.length : Int))), (320, .d (iv s39)), (322, .d (bv (decide (s39 < (y38.length : Int)))))] .nil (by kernel_rfl) (by kernel_rfl) ?_
                refine tr_seq ?_
                rcases Bool.eq_false_or_eq_true (decide (s39 < (y38.length : Int))) with h43 | h43
                · have hM := ite_true' hM h43
                  refine tr_condTe (e := decide (s39 < (y38.length : Int))) h43 (by kernel_rfl) ?_
                  refine tr_skip (q_n ?_)
                  refine tr_seq ?_
                  refine tr_block ?_
                  obtain ⟨y44, hy44, hM⟩ := bind_some' hM
                  have hy44' := idx_some hy44
                  refine tr_sr hT hm [(2, .val (iv y44))] [0, 8, 18, 22, 24, 302, 304, 306, 316, 318, 320] [(0, .d (.pt (eXFunctor.b a0) 0)), (8, .d (.pt (eXFunctor.b a0) 5)), (18, .d (iv s33)), (22, .d (iv s39)), (24, .d (iv y44)), (302, .d (.sl a0.Source.Composites.length 0 (a0.Source.Composites.flatMap (eS eI).b))), (304, .d (iv (a0.Source.Composites.length : Int))), (306, .d (iv s33)), (316, .d (.sl y38.length 0 (y38.flatMap eI.b))), (318, .d (iv (y38.length : Int))), (320, .d (iv s39))] (.cons hy44'.1 (.cons hy44'.2.1 (.cons (at_b0 eI_ok hy44'.2.2 (d := iv y44) (by kernel_rfl)) .nil))) (by kernel_rfl) (by kernel_rfl) ?_
                  rcases Bool.eq_false_or_eq_true (decide (y44 ≥ 0)) with h45 | h45
                  · have hM := ite_true' hM h45
                    obtain ⟨y46, hy46, hM⟩ := bind_some' hM
                    have hy46' := idx_some hy46
                    obtain ⟨y47, hy47, hM⟩ := bind_some' hM
                    have hy47' := idx_some hy47
                    obtain ⟨y48, hy48, hM⟩ := bind_some' hM
                    have hy48' := idx_some hy48
                    obtain ⟨v49, hv49, hM⟩ := bind_some' hM
                    refine tr_sr hT hm [(2, .val (bv true)), (9, .val (iv y46)), (17, .val (iv y47)), (24, .val (iv y48)), (25, .call [] [] [.pt (eXCategory.b a0.Target) 0, iv y47, iv y48] [] (iv v49))] [0, 8, 18, 302, 304, 306, 316, 318, 320, 336, 338, 340, 342, 344, 346, 348, 350, 352, 354, 356, 358, 360, 362, 364, 366, 368, 370, 372, 374, 376, 378, 380, 382, 384] [(0, .d (.pt (eXFunctor.b a0) 0)), (8, .d (.pt (eXFunctor.b a0) 5)), (18, .d (iv s33)), (302, .d (.sl a0.Source.Composites.length 0 (a0.Source.Composites.flatMap (eS eI).b))), (304, .d (iv (a0.Source.Composites.length : Int))), (306, .d (iv s33)), (316, .d (.sl y38.length 0 (y38.flatMap eI.b))), (318, .d (iv (y38.length : Int))), (320, .d (iv s39)), (336, .d (.pt (eXFunctor.b a0) 0)), (338, .d (.pt (eXFunctor.b a0) 0)), (340, .d (.pt (eXFunctor.b a0) 11)), (342, .d (.sl a0.Arrows.length 0 (a0.Arrows.flatMap eI.b))), (344, .d (iv y44)), (346, .d (.pt (a0.Arrows.flatMap eI.b) (0 + y44.toNat * 1))), (348, .d (iv y46)), (350, .d (.pt (eXFunctor.b a0) 5)), (352, .d (.pt (eXFunctor.b a0) 0)), (354, .d (.pt (eXFunctor.b a0) 0)), (356, .d (.pt (eXFunctor.b a0) 11)), (358, .d (.sl a0.Arrows.length 0 (a0.Arrows.flatMap eI.b))), (360, .d (iv s33)), (362, .d (.pt (a0.Arrows.flatMap eI.b) (0 + s33.toNat * 1))), (364, .d (iv y47)), (366, .d (.pt (eXFunctor.b a0) 0)), (368, .d (.pt (eXFunctor.b a0) 0)), (370, .d (.pt (eXFunctor.b a0) 11)), (372, .d (.sl a0.Arrows.length 0 (a0.Arrows.flatMap eI.b))), (374, .d (iv s39)), (376, .d (.pt (a0.Arrows.flatMap eI.b) (0 + s39.toNat * 1))), (378, .d (iv y48)), (380, .d (iv v49)), (382, .d (bv (y46 != v49))), (384, .d (bv (y46 != v49)))] (.cons (congrArg (fun b => bv b) h45) (.cons hy46'.1 (.cons hy46'.2.1 (.cons (at_b0 eI_ok hy46'.2.2 (d := iv y46) (by kernel_rfl)) (.cons hy47'.1 (.cons hy47'.2.1 (.cons (at_b0 eI_ok hy47'.2.2 (d := iv y47) (by kernel_rfl)) (.cons hy48'.1 (.cons hy48'.2.1 (.cons (at_b0 eI_ok hy48'.2.2 (d := iv y48) (by kernel_rfl)) (cc (B := []) (ρ := []) (rB := []) ok162 (impl_Category_then_c a0.Target y47 y48 _ hv49) (.cons (.pass (.ptk (ds := eXFunctor.b a0) (ds' := eXCategory.b a0.Target) (off := 5) (n := 5) (by kernel_rfl) (by kernel_rfl) (by kernel_rfl))) (.cons (.same rfl) (.cons (.same rfl) .nil))) (.inl rfl) .nil))))))))))) (by kernel_rfl) (by kernel_rfl) ?_
                    rcases Bool.eq_false_or_eq_true (y46 != v49) with h50 | h50
                    · have hM := ite_true' hM h50
                      refine tr_condTe (e := y46 != v49) h50 (by kernel_rfl) ?_
                      refine tr_sr hT hm [] [4] [(4, .d (bv false))] .nil (by kernel_rfl) (by kernel_rfl) ?_
                      refine tr_ret (b_r (q_r (l_r (b_r (b_r (q_r (l_r (b_r (q_r (rg_r ?_))))))))))
                      obtain rfl := Option.some.inj hM
                      exact retg (names := []) .nil (by kernel_rfl)
                    · have hM := ite_false' hM h50
                      refine tr_condFe (e := y46 != v49) h50 (by kernel_rfl) ?_
                      refine tr_skip (b_n (q_n ?_))
                      refine tr_r hT hm [] [0, 8, 18, 302, 304, 306, 316, 318, 320, 336, 338, 340, 342, 344, 346, 348, 350, 352, 354, 356, 358, 360, 362, 364, 366, 368, 370, 372, 374, 376, 378, 380, 382] [(0, .d (.pt (eXFunctor.b a0) 0)), (8, .d (.pt (eXFunctor.b a0) 5)), (18, .d (iv s33)), (302, .d (.sl a0.Source.Composites.length 0 (a0.Source.Composites.flatMap (eS eI).b))), (304, .d (iv (a0.Source.Composites.length : Int))), (306, .d (iv s33)), (316, .d (.sl y38.length 0 (y38.flatMap eI.b))), (318, .d (iv (y38.length : Int))), (320, .d (iv (IntKind.i64.wrap (s39 + 1)))), (336, .d (.pt (eXFunctor.b a0) 0)), (338, .d (.pt (eXFunctor.b a0) 0)), (340, .d (.pt (eXFunctor.b a0) 11)), (342, .d (.sl a0.Arrows.length 0 (a0.Arrows.flatMap eI.b))), (344, .d (iv y44)), (346, .d (.pt (a0.Arrows.flatMap eI.b) (0 + y44.toNat * 1))), (348, .d (iv y46)), (350, .d (.pt (eXFunctor.b a0) 5)), (352, .d (.pt (eXFunctor.b a0) 0)), (354, .d (.pt (eXFunctor.b a0) 0)), (356, .d (.pt (eXFunctor.b a0) 11)), (358, .d (.sl a0.Arrows.length 0 (a0.Arrows.flatMap eI.b))), (360, .d (iv s33)), (362, .d (.pt (a0.Arrows.flatMap eI.b) (0 + s33.toNat * 1))), (364, .d (iv y47)), (366, .d (.pt (eXFunctor.b a0) 0)), (368, .d (.pt (eXFunctor.b a0) 0)), (370, .d (.pt (eXFunctor.b a0) 11)), (372, .d (.sl a0.Arrows.length 0 (a0.Arrows.flatMap eI.b))), (374, .d (iv s39)), (376, .d (.pt (a0.Arrows.flatMap eI.b) (0 + s39.toNat * 1))), (378, .d (iv y48)), (380, .d (iv v49)), (382, .d (bv (y46 != v49)))] .nil (by kernel_rfl) (by kernel_rfl) (l_n ?_)
                      exact trl_start (ks := [0, 8, 18, 302, 304, 306, 316, 318, 320]) (by kernel_rfl) (ih41 (IntKind.i64.wrap (s39 + 1)) hM)
                  · have hM := ite_false' hM h45
                    refine tr_sr hT hm [(2, .val (bv false))] [0, 8, 18, 302, 304, 306, 316, 318, 320, 384] [(0, .d (.pt (eXFunctor.b a0) 0)), (8, .d (.pt (eXFunctor.b a0) 5)), (18, .d (iv s33)), (302, .d (.sl a0.Source.Composites.length 0 (a0.Source.Composites.flatMap (eS eI).b))), (304, .d (iv (a0.Source.Composites.length : Int))), (306, .d (iv s33)), (316, .d (.sl y38.length 0 (y38.flatMap eI.b))), (318, .d (iv (y38.length : Int))), (320, .d (iv s39)), (384, .d (bv false))] (.cons (congrArg (fun b => bv b) h45) .nil) (by kernel_rfl) (by kernel_rfl) ?_
                    refine tr_condF (by kernel_rfl) ?_
                    refine tr_skip (b_n (q_n ?_))
                    refine tr_r hT hm [] [0, 8, 18, 302, 304, 306, 316, 318, 320] [(0, .d (.pt (eXFunctor.b a0) 0)), (8, .d (.pt (eXFunctor.b a0) 5)), (18, .d (iv s33)), (302, .d (.sl a0.Source.Composites.length 0 (a0.Source.Composites.flatMap (eS eI).b))), (304, .d (iv (a0.Source.Composites.length : Int))), (306, .d (iv s33)), (316, .d (.sl y38.length 0 (y38.flatMap eI.b))), (318, .d (iv (y38.length : Int))), (320, .d (iv (IntKind.i64.wrap (s39 + 1))))] .nil (by kernel_rfl) (by kernel_rfl) (l_n ?_)
                    exact trl_start (ks := [0, 8, 18, 302, 304, 306, 316, 318, 320]) (by kernel_rfl) (ih41 (IntKind.i64.wrap (s39 + 1)) hM)
                · have hM := ite_false' hM h43
                  refine tr_condFe (e := decide (s39 < (y38.length : Int))) h43 (by kernel_rfl) ?_
                  refine tr_exit (q_x (l_x (b_h (b_n (q_n ?_)))))
                  refine tr_r hT hm [] [0, 8, 302, 304, 306] [(0, .d (.pt (eXFunctor.b a0) 0)), (8, .d (.pt (eXFunctor.b a0) 5)), (302, .d (.sl a0.Source.Composites.length 0 (a0.Source.Composites.flatMap (eS eI).b))), (304, .d (iv (a0.Source.Composites.length : Int))), (306, .d (iv (IntKind.i64.wrap (s33 + 1))))] .nil (by kernel_rfl) (by kernel_rfl) (l_n ?_)
                  exact trl_start (ks := [0, 8, 302, 304, 306]) (by kernel_rfl) (ih35 (IntKind.i64.wrap (s33 + 1)) hM)
              · have hM := ite_false' hM h37
                refine tr_condFe (e := decide (s33 < (a0.Source.Composites.length : Int))) h37 (by kernel_rfl) ?_
                refine tr_exit (q_x (l_x (b_h (q_n ?_))))
                refine tr_sr hT hm [] [4] [(4, .d (bv true))] .nil (by kernel_rfl) (by kernel_rfl) ?_
                refine tr_ret (rg_r ?_)
                obtain rfl := Option.some.inj hM
                exact retg (names := []) .nil (by kernel_rfl)
        · have hM := ite_false' hM h8
          refine tr_condTe (e := !v7) (congrArg not h8) (by kernel_rfl) ?_
          refine tr_sr hT hm [] [4] [(4, .d (bv false))] .nil (by kernel_rfl) (by kernel_rfl) ?_
          refine tr_ret (q_r (rg_r ?_))
          obtain rfl := Option.some.inj hM
          exact retg (names := []) .nil (by kernel_rfl)
      · have hM := ite_false' hM h5
        refine tr_sr hT hm [(10, .val (bv false)), (17, .call [] [] [.pt (eXCategory.b a0.Source) 0] [] (iv v2)), (20, .val (bv false)), (29, .call [] [] [.sl a0.Objects.length 0 (a0.Objects.flatMap eI.b), iv a0.Target.Objects] [] (bv v4)), (32, .val (bv true))] [0, 6, 8, 120] [(0, .d (.pt (eXFunctor.b a0) 0)), (6, .d (.pt (eXFunctor.b a0) 0)), (8, .d (.pt (eXFunctor.b a0) 5)), (120, .d (bv true))] (.cons (congrArg (fun b => bv b) h1) (cc (B := []) (ρ := []) (rB := []) ok160 (impl_Category_arrows_c a0.Source _ hv2) (.cons (.pass (.ptk (ds := eXFunctor.b a0) (ds' := eXCategory.b a0.Source) (off := 0) (n := 5) (by kernel_rfl) (by kernel_rfl) (by kernel_rfl))) .nil) (.inl rfl) (.cons (congrArg (fun b => bv b) h3) (cc0 ok159 (impl_within_c a0.Objects a0.Target.Objects _ hv4) (by kernel_rfl) (.cons (congrArg (fun b => bv b) (congrArg not h5)) .nil))))) (by kernel_rfl) (by kernel_rfl) ?_
        refine tr_condT (by kernel_rfl) ?_
        refine tr_sr hT hm [] [4] [(4, .d (bv false))] .nil (by kernel_rfl) (by kernel_rfl) ?_
        refine tr_ret (q_r (rg_r ?_))
        obtain rfl := Option.some.inj hM
        exact retg (names := []) .nil (by kernel_rfl)

theorem ok89 : CallOk Try.prog 89 := callOk_of Try.func89 (by kernel_rfl) (by kernel_rfl)
theorem impl_Functor_isFunctor_c (a0 : XFunctor) (r : Bool) (hM : M.impl_Functor_isFunctor a0 = some r) :
    FnC Try.prog 89 [] [.pt (eXFunctor.b a0) 0] [] (bv r) := by
  refine fnc_startG (N := 15) (np := 500) hT Try.func89 rfl rfl (by kernel_rfl) ?_
  unfold M.impl_Functor_isFunctor at hM
  refine tr_start (ks := [0]) (st' := [(0, .d (.pt (eXFunctor.b a0) 0))]) (by kernel_rfl) ?_
  refine tr_sr hT hm [] [0] [(0, .d (.pt (eXFunctor.b a0) 0))] .nil (by kernel_rfl) (by kernel_rfl) ?_
  obtain ⟨v1, hv1, hM⟩ := bind_some' hM
  rcases Bool.eq_false_or_eq_true v1 with h2 | h2
  · have hM := ite_true' hM h2
    obtain ⟨v3, hv3, hM⟩ := bind_some' hM
    refine tr_sr hT hm [(7, .call [1009] [] [.sl ([a0.Source, a0.Target] : List XCategory).length 0 (([a0.Source, a0.Target] : List XCategory).flatMap (eP eXCategory).b)] [] (bv v1)), (8, .val (bv true)), (10, .call [] [] [.pt (eXFunctor.b a0) 0] [] (bv v3))] [4] [(4, .d (bv v3))] (cc (B := [1009]) (ρ := []) (rB := [(1009, .arr 1 [.pt (eXFunctor.b a0) 0, .pt (eXFunctor.b a0) 5] [])]) ok156 (impl_areCategories_c ([a0.Source, a0.Target] : List XCategory) _ hv1) (.cons (.of1 (.rs (r := 1009) (sz := 1) (refs := []) (by decide) (by kernel_rfl) (.cons (.ptk (ds := eXFunctor.b a0) (ds' := eXCategory.b a0.Source) (off := 0) (n := 5) (by kernel_rfl) (by kernel_rfl) (by kernel_rfl)) (.cons (.ptk (ds := eXFunctor.b a0) (ds' := eXCategory.b a0.Target) (off := 5) (n := 5) (by kernel_rfl) (by kernel_rfl) (by kernel_rfl)) .nil)))) .nil) (.inr ⟨.v, trivial⟩) (.cons (congrArg (fun b => bv b) h2) (cc0 ok157 (impl_Functor_fits_c a0 _ hv3) (by kernel_rfl) .nil))) (by kernel_rfl) (by kernel_rfl) ?_
    refine tr_ret (rg_r ?_)
    obtain rfl := Option.some.inj hM
    exact retg (names := []) .nil (by kernel_rfl)
  · have hM := ite_false' hM h2
    refine tr_sr hT hm [(7, .call [1009] [] [.sl ([a0.Source, a0.Target] : List XCategory).length 0 (([a0.Source, a0.Target] : List XCategory).flatMap (eP eXCategory).b)] [] (bv v1)), (8, .val (bv false))] [4] [(4, .d (bv false))] (cc (B := [1009]) (ρ := []) (rB := [(1009, .arr 1 [.pt (eXFunctor.b a0) 0, .pt (eXFunctor.b a0) 5] [])]) ok156 (impl_areCategories_c ([a0.Source, a0.Target] : List XCategory) _ hv1) (.cons (.of1 (.rs (r := 1009) (sz := 1) (refs := []) (by decide) (by kernel_rfl) (.cons (.ptk (ds := eXFunctor.b a0) (ds' := eXCategory.b a0.Source) (off := 0) (n := 5) (by kernel_rfl) (by kernel_rfl) (by kernel_rfl)) (.cons (.ptk (ds := eXFunctor.b a0) (ds' := eXCategory.b a0.Target) (off := 5) (n := 5) (by kernel_rfl) (by kernel_rfl) (by kernel_rfl)) .nil)))) .nil) (.inr ⟨.v, trivial⟩) (.cons (congrArg (fun b => bv b) h2) .nil)) (by kernel_rfl) (by kernel_rfl) ?_
    refine tr_ret (rg_r ?_)
    obtain rfl := Option.some.inj hM
    exact retg (names := []) .nil (by kernel_rfl)

theorem ok84 : CallOk Try.prog 84 := callOk_of Try.func84 (by kernel_rfl) (by kernel_rfl)
theorem impl_asked_c (a0 : XFunctor) (f1 : Nat) (c1 : List D) (a1 : XFunctor → Option Bool) (ok1_ : CallOk Try.prog f1) (hm1 : menL c1 = []) (hf1 : ∀ x0 r, a1 x0 = some r → FnC Try.prog f1 [] ([.pt (eXFunctor.b x0) 0] ++ c1) [] (bv r)) (r : Bool × Int) (hM : M.impl_asked a0 a1 = some r) :
    FnC Try.prog 84 [] [.pt (eXFunctor.b a0) 0, .fb f1 c1] [] (.tup [bv r.1, iv r.2]) := by
  refine fnc_startG (N := 12) (np := 500) hT Try.func84 rfl rfl (by kernel_rfl) ?_
  unfold M.impl_asked at hM
  refine tr_start (ks := [0, 2]) (st' := [(0, .d (.pt (eXFunctor.b a0) 0)), (2, .d (.fb f1 c1))]) (by kernel_rfl) ?_
  refine tr_sr hT hm [] [0, 2] [(0, .d (.pt (eXFunctor.b a0) 0)), (2, .d (.fb f1 c1))] .nil (by kernel_rfl) (by kernel_rfl) ?_
  refine tr_seq ?_
  obtain ⟨v1, hv1, hM⟩ := bind_some' hM
  refine tr_sr hT hm [(1, .call [] [] [.pt (eXFunctor.b a0) 0] [] (bv v1))] [0, 2, 16] [(0, .d (.pt (eXFunctor.b a0) 0)), (2, .d (.fb f1 c1)), (16, .d (bv (!v1)))] (cc0 ok89 (impl_Functor_isFunctor_c a0 _ hv1) (by kernel_rfl) .nil) (by kernel_rfl) (by kernel_rfl) ?_
  rcases Bool.eq_false_or_eq_true v1 with h2 | h2
  · have hM := ite_true' hM h2
    refine tr_condFe (e := !v1) (congrArg not h2) (by kernel_rfl) ?_
    refine tr_skip (q_n ?_)
    obtain ⟨v3, hv3, hM⟩ := bind_some' hM
    refine tr_sr hT hm [(2, .call [] [] ([.pt (eXFunctor.b a0) 0] ++ c1) [] (bv v3))] [8, 10] [(8, .d (bv v3)), (10, .d (iv 0))] (cc0 ok1_ (hf1 a0 _ hv3) (menL_app rfl hm1) .nil) (by kernel_rfl) (by kernel_rfl) ?_
    refine tr_ret (rg_r ?_)
    obtain rfl := Option.some.inj hM
    exact retg (names := []) .nil (by kernel_rfl)
  · have hM := ite_false' hM h2
    refine tr_condTe (e := !v1) (congrArg not h2) (by kernel_rfl) ?_
    refine tr_sr hT hm [] [8, 10] [(8, .d (bv false)), (10, .d (iv 1))] .nil (by kernel_rfl) (by kernel_rfl) ?_
    refine tr_ret (q_r (rg_r ?_))
    obtain rfl := Option.some.inj hM
    exact retg (names := []) .nil (by kernel_rfl)

theorem ok169 : CallOk Try.prog 169 := callOk_of Try.func169 (by kernel_rfl) (by kernel_rfl)
theorem impl_clone_c (a0 : List Int) (r : (List Int)) (hM : M.impl_clone a0 = some r) :
    FnC Try.prog 169 [] [.sl a0.length 0 (a0.flatMap eI.b)] [] (.fr 1 r.length (r.flatMap eI.o)) := by
  refine fnc_startG (N := 6) (np := 500) hT Try.func169 rfl rfl (by kernel_rfl) ?_
  unfold M.impl_clone at hM
  refine tr_start (ks := [0]) (st' := [(0, .d (.sl a0.length 0 (a0.flatMap eI.b)))]) (by kernel_rfl) ?_
  refine tr_sr hT hm [] [0] [(0, .d (.sl a0.length 0 (a0.flatMap eI.b)))] .nil (by kernel_rfl) (by kernel_rfl) ?_
  obtain ⟨h1, hM⟩ := chk_some hM
  refine tr_sr hT hm [(2, .app false)] [4, 2011] [(4, .d (.rs 1005 0 (([] : List Int).length + a0.length))), (2011, .r (.arr 1 (([] : List Int).flatMap eI.o ++ ((a0.flatMap eI.b).drop 0).take (a0.length * 1)) []))] (.cons (lenO_flat eI_ok ([] : List Int)) (.cons (len_take eI_ok.lenB a0) (.cons h1 .nil))) (by kernel_rfl) (by kernel_rfl) ?_
  refine Tr.by (imp_cvE (r := 1005) (sz := 1) (refs := []) (app_take eI_ok.lenB (fun _ => rfl) ([] : List Int) a0) (menO_flat eI_ok _) (by kernel_rfl)) ?_
  refine Tr.by (imp_cvD (k := 4) (congrArg (D.rs 1005 0) ((len_app ([] : List Int) a0) : ([] : List Int).length + a0.length = (([] : List Int) ++ a0).length)) (by kernel_rfl)) ?_
  refine tr_ret (rg_r ?_)
  obtain rfl := Option.some.inj hM
  exact retg (names := []) (.cons (lenO_flat eI_ok (([] : List Int) ++ a0)) .nil) (by kernel_rfl)

theorem ok216 : CallOk Try.prog 216 := callOk_of Try.func216 (by kernel_rfl) (by kernel_rfl)
theorem impl_Category_table_c (a0 : XCategory) (f1 : Nat) (c1 : List D) (a1 : Int → Int → Option Int) (ok1_ : CallOk Try.prog f1) (hm1 : menL c1 = []) (hf1 : ∀ x0 x1 r, a1 x0 x1 = some r → FnC Try.prog f1 [] ([iv x0, iv x1] ++ c1) [] (iv r)) (r : XCategory) (hM : M.impl_Category_table a0 a1 = some r) :
    FnC Try.prog 216 [(0, .arr 1 [iv a0.Objects, .fr 1 a0.From.length (a0.From.flatMap eI.o), .fr 1 a0.To.length (a0.To.flatMap eI.o), .fr 1 a0.Identity.length (a0.Identity.flatMap eI.o), .fr 1 a0.Composites.length (a0.Composites.flatMap (eS eI).o)] [])] [.rp 0 0, .fb f1 c1] [(0, .arr 1 [iv r.Objects, .fr 1 r.From.length (r.From.flatMap eI.o), .fr 1 r.To.length (r.To.flatMap eI.o), .fr 1 r.Identity.length (r.Identity.flatMap eI.o), .fr 1 r.Composites.length (r.Composites.flatMap (eS eI).o)] [])] (.tup []) := by
  refine fnc_startG (N := 80) (np := 500) hT Try.func216 rfl rfl (by kernel_rfl) ?_
  unfold M.impl_Category_table at hM
  refine tr_start (ks := [0, 1, 2]) (st' := [(0, .d (.rp 0 0)), (1, .r (.arr 1 [iv a0.Objects, .fr 1 a0.From.length (a0.From.flatMap eI.o), .fr 1 a0.To.length (a0.To.flatMap eI.o), .fr 1 a0.Identity.length (a0.Identity.flatMap eI.o), .fr 1 a0.Composites.length (a0.Composites.flatMap (eS eI).o)] [])), (2, .d (.fb f1 c1))]) (by kernel_rfl) ?_
  obtain ⟨v1, hv1, hM⟩ := bind_some' hM
  refine tr_sr hT hm [(1, .call [0] [] [.pt (eXCategory.b a0) 0] [] (iv v1))] [0, 1, 2, 8] [(0, .d (.rp 0 0)), (1, .r (.arr 1 [iv a0.Objects, .fr 1 a0.From.length (a0.From.flatMap eI.o), .fr 1 a0.To.length (a0.To.flatMap eI.o), .fr 1 a0.Identity.length (a0.Identity.flatMap eI.o), .fr 1 a0.Composites.length (a0.Composites.flatMap (eS eI).o)] [])), (2, .d (.fb f1 c1)), (8, .d (iv v1))] (cc (B := [0]) (ρ := []) (rB := [(0, .arr 1 [iv a0.Objects, .fr 1 a0.From.length (a0.From.flatMap eI.o), .fr 1 a0.To.length (a0.To.flatMap eI.o), .fr 1 a0.Identity.length (a0.Identity.flatMap eI.o), .fr 1 a0.Composites.length (a0.Composites.flatMap (eS eI).o)] [])]) ok160 (impl_Category_arrows_c a0 _ hv1) (.cons (.of1 (.rp (r := 0) (sz := 1) (refs := []) (by decide) (by kernel_rfl) (.cons .v (.cons (.fr (sz := 1) (bor_flat eI_ok _ _ _)) (.cons (.fr (sz := 1) (bor_flat eI_ok _ _ _)) (.cons (.fr (sz := 1) (bor_flat eI_ok _ _ _)) (.cons (.fr (sz := 1) (bor_flat (eS_ok eI_ok) _ _ _)) .nil))))))) .nil) (.inr ⟨.v, trivial⟩) .nil) (by kernel_rfl) (by kernel_rfl) ?_
  obtain ⟨h2, hM⟩ := chk_some hM
  refine tr_sr hT hm [] [0, 1, 2, 8, 2023] [(0, .d (.rp 0 0)), (1, .r (.arr 1 [iv a0.Objects, .fr 1 a0.From.length (a0.From.flatMap eI.o), .fr 1 a0.To.length (a0.To.flatMap eI.o), .fr 1 a0.Identity.length (a0.Identity.flatMap eI.o), .rs 1011 0 v1.toNat] [1011])), (2, .d (.fb f1 c1)), (8, .d (iv v1)), (2023, .r (.arr 1 (repl v1.toNat [.slice .none 0 0]) []))] (.cons h2.1 (.cons (Int.le_refl v1) (.cons h2.2 (.cons (Nat.le_of_ble_eq_true (n := 5) (m := 5) rfl) .nil)))) (by kernel_rfl) (by kernel_rfl) ?_
  refine Tr.by (imp_cvL (r := 1011) (sz := 1) (refs := []) (subl_repl (f := (eS eI).o) (zs := [.slice .none 0 0]) (z := ([] : List Int)) (.cons Sub.nil_fr .nil) v1.toNat) (repl_hl (by kernel_rfl)) (menO_flat (eS_ok eI_ok) _) (by kernel_rfl)) ?_
  refine Tr.by (imp_cvB (r := 0) (sz := 1) (cells := [iv a0.Objects, .fr 1 a0.From.length (a0.From.flatMap eI.o), .fr 1 a0.To.length (a0.To.flatMap eI.o), .fr 1 a0.Identity.length (a0.Identity.flatMap eI.o), .rs 1011 0 v1.toNat]) (cells' := [iv a0.Objects, .fr 1 a0.From.length (a0.From.flatMap eI.o), .fr 1 a0.To.length (a0.To.flatMap eI.o), .fr 1 a0.Identity.length (a0.Identity.flatMap eI.o), .rs 1011 0 ((List.replicate v1.toNat ([] : List Int)).length)]) (refs := [1011]) (refs' := [1011]) (.cons (.refl _) (.cons (.refl _) (.cons (.refl _) (.cons (.refl _) (.cons (Sub.of_eq (congrArg (D.rs 1011 0) (List.length_replicate.symm : v1.toNat = (List.replicate v1.toNat ([] : List Int)).length))) .nil))))) (by kernel_rfl) (by kernel_rfl) (by kernel_rfl)) ?_
  refine tr_sr hT hm [] [0, 1, 2, 8, 36, 38, 2023] [(0, .d (.rp 0 0)), (1, .r (.arr 1 [iv a0.Objects, .fr 1 a0.From.length (a0.From.flatMap eI.o), .fr 1 a0.To.length (a0.To.flatMap eI.o), .fr 1 a0.Identity.length (a0.Identity.flatMap eI.o), .rs 1011 0 ((List.replicate v1.toNat ([] : List Int)).length)] [1011])), (2, .d (.fb f1 c1)), (8, .d (iv v1)), (36, .d (iv ((List.replicate v1.toNat ([] : List Int)).length : Int))), (38, .d (iv 0)), (2023, .r (.arr 1 ((List.replicate v1.toNat ([] : List Int)).flatMap (eS eI).o) []))] .nil (by kernel_rfl) (by kernel_rfl) ?_
  refine tr_block ?_
  refine tr_iterS (fun (s3 : (List (List Int)) × Int) => [(0, .d (.rp 0 0)), (1, .r (.arr 1 [iv a0.Objects, .fr 1 a0.From.length (a0.From.flatMap eI.o), .fr 1 a0.To.length (a0.To.flatMap eI.o), .fr 1 a0.Identity.length (a0.Identity.flatMap eI.o), .rs 1011 0 s3.1.length] [1011])), (2, .d (.fb f1 c1)), (8, .d (iv v1)), (36, .d (iv ((List.replicate v1.toNat ([] : List Int)).length : Int))), (38, .d (iv s3.2)), (2023, .r (.arr 1 (s3.1.flatMap (eS eI).o) []))]) ((List.replicate v1.toNat ([] : List Int)), 0) [0, 1, 2, 8, 36, 38, 2023] (by kernel_rfl) hM ?_
  intro n6 next4 ih5 s3 hM
  refine tr_sr hT hm [] [0, 1, 2, 8, 36, 38, 40, 2023] [(0, .d (.rp 0 0)), (1, .r (.arr 1 [iv a0.Objects, .fr 1 a0.From.length (a0.From.flatMap eI.o), .fr 1 a0.To.length (a0.To.flatMap eI.o), .fr 1 a0.Identity.length (a0.Identity.flatMap eI.o), .rs 1011 0 s3.1.length] [1011])), (2, .d (.fb f1 c1)), (8, .d (iv v1)), (36, .d (iv ((List.replicate v1.toNat ([] : List Int)).length : Int))), (38, .d (iv s3.2)), (40, .d (bv (decide (s3.2 < ((List.replicate v1.toNat ([] : List Int)).length : Int))))), (2023, .r (.arr 1 (s3.1.flatMap (eS eI).o) []))] .nil (by kernel_rfl) (by kernel_rfl) ?_
  refine tr_seq ?_
  rcases Bool.eq_false_or_eq_true (decide (s3.2 < ((List.replicate v1.toNat ([] : List Int)).length : Int))) with h7 | h7
  · have hM := ite_true' hM h7
    refine tr_condTe (e := decide (s3.2 < ((List.replicate v1.toNat ([] : List Int)).length : Int))) h7 (by kernel_rfl) ?_
    refine tr_skip (q_n ?_)
    refine tr_seq ?_
    refine tr_block ?_
    refine tr_sr hT hm [] [0, 1, 2, 8, 10, 36, 38, 2023] [(0, .d (.rp 0 0)), (1, .r (.arr 1 [iv a0.Objects, .fr 1 a0.From.length (a0.From.flatMap eI.o), .fr 1 a0.To.length (a0.To.flatMap eI.o), .fr 1 a0.Identity.length (a0.Identity.flatMap eI.o), .rs 1011 0 s3.1.length] [1011])), (2, .d (.fb f1 c1)), (8, .d (iv v1)), (10, .d (iv s3.2)), (36, .d (iv ((List.replicate v1.toNat ([] : List Int)).length : Int))), (38, .d (iv s3.2)), (2023, .r (.arr 1 (s3.1.flatMap (eS eI).o) []))] .nil (by kernel_rfl) (by kernel_rfl) ?_
    obtain ⟨y8, hy8, hM⟩ := bind_some' hM
    have hy8' := idx_some hy8
    refine tr_sr hT hm [] [0, 1, 2, 8, 10, 36, 38, 2023, 2057] [(0, .d (.rp 0 0)), (1, .r (.arr 1 [iv a0.Objects, .fr 1 a0.From.length (a0.From.flatMap eI.o), .fr 1 a0.To.length (a0.To.flatMap eI.o), .fr 1 a0.Identity.length (a0.Identity.flatMap eI.o), .rs 1011 0 s3.1.length] [1011])), (2, .d (.fb f1 c1)), (8, .d (iv v1)), (10, .d (iv s3.2)), (36, .d (iv ((List.replicate v1.toNat ([] : List Int)).length : Int))), (38, .d (iv s3.2)), (2023, .r (.arr 1 ((s3.1.flatMap (eS eI).o).take (0 + s3.2.toNat * 1) ++ [.rs 1028 0 v1.toNat] ++ (s3.1.flatMap (eS eI).o).drop (0 + s3.2.toNat * 1 + 1)) [1028])), (2057, .r (.arr 1 (repl v1.toNat [.int .i64 0]) []))] (.cons h2.1 (.cons (Int.le_refl v1) (.cons h2.2 (.cons hy8'.1 (.cons hy8'.2.1 (.cons (store_le (eS_ok eI_ok) hy8'.2.2) .nil)))))) (by kernel_rfl) (by kernel_rfl) ?_
    refine Tr.by (imp_cvE (r := 1028) (sz := 1) (refs := []) (repl_flat (f := eI.o) (zs := [.int .i64 0]) (z := (0 : Int)) rfl v1.toNat) (menO_flat eI_ok _) (by kernel_rfl)) ?_
    refine Tr.by (imp_dem (r := 1011) (q := 1028) (sz := 1) (n := v1.toNat) (j := 0) (pre := (s3.1.flatMap (eS eI).o).take (0 + s3.2.toNat * 1)) (l := [.rs 1028 0 v1.toNat]) (post := (s3.1.flatMap (eS eI).o).drop (0 + s3.2.toNat * 1 + 1)) (refs := [1028]) (refs' := []) (menO_take (eS_ok eI_ok) _ _) (menO_drop (eS_ok eI_ok) _ _) (lenO_of eI_ok (List.replicate v1.toNat (0 : Int)) List.length_replicate) (by kernel_rfl) (by kernel_rfl) (by kernel_rfl) (by kernel_rfl) (by kernel_rfl)) ?_
    refine Tr.by (imp_cvE (r := 1011) (sz := 1) (refs := []) (set_flatF eI_ok (y := (List.replicate v1.toNat (0 : Int))) hy8'.2.2 List.length_replicate) (menO_flat (eS_ok eI_ok) _) (by kernel_rfl)) ?_
    refine Tr.by (imp_cvB (r := 0) (sz := 1) (cells := [iv a0.Objects, .fr 1 a0.From.length (a0.From.flatMap eI.o), .fr 1 a0.To.length (a0.To.flatMap eI.o), .fr 1 a0.Identity.length (a0.Identity.flatMap eI.o), .rs 1011 0 s3.1.length]) (cells' := [iv a0.Objects, .fr 1 a0.From.length (a0.From.flatMap eI.o), .fr 1 a0.To.length (a0.To.flatMap eI.o), .fr 1 a0.Identity.length (a0.Identity.flatMap eI.o), .rs 1011 0 ((s3.1.set s3.2.toNat (List.replicate v1.toNat (0 : Int))).length)]) (refs := [1011]) (refs' := [1011]) (.cons (.refl _) (.cons (.refl _) (.cons (.refl _) (.cons (.refl _) (.cons (Sub.of_eq (congrArg (D.rs 1011 0) (List.length_set.symm : s3.1.length = (s3.1.set s3.2.toNat (List.replicate v1.toNat (0 : Int))).length))) .nil))))) (by kernel_rfl) (by kernel_rfl) (by kernel_rfl)) ?_
    obtain ⟨y9, hy9, hM⟩ := bind_some' hM
    have hy9' := idx_some hy9
    refine Tr.by (imp_rowOut (r := 1011) (q := 700276) (i := s3.2) (xs := (s3.1.set s3.2.toNat (List.replicate v1.toNat (0 : Int)))) (e := eI) (eS_ok eI_ok) hy9'.2.2 (by kernel_rfl) (by kernel_rfl)) ?_
    refine tr_sr hT hm [(6, .val (.rs 700276 0 y9.length))] [0, 1, 2, 8, 10, 36, 38, 74, 76, 2023, 1400553] [(0, .d (.rp 0 0)), (1, .r (.arr 1 [iv a0.Objects, .fr 1 a0.From.length (a0.From.flatMap eI.o), .fr 1 a0.To.length (a0.To.flatMap eI.o), .fr 1 a0.Identity.length (a0.Identity.flatMap eI.o), .rs 1011 0 ((s3.1.set s3.2.toNat (List.replicate v1.toNat (0 : Int))).length)] [1011])), (2, .d (.fb f1 c1)), (8, .d (iv v1)), (10, .d (iv s3.2)), (36, .d (iv ((List.replicate v1.toNat ([] : List Int)).length : Int))), (38, .d (iv s3.2)), (74, .d (iv (y9.length : Int))), (76, .d (iv 0)), (2023, .r (.arr 1 (((s3.1.set s3.2.toNat (List.replicate v1.toNat (0 : Int))).flatMap (eS eI).o).set (0 + s3.2.toNat * 1) (.rs 700276 0 y9.length)) [700276])), (1400553, .r (.arr 1 (y9.flatMap eI.o) []))] (.cons hy9'.1 (.cons hy9'.2.1 (.cons (set_at (d := .rs 700276 0 y9.length) (lt_flat (eS_ok eI_ok) (by kernel_rfl) hy9'.2.2)) .nil))) (by kernel_rfl) (by kernel_rfl) ?_
    refine Tr.by (imp_rowSame (r := 1011) (q := 700276) (n := y9.length) (i := s3.2) (xs := (s3.1.set s3.2.toNat (List.replicate v1.toNat (0 : Int)))) (e := eI) (x := y9) eI_ok hy9'.2.2 rfl (by kernel_rfl) (by kernel_rfl) (by kernel_rfl)) ?_
    refine tr_block ?_
    refine tr_iterS (fun (s10 : (List (List Int)) × Int) => [(0, .d (.rp 0 0)), (1, .r (.arr 1 [iv a0.Objects, .fr 1 a0.From.length (a0.From.flatMap eI.o), .fr 1 a0.To.length (a0.To.flatMap eI.o), .fr 1 a0.Identity.length (a0.Identity.flatMap eI.o), .rs 1011 0 s10.1.length] [1011])), (2, .d (.fb f1 c1)), (8, .d (iv v1)), (10, .d (iv s3.2)), (36, .d (iv ((List.replicate v1.toNat ([] : List Int)).length : Int))), (38, .d (iv s3.2)), (74, .d (iv (y9.length : Int))), (76, .d (iv s10.2)), (2023, .r (.arr 1 (s10.1.flatMap (eS eI).o) []))]) (s3.1.set s3.2.toNat (List.replicate v1.toNat (0 : Int)), 0) [0, 1, 2, 8, 10, 36, 38, 74, 76, 2023] (by kernel_rfl) hM ?_
    intro n13 next11 ih12 s10 hM
    refine tr_sr hT hm [] [0, 1, 2, 8, 10, 36, 38, 74, 76, 78, 2023] [(0, .d (.rp 0 0)), (1, .r (.arr 1 [iv a0.Objects, .fr 1 a0.From.length (a0.From.flatMap eI.o), .fr 1 a0.To.length (a0.To.flatMap eI.o), .fr 1 a0.Identity.length (a0.Identity.flatMap eI.o), .rs 1011 0 s10.1.length] [1011])), (2, .d (.fb f1 c1)), (8, .d (iv v1)), (10, .d (iv s3.2)), (36, .d (iv ((List.replicate v1.toNat ([] : List Int)).length : Int))), (38, .d (iv s3.2)), (74, .d (iv (y9.length : Int))), (76, .d (iv s10.2)), (78, .d (bv (decide (s10.2 < (y9.length : Int))))), (2023, .r (.arr 1 (s10.1.flatMap (eS eI).o) []))] .nil (by kernel_rfl) (by kernel_rfl) ?_
    refine tr_seq ?_
    rcases Bool.eq_false_or_eq_true (decide (s10.2 < (y9.length : Int))) with h14 | h14
    · have hM := ite_true' hM h14
      refine tr_condTe (e := decide (s10.2 < (y9.length : Int))) h14 (by kernel_rfl) ?_
      refine tr_skip (q_n ?_)
      refine tr_seq ?_
      refine tr_block ?_
      refine tr_sr hT hm [] [0, 1, 2, 8, 10, 12, 36, 38, 74, 76, 2023] [(0, .d (.rp 0 0)), (1, .r (.arr 1 [iv a0.Objects, .fr 1 a0.From.length (a0.From.flatMap eI.o), .fr 1 a0.To.length (a0.To.flatMap eI.o), .fr 1 a0.Identity.length (a0.Identity.flatMap eI.o), .rs 1011 0 s10.1.length] [1011])), (2, .d (.fb f1 c1)), (8, .d (iv v1)), (10, .d (iv s3.2)), (12, .d (iv s10.2)), (36, .d (iv ((List.replicate v1.toNat ([] : List Int)).length : Int))), (38, .d (iv s3.2)), (74, .d (iv (y9.length : Int))), (76, .d (iv s10.2)), (2023, .r (.arr 1 (s10.1.flatMap (eS eI).o) []))] .nil (by kernel_rfl) (by kernel_rfl) ?_
      obtain ⟨y15, hy15, hM⟩ := bind_some' hM
      have hy15' := idx_some hy15
      refine Tr.by (imp_rowOut (r := 1011) (q := 700297) (i := s3.2) (xs := s10.1) (e := eI) (eS_ok eI_ok) hy15'.2.2 (by kernel_rfl) (by kernel_rfl)) ?_
      obtain ⟨y16, hy16, hM⟩ := bind_some' hM
      have hy16' := idx_some hy16
      refine tr_sr hT hm [(6, .val (.rs 700297 0 y15.length))] [0, 1, 2, 8, 10, 12, 36, 38, 74, 76, 2023, 1400595] [(0, .d (.rp 0 0)), (1, .r (.arr 1 [iv a0.Objects, .fr 1 a0.From.length (a0.From.flatMap eI.o), .fr 1 a0.To.length (a0.To.flatMap eI.o), .fr 1 a0.Identity.length (a0.Identity.flatMap eI.o), .rs 1011 0 s10.1.length] [1011])), (2, .d (.fb f1 c1)), (8, .d (iv v1)), (10, .d (iv s3.2)), (12, .d (iv s10.2)), (36, .d (iv ((List.replicate v1.toNat ([] : List Int)).length : Int))), (38, .d (iv s3.2)), (74, .d (iv (y9.length : Int))), (76, .d (iv s10.2)), (2023, .r (.arr 1 ((s10.1.flatMap (eS eI).o).set (0 + s3.2.toNat * 1) (.rs 700297 0 y15.length)) [700297])), (1400595, .r (.arr 1 ((y15.flatMap eI.o).take (0 + s10.2.toNat * 1) ++ [iv (-1)] ++ (y15.flatMap eI.o).drop (0 + s10.2.toNat * 1 + 1)) []))] (.cons hy15'.1 (.cons hy15'.2.1 (.cons (set_at (d := .rs 700297 0 y15.length) (lt_flat (eS_ok eI_ok) (by kernel_rfl) hy15'.2.2)) (.cons hy16'.1 (.cons hy16'.2.1 (.cons (store_le eI_ok hy16'.2.2) .nil)))))) (by kernel_rfl) (by kernel_rfl) ?_
      refine Tr.by (imp_cvE (r := 700297) (sz := 1) (refs := []) (set_flat eI_ok.lenO (y := (-1)) hy16'.2.2) (menO_flat eI_ok _) (by kernel_rfl)) ?_
      refine Tr.by (imp_rowBack (r := 1011) (q := 700297) (n := y15.length) (i := s3.2) (xs := s10.1) (e := eI) (x' := (y15.set s10.2.toNat (-1))) eI_ok hy15'.2.2 List.length_set.symm (by kernel_rfl) (by kernel_rfl) (by kernel_rfl)) ?_
      refine Tr.by (imp_cvB (r := 0) (sz := 1) (cells := [iv a0.Objects, .fr 1 a0.From.length (a0.From.flatMap eI.o), .fr 1 a0.To.length (a0.To.flatMap eI.o), .fr 1 a0.Identity.length (a0.Identity.flatMap eI.o), .rs 1011 0 s10.1.length]) (cells' := [iv a0.Objects, .fr 1 a0.From.length (a0.From.flatMap eI.o), .fr 1 a0.To.length (a0.To.flatMap eI.o), .fr 1 a0.Identity.length (a0.Identity.flatMap eI.o), .rs 1011 0 ((s10.1.set s3.2.toNat (y15.set s10.2.toNat (-1))).length)]) (refs := [1011]) (refs' := [1011]) (.cons (.refl _) (.cons (.refl _) (.cons (.refl _) (.cons (.refl _) (.cons (Sub.of_eq (congrArg (D.rs 1011 0) (List.length_set.symm : s10.1.length = (s10.1.set s3.2.toNat (y15.set s10.2.toNat (-1))).length))) .nil))))) (by kernel_rfl) (by kernel_rfl) (by kernel_rfl)) ?_
      refine Tr.by (imp_promote (r := 0) (i := 2) (q := 700298) (sz := 1) (sz' := 1) (n := a0.To.length) (cells := [iv a0.Objects, .fr 1 a0.From.length (a0.From.flatMap eI.o), .fr 1 a0.To.length (a0.To.flatMap eI.o), .fr 1 a0.Identity.length (a0.Identity.flatMap eI.o), .rs 1011 0 ((s10.1.set s3.2.toNat (y15.set s10.2.toNat (-1))).length)]) (ds := a0.To.flatMap eI.o) (refs := [1011]) (by kernel_rfl) (by kernel_rfl) (by kernel_rfl)) ?_
      obtain ⟨y17, hy17, hM⟩ := bind_some' hM
      have hy17' := idx_some hy17
      refine Tr.by (imp_promote (r := 0) (i := 1) (q := 700299) (sz := 1) (sz' := 1) (n := a0.From.length) (cells := [iv a0.Objects, .fr 1 a0.From.length (a0.From.flatMap eI.o), .rs 700298 0 a0.To.length, .fr 1 a0.Identity.length (a0.Identity.flatMap eI.o), .rs 1011 0 ((s10.1.set s3.2.toNat (y15.set s10.2.toNat (-1))).length)]) (ds := a0.From.flatMap eI.o) (refs := [700298, 1011]) (by kernel_rfl) (by kernel_rfl) (by kernel_rfl)) ?_
      obtain ⟨y18, hy18, hM⟩ := bind_some' hM
      have hy18' := idx_some hy18
      refine tr_sr hT hm [(6, .val (iv y17)), (13, .val (iv y18))] [0, 1, 2, 8, 10, 12, 36, 38, 74, 76, 128, 2023, 1400597, 1400599] [(0, .d (.rp 0 0)), (1, .r (.arr 1 [iv a0.Objects, .rs 700299 0 a0.From.length, .rs 700298 0 a0.To.length, .fr 1 a0.Identity.length (a0.Identity.flatMap eI.o), .rs 1011 0 ((s10.1.set s3.2.toNat (y15.set s10.2.toNat (-1))).length)] [700299, 700298, 1011])), (2, .d (.fb f1 c1)), (8, .d (iv v1)), (10, .d (iv s3.2)), (12, .d (iv s10.2)), (36, .d (iv ((List.replicate v1.toNat ([] : List Int)).length : Int))), (38, .d (iv s3.2)), (74, .d (iv (y9.length : Int))), (76, .d (iv s10.2)), (128, .d (bv (y17 == y18))), (2023, .r (.arr 1 ((s10.1.set s3.2.toNat (y15.set s10.2.toNat (-1))).flatMap (eS eI).o) [])), (1400597, .r (.arr 1 (a0.To.flatMap eI.o) [])), (1400599, .r (.arr 1 (a0.From.flatMap eI.o) []))] (.cons hy17'.1 (.cons hy17'.2.1 (.cons (at_o0 eI_ok hy17'.2.2 (d := iv y17) (by kernel_rfl)) (.cons hy18'.1 (.cons hy18'.2.1 (.cons (at_o0 eI_ok hy18'.2.2 (d := iv y18) (by kernel_rfl)) .nil)))))) (by kernel_rfl) (by kernel_rfl) ?_
      rcases Bool.eq_false_or_eq_true (y17 == y18) with h19 | h19
      · have hM := ite_true' hM h19
        refine tr_condTe (e := y17 == y18) h19 (by kernel_rfl) ?_
        obtain ⟨y20, hy20, hM⟩ := bind_some' hM
        have hy20' := idx_some hy20
        refine Tr.by (imp_rowOut (r := 1011) (q := 700300) (i := s3.2) (xs := (s10.1.set s3.2.toNat (y15.set s10.2.toNat (-1)))) (e := eI) (eS_ok eI_ok) hy20'.2.2 (by kernel_rfl) (by kernel_rfl)) ?_
        obtain ⟨v21, hv21, hM⟩ := bind_some' hM
        obtain ⟨y22, hy22, hM⟩ := bind_some' hM
        have hy22' := idx_some hy22
        refine tr_r hT hm [(6, .val (.rs 700300 0 y20.length)), (11, .call [] [] ([iv s3.2, iv s10.2] ++ c1) [] (iv v21))] [0, 1, 2, 8, 10, 36, 38, 74, 76, 2023, 1400597, 1400599, 1400601] [(0, .d (.rp 0 0)), (1, .r (.arr 1 [iv a0.Objects, .rs 700299 0 a0.From.length, .rs 700298 0 a0.To.length, .fr 1 a0.Identity.length (a0.Identity.flatMap eI.o), .rs 1011 0 ((s10.1.set s3.2.toNat (y15.set s10.2.toNat (-1))).length)] [700299, 700298, 1011])), (2, .d (.fb f1 c1)), (8, .d (iv v1)), (10, .d (iv s3.2)), (36, .d (iv ((List.replicate v1.toNat ([] : List Int)).length : Int))), (38, .d (iv s3.2)), (74, .d (iv (y9.length : Int))), (76, .d (iv s10.2)), (2023, .r (.arr 1 (((s10.1.set s3.2.toNat (y15.set s10.2.toNat (-1))).flatMap (eS eI).o).set (0 + s3.2.toNat * 1) (.rs 700300 0 y20.length)) [700300])), (1400597, .r (.arr 1 (a0.To.flatMap eI.o) [])), (1400599, .r (.arr 1 (a0.From.flatMap eI.o) [])), (1400601, .r (.arr 1 ((y20.flatMap eI.o).take (0 + s10.2.toNat * 1) ++ [iv v21] ++ (y20.flatMap eI.o).drop (0 + s10.2.toNat * 1 + 1)) []))] (.cons hy20'.1 (.cons hy20'.2.1 (.cons (set_at (d := .rs 700300 0 y20.length) (lt_flat (eS_ok eI_ok) (by kernel_rfl) hy20'.2.2)) (cc0 ok1_ (hf1 s3.2 s10.2 _ hv21) (menL_app rfl hm1) (.cons hy22'.1 (.cons hy22'.2.1 (.cons (store_le eI_ok hy22'.2.2) .nil))))))) (by kernel_rfl) (by kernel_rfl) (b_n (q_n ?_))
        refine Tr.by (imp_cvE (r := 700300) (sz := 1) (refs := []) (set_flat eI_ok.lenO (y := v21) hy22'.2.2) (menO_flat eI_ok _) (by kernel_rfl)) ?_
        refine Tr.by (imp_rowBack (r := 1011) (q := 700300) (n := y20.length) (i := s3.2) (xs := (s10.1.set s3.2.toNat (y15.set s10.2.toNat (-1)))) (e := eI) (x' := (y20.set s10.2.toNat v21)) eI_ok hy20'.2.2 List.length_set.symm (by kernel_rfl) (by kernel_rfl) (by kernel_rfl)) ?_
        refine Tr.by (imp_cvB (r := 0) (sz := 1) (cells := [iv a0.Objects, .rs 700299 0 a0.From.length, .rs 700298 0 a0.To.length, .fr 1 a0.Identity.length (a0.Identity.flatMap eI.o), .rs 1011 0 ((s10.1.set s3.2.toNat (y15.set s10.2.toNat (-1))).length)]) (cells' := [iv a0.Objects, .rs 700299 0 a0.From.length, .rs 700298 0 a0.To.length, .fr 1 a0.Identity.length (a0.Identity.flatMap eI.o), .rs 1011 0 (((s10.1.set s3.2.toNat (y15.set s10.2.toNat (-1))).set s3.2.toNat (y20.set s10.2.toNat v21)).length)]) (refs := [700299, 700298, 1011]) (refs' := [700299, 700298, 1011]) (.cons (.refl _) (.cons (.refl _) (.cons (.refl _) (.cons (.refl _) (.cons (Sub.of_eq (congrArg (D.rs 1011 0) (List.length_set.symm : (s10.1.set s3.2.toNat (y15.set s10.2.toNat (-1))).length = ((s10.1.set s3.2.toNat (y15.set s10.2.toNat (-1))).set s3.2.toNat (y20.set s10.2.toNat v21)).length))) .nil))))) (by kernel_rfl) (by kernel_rfl) (by kernel_rfl)) ?_
        refine tr_r hT hm [] [0, 1, 2, 8, 10, 36, 38, 74, 76, 2023, 1400597, 1400599] [(0, .d (.rp 0 0)), (1, .r (.arr 1 [iv a0.Objects, .rs 700299 0 a0.From.length, .rs 700298 0 a0.To.length, .fr 1 a0.Identity.length (a0.Identity.flatMap eI.o), .rs 1011 0 (((s10.1.set s3.2.toNat (y15.set s10.2.toNat (-1))).set s3.2.toNat (y20.set s10.2.toNat v21)).length)] [700299, 700298, 1011])), (2, .d (.fb f1 c1)), (8, .d (iv v1)), (10, .d (iv s3.2)), (36, .d (iv ((List.replicate v1.toNat ([] : List Int)).length : Int))), (38, .d (iv s3.2)), (74, .d (iv (y9.length : Int))), (76, .d (iv (IntKind.i64.wrap (s10.2 + 1)))), (2023, .r (.arr 1 (((s10.1.set s3.2.toNat (y15.set s10.2.toNat (-1))).set s3.2.toNat (y20.set s10.2.toNat v21)).flatMap (eS eI).o) [])), (1400597, .r (.arr 1 (a0.To.flatMap eI.o) [])), (1400599, .r (.arr 1 (a0.From.flatMap eI.o) []))] .nil (by kernel_rfl) (by kernel_rfl) (l_n ?_)
        refine TrL.by (imp_dem (r := 0) (q := 700299) (sz := 1) (n := a0.From.length) (j := 1) (pre := []) (l := [iv a0.Objects, .rs 700299 0 a0.From.length, .rs 700298 0 a0.To.length, .fr 1 a0.Identity.length (a0.Identity.flatMap eI.o), .rs 1011 0 (((s10.1.set s3.2.toNat (y15.set s10.2.toNat (-1))).set s3.2.toNat (y20.set s10.2.toNat v21)).length)]) (post := []) (refs := [700299, 700298, 1011]) (refs' := [700298, 1011]) rfl rfl (lenO_flat eI_ok a0.From) (by kernel_rfl) (by kernel_rfl) (by kernel_rfl) (by kernel_rfl) (by kernel_rfl)) ?_
        refine TrL.by (imp_dem (r := 0) (q := 700298) (sz := 1) (n := a0.To.length) (j := 2) (pre := []) (l := [iv a0.Objects, .fr 1 a0.From.length (a0.From.flatMap eI.o), .rs 700298 0 a0.To.length, .fr 1 a0.Identity.length (a0.Identity.flatMap eI.o), .rs 1011 0 (((s10.1.set s3.2.toNat (y15.set s10.2.toNat (-1))).set s3.2.toNat (y20.set s10.2.toNat v21)).length)]) (post := []) (refs := [700298, 1011]) (refs' := [1011]) rfl rfl (lenO_flat eI_ok a0.To) (by kernel_rfl) (by kernel_rfl) (by kernel_rfl) (by kernel_rfl) (by kernel_rfl)) ?_
        exact trl_start (ks := [0, 1, 2, 8, 10, 36, 38, 74, 76, 2023]) (by kernel_rfl) (ih12 ((s10.1.set s3.2.toNat (y15.set s10.2.toNat (-1))).set s3.2.toNat (y20.set s10.2.toNat v21), IntKind.i64.wrap (s10.2 + 1)) hM)
      · have hM := ite_false' hM h19
        refine tr_condFe (e := y17 == y18) h19 (by kernel_rfl) ?_
        refine tr_skip (b_n (q_n ?_))
        refine tr_r hT hm [] [0, 1, 2, 8, 10, 36, 38, 74, 76, 2023, 1400597, 1400599] [(0, .d (.rp 0 0)), (1, .r (.arr 1 [iv a0.Objects, .rs 700299 0 a0.From.length, .rs 700298 0 a0.To.length, .fr 1 a0.Identity.length (a0.Identity.flatMap eI.o), .rs 1011 0 ((s10.1.set s3.2.toNat (y15.set s10.2.toNat (-1))).length)] [700299, 700298, 1011])), (2, .d (.fb f1 c1)), (8, .d (iv v1)), (10, .d (iv s3.2)), (36, .d (iv ((List.replicate v1.toNat ([] : List Int)).length : Int))), (38, .d (iv s3.2)), (74, .d (iv (y9.length : Int))), (76, .d (iv (IntKind.i64.wrap (s10.2 + 1)))), (2023, .r (.arr 1 ((s10.1.set s3.2.toNat (y15.set s10.2.toNat (-1))).flatMap (eS eI).o) [])), (1400597, .r (.arr 1 (a0.To.flatMap eI.o) [])), (1400599, .r (.arr 1 (a0.From.flatMap eI.o) []))] .nil (by kernel_rfl) (by kernel_rfl) (l_n ?_)
        refine TrL.by (imp_dem (r := 0) (q := 700299) (sz := 1) (n := a0.From.length) (j := 1) (pre := []) (l := [iv a0.Objects, .rs 700299 0 a0.From.length, .rs 700298 0 a0.To.length, .fr 1 a0.Identity.length (a0.Identity.flatMap eI.o), .rs 1011 0 ((s10.1.set s3.2.toNat (y15.set s10.2.toNat (-1))).length)]) (post := []) (refs := [700299, 700298, 1011]) (refs' := [700298, 1011]) rfl rfl (lenO_flat eI_ok a0.From) (by kernel_rfl) (by kernel_rfl) (by kernel_rfl) (by kernel_rfl) (by kernel_rfl)) ?_
        refine TrL.by (imp_dem (r := 0) (q := 700298) (sz := 1) (n := a0.To.length) (j := 2) (pre := []) (l := [iv a0.Objects, .fr 1 a0.From.length (a0.From.flatMap eI.o), .rs 700298 0 a0.To.length, .fr 1 a0.Identity.length (a0.Identity.flatMap eI.o), .rs 1011 0 ((s10.1.set s3.2.toNat (y15.set s10.2.toNat (-1))).length)]) (post := []) (refs := [700298, 1011]) (refs' := [1011]) rfl rfl (lenO_flat eI_ok a0.To) (by kernel_rfl) (by kernel_rfl) (by kernel_rfl) (by kernel_rfl) (by kernel_rfl)) ?_
        exact trl_start (ks := [0, 1, 2, 8, 10, 36, 38, 74, 76, 2023]) (by kernel_rfl) (ih12 (s10.1.set s3.2.toNat (y15.set s10.2.toNat (-1)), IntKind.i64.wrap (s10.2 + 1)) hM)
    · have hM := ite_false' hM h14
      refine tr_condFe (e := decide (s10.2 < (y9.length : Int))) h14 (by kernel_rfl) ?_
      refine tr_exit (q_x (l_x (b_h (b_n (q_n ?_)))))
      refine tr_r hT hm [] [0, 1, 2, 8, 36, 38, 2023] [(0, .d (.rp 0 0)), (1, .r (.arr 1 [iv a0.Objects, .fr 1 a0.From.length (a0.From.flatMap eI.o), .fr 1 a0.To.length (a0.To.flatMap eI.o), .fr 1 a0.Identity.length (a0.Identity.flatMap eI.o), .rs 1011 0 s10.1.length] [1011])), (2, .d (.fb f1 c1)), (8, .d (iv v1)), (36, .d (iv ((List.replicate v1.toNat ([] : List Int)).length : Int))), (38, .d (iv (IntKind.i64.wrap (s3.2 + 1)))), (2023, .r (.arr 1 (s10.1.flatMap (eS eI).o) []))] .nil (by kernel_rfl) (by kernel_rfl) (l_n ?_)
      exact trl_start (ks := [0, 1, 2, 8, 36, 38, 2023]) (by kernel_rfl) (ih5 (s10.1, IntKind.i64.wrap (s3.2 + 1)) hM)
  · have hM := ite_false' hM h7
    refine tr_condFe (e := decide (s3.2 < ((List.replicate v1.toNat ([] : List Int)).length : Int))) h7 (by kernel_rfl) ?_
    refine tr_exit (q_x (l_x (b_h (rg_n ?_))))
    refine RetG.by (imp_dem (r := 0) (q := 1011) (sz := 1) (n := s3.1.length) (j := 4) (pre := []) (l := [iv a0.Objects, .fr 1 a0.From.length (a0.From.flatMap eI.o), .fr 1 a0.To.length (a0.To.flatMap eI.o), .fr 1 a0.Identity.length (a0.Identity.flatMap eI.o), .rs 1011 0 s3.1.length]) (post := []) (refs := [1011]) (refs' := []) rfl rfl (lenO_flat (eS_ok eI_ok) s3.1) (by kernel_rfl) (by kernel_rfl) (by kernel_rfl) (by kernel_rfl) (by kernel_rfl)) ?_
    obtain rfl := Option.some.inj hM
    exact retg (names := [0]) .nil (by kernel_rfl)

theorem ok217 : CallOk Try.prog 217 := callOk_of Try.func217 (by kernel_rfl) (by kernel_rfl)
theorem impl_opposite_1_c (a0 : Int) (a1 : Int) (a2 : XCategory) (r : Int) (hM : M.impl_opposite_1 a0 a1 a2 = some r) :
    FnC Try.prog 217 [] [iv a0, iv a1, .pt ((eP eXCategory).b a2) 0] [] (iv r) := by
  refine fnc_startG (N := 10) (np := 500) hT Try.func217 rfl rfl (by kernel_rfl) ?_
  unfold M.impl_opposite_1 at hM
  refine tr_start (ks := [0, 2, 4]) (st' := [(0, .d (iv a0)), (2, .d (iv a1)), (4, .d (.pt ((eP eXCategory).b a2) 0))]) (by kernel_rfl) ?_
  refine tr_sr hT hm [] [0, 2, 4] [(0, .d (iv a0)), (2, .d (iv a1)), (4, .d (.pt ((eP eXCategory).b a2) 0))] .nil (by kernel_rfl) (by kernel_rfl) ?_
  obtain ⟨v1, hv1, hM⟩ := bind_some' hM
  refine tr_sr hT hm [(3, .call [] [] [.pt (eXCategory.b a2) 0, iv a1, iv a0] [] (iv v1))] [10] [(10, .d (iv v1))] (cc0 ok162 (impl_Category_then_c a2 a1 a0 _ hv1) (by kernel_rfl) .nil) (by kernel_rfl) (by kernel_rfl) ?_
  refine tr_ret (rg_r ?_)
  obtain rfl := Option.some.inj hM
  exact retg (names := []) .nil (by kernel_rfl)

theorem ok151 : CallOk Try.prog 151 := callOk_of Try.func151 (by kernel_rfl) (by kernel_rfl)
theorem impl_opposite_c (a0 : XCategory) (r : XCategory) (hM : M.impl_opposite a0 = some r) :
    FnC Try.prog 151 [] [.pt (eXCategory.b a0) 0] [] (.agg (eXCategory.o r)) := by
  refine fnc_startG (N := 27) (np := 500) hT Try.func151 rfl rfl (by kernel_rfl) ?_
  unfold M.impl_opposite at hM
  refine tr_start (ks := [0]) (st' := [(0, .d (.pt (eXCategory.b a0) 0))]) (by kernel_rfl) ?_
  refine tr_sr hT hm [] [2, 4, 2003, 2005] [(2, .d (.rp 1001 0)), (4, .d (.rp 1002 0)), (2003, .r (.arr 1 [.pt (eXCategory.b a0) 0] [])), (2005, .r (.arr 1 [iv 0, nilv, nilv, nilv, nilv] []))] .nil (by kernel_rfl) (by kernel_rfl) ?_
  obtain ⟨v1, hv1, hM⟩ := bind_some' hM
  obtain ⟨v2, hv2, hM⟩ := bind_some' hM
  obtain ⟨v3, hv3, hM⟩ := bind_some' hM
  refine tr_sr hT hm [(8, .call [] [] [.sl a0.To.length 0 (a0.To.flatMap eI.b)] [] (.fr 1 v1.length (v1.flatMap eI.o))), (13, .call [] [] [.sl a0.From.length 0 (a0.From.flatMap eI.b)] [] (.fr 1 v2.length (v2.flatMap eI.o))), (18, .call [] [] [.sl a0.Identity.length 0 (a0.Identity.flatMap eI.b)] [] (.fr 1 v3.length (v3.flatMap eI.o)))] [2, 4, 6, 2003, 2005, 2007, 28001, 38001, 48001] [(2, .d (.rp 1001 0)), (4, .d (.rp 1002 0)), (6, .d (.rp 1003 0)), (2003, .r (.arr 1 [.pt (eXCategory.b a0) 0] [])), (2005, .r (.arr 1 [iv 0, nilv, nilv, nilv, nilv] [])), (2007, .r (.arr 1 [iv a0.Objects, .rs 14000 0 v1.length, .rs 19000 0 v2.length, .rs 24000 0 v3.length, nilv] [14000, 19000, 24000])), (28001, .r (.arr 1 (v1.flatMap eI.o) [])), (38001, .r (.arr 1 (v2.flatMap eI.o) [])), (48001, .r (.arr 1 (v3.flatMap eI.o) []))] (cc0 ok169 (impl_clone_c a0.To _ hv1) (by kernel_rfl) (cc0 ok169 (impl_clone_c a0.From _ hv2) (by kernel_rfl) (cc0 ok169 (impl_clone_c a0.Identity _ hv3) (by kernel_rfl) (.cons (Nat.le_of_ble_eq_true (n := 5) (m := 5) rfl) .nil)))) (by kernel_rfl) (by kernel_rfl) ?_
  refine Tr.by (imp_dem (r := 1003) (q := 14000) (sz := 1) (n := v1.length) (j := 1) (pre := []) (l := [iv a0.Objects, .rs 14000 0 v1.length, .rs 19000 0 v2.length, .rs 24000 0 v3.length, nilv]) (post := []) (refs := [14000, 19000, 24000]) (refs' := [19000, 24000]) rfl rfl (lenO_flat eI_ok v1) (by kernel_rfl) (by kernel_rfl) (by kernel_rfl) (by kernel_rfl) (by kernel_rfl)) ?_
  refine Tr.by (imp_dem (r := 1003) (q := 19000) (sz := 1) (n := v2.length) (j := 2) (pre := []) (l := [iv a0.Objects, .fr 1 v1.length (v1.flatMap eI.o), .rs 19000 0 v2.length, .rs 24000 0 v3.length, nilv]) (post := []) (refs := [19000, 24000]) (refs' := [24000]) rfl rfl (lenO_flat eI_ok v2) (by kernel_rfl) (by kernel_rfl) (by kernel_rfl) (by kernel_rfl) (by kernel_rfl)) ?_
  refine Tr.by (imp_dem (r := 1003) (q := 24000) (sz := 1) (n := v3.length) (j := 3) (pre := []) (l := [iv a0.Objects, .fr 1 v1.length (v1.flatMap eI.o), .fr 1 v2.length (v2.flatMap eI.o), .rs 24000 0 v3.length, nilv]) (post := []) (refs := [24000]) (refs' := []) rfl rfl (lenO_flat eI_ok v3) (by kernel_rfl) (by kernel_rfl) (by kernel_rfl) (by kernel_rfl) (by kernel_rfl)) ?_
  refine Tr.by (imp_cvB (r := 1003) (sz := 1) (cells := [iv a0.Objects, .fr 1 v1.length (v1.flatMap eI.o), .fr 1 v2.length (v2.flatMap eI.o), .fr 1 v3.length (v3.flatMap eI.o), nilv]) (cells' := [iv a0.Objects, .fr 1 v1.length (v1.flatMap eI.o), .fr 1 v2.length (v2.flatMap eI.o), .fr 1 v3.length (v3.flatMap eI.o), .fr 1 ([] : List (List Int)).length (([] : List (List Int)).flatMap (eS eI).o)]) (refs := []) (refs' := []) (.cons (.refl _) (.cons (.refl _) (.cons (.refl _) (.cons (.refl _) (.cons Sub.nil_fr .nil))))) (by kernel_rfl) (by kernel_rfl) (by kernel_rfl)) ?_
  obtain ⟨v4, hv4, hM⟩ := bind_some' hM
  refine tr_sr hT hm [(1, .call [1001] [(0, 1003)] [.rp 0 0, .fb 217 [.pt ((eP eXCategory).b a0) 0]] [(0, .arr 1 [iv v4.Objects, .fr 1 v4.From.length (v4.From.flatMap eI.o), .fr 1 v4.To.length (v4.To.flatMap eI.o), .fr 1 v4.Identity.length (v4.Identity.flatMap eI.o), .fr 1 v4.Composites.length (v4.Composites.flatMap (eS eI).o)] [])] (.tup []))] [4, 6, 2005, 2007] [(4, .d (.rp 1002 0)), (6, .d (.rp 1003 0)), (2005, .r (.arr 1 [iv 0, nilv, nilv, nilv, nilv] [])), (2007, .r (.arr 1 [iv v4.Objects, .fr 1 v4.From.length (v4.From.flatMap eI.o), .fr 1 v4.To.length (v4.To.flatMap eI.o), .fr 1 v4.Identity.length (v4.Identity.flatMap eI.o), .fr 1 v4.Composites.length (v4.Composites.flatMap (eS eI).o)] []))] (cc (B := [1001]) (ρ := [(0, 1003)]) (rB := [(1001, .arr 1 [.pt (eXCategory.b a0) 0] [])]) ok216 (impl_Category_table_c (⟨a0.Objects, v1, v2, v3, []⟩ : XCategory) 217 ([.pt ((eP eXCategory).b a0) 0] : List D) (fun (x0 : Int) (x1 : Int) => M.impl_opposite_1 x0 x1 a0) ok217 (by kernel_rfl) (fun x0 x1 r h => impl_opposite_1_c x0 x1 a0 r h) _ hv4) (.cons (.pass (.rp rfl)) (.cons (.fn (.cons (.rp (r := 1001) (sz := 1) (refs := []) (by decide) (by kernel_rfl) (.cons (.same rfl rfl) .nil)) .nil)) .nil)) (.inr ⟨(nobor_tup .nil), ⟨(eXCategory_nb _), trivial⟩⟩) .nil) (by kernel_rfl) (by kernel_rfl) ?_
  refine Tr.by (imp_promote (r := 1003) (i := 1) (q := 700005) (sz := 1) (sz' := 1) (n := v4.From.length) (cells := [iv v4.Objects, .fr 1 v4.From.length (v4.From.flatMap eI.o), .fr 1 v4.To.length (v4.To.flatMap eI.o), .fr 1 v4.Identity.length (v4.Identity.flatMap eI.o), .fr 1 v4.Composites.length (v4.Composites.flatMap (eS eI).o)]) (ds := v4.From.flatMap eI.o) (refs := []) (by kernel_rfl) (by kernel_rfl) (by kernel_rfl)) ?_
  refine Tr.by (imp_promote (r := 1003) (i := 2) (q := 700006) (sz := 1) (sz' := 1) (n := v4.To.length) (cells := [iv v4.Objects, .rs 700005 0 v4.From.length, .fr 1 v4.To.length (v4.To.flatMap eI.o), .fr 1 v4.Identity.length (v4.Identity.flatMap eI.o), .fr 1 v4.Composites.length (v4.Composites.flatMap (eS eI).o)]) (ds := v4.To.flatMap eI.o) (refs := [700005]) (by kernel_rfl) (by kernel_rfl) (by kernel_rfl)) ?_
  refine Tr.by (imp_promote (r := 1003) (i := 3) (q := 700007) (sz := 1) (sz' := 1) (n := v4.Identity.length) (cells := [iv v4.Objects, .rs 700005 0 v4.From.length, .rs 700006 0 v4.To.length, .fr 1 v4.Identity.length (v4.Identity.flatMap eI.o), .fr 1 v4.Composites.length (v4.Composites.flatMap (eS eI).o)]) (ds := v4.Identity.flatMap eI.o) (refs := [700006, 700005]) (by kernel_rfl) (by kernel_rfl) (by kernel_rfl)) ?_
  refine Tr.by (imp_promote (r := 1003) (i := 4) (q := 700008) (sz := 1) (sz' := 1) (n := v4.Composites.length) (cells := [iv v4.Objects, .rs 700005 0 v4.From.length, .rs 700006 0 v4.To.length, .rs 700007 0 v4.Identity.length, .fr 1 v4.Composites.length (v4.Composites.flatMap (eS eI).o)]) (ds := v4.Composites.flatMap (eS eI).o) (refs := [700007, 700006, 700005]) (by kernel_rfl) (by kernel_rfl) (by kernel_rfl)) ?_
  refine tr_sr hT hm [] [4, 2005, 1400011, 1400013, 1400015, 1400017] [(4, .d (.rp 1002 0)), (2005, .r (.arr 1 [iv v4.Objects, .rs 700005 0 v4.From.length, .rs 700006 0 v4.To.length, .rs 700007 0 v4.Identity.length, .rs 700008 0 v4.Composites.length] [700005, 700006, 700007, 700008])), (1400011, .r (.arr 1 (v4.From.flatMap eI.o) [])), (1400013, .r (.arr 1 (v4.To.flatMap eI.o) [])), (1400015, .r (.arr 1 (v4.Identity.flatMap eI.o) [])), (1400017, .r (.arr 1 (v4.Composites.flatMap (eS eI).o) []))] (.cons (Nat.le_of_ble_eq_true (n := 5) (m := 5) rfl) .nil) (by kernel_rfl) (by kernel_rfl) ?_
  refine tr_ret (rg_r ?_)
  obtain rfl := Option.some.inj hM
  exact retg (names := []) (.cons (lenO_flat eI_ok v4.From) (.cons (lenO_flat eI_ok v4.To) (.cons (lenO_flat eI_ok v4.Identity) (.cons (lenO_flat (eS_ok eI_ok) v4.Composites) .nil)))) (by kernel_rfl)

theorem ok187 : CallOk Try.prog 187 := callOk_of Try.func187 (by kernel_rfl) (by kernel_rfl)
theorem impl_clones_c (a0 : List (List Int)) (r : (List (List Int))) (hM : M.impl_clones a0 = some r) :
    FnC Try.prog 187 [] [.sl a0.length 0 (a0.flatMap (eS eI).b)] [] (.fr 1 r.length (r.flatMap (eS eI).o)) := by
  refine fnc_startG (N := 22) (np := 500) hT Try.func187 rfl rfl (by kernel_rfl) ?_
  unfold M.impl_clones at hM
  refine tr_start (ks := [0]) (st' := [(0, .d (.sl a0.length 0 (a0.flatMap (eS eI).b)))]) (by kernel_rfl) ?_
  refine tr_sr hT hm [] [0] [(0, .d (.sl a0.length 0 (a0.flatMap (eS eI).b)))] .nil (by kernel_rfl) (by kernel_rfl) ?_
  obtain ⟨h1, hM⟩ := chk_some hM
  refine tr_sr hT hm [] [0, 6, 2017] [(0, .d (.sl a0.length 0 (a0.flatMap (eS eI).b))), (6, .d (.rs 1008 0 (([] : List (List Int)).length))), (2017, .r (.arr 1 (([] : List (List Int)).flatMap (eS eI).o) []))] (.cons (Int.le_refl 0) (.cons h1.1 (.cons h1.2 .nil))) (by kernel_rfl) (by kernel_rfl) ?_
  refine tr_seq ?_
  refine tr_sr hT hm [] [6, 18, 20, 22, 2017] [(6, .d (.rs 1008 0 (([] : List (List Int)).length))), (18, .d (.sl a0.length 0 (a0.flatMap (eS eI).b))), (20, .d (iv (a0.length : Int))), (22, .d (iv 0)), (2017, .r (.arr 1 (([] : List (List Int)).flatMap (eS eI).o) []))] .nil (by kernel_rfl) (by kernel_rfl) ?_
  refine tr_block ?_
  refine tr_iterS (fun (s2 : (List (List Int)) × Int) => [(6, .d (.rs 1008 0 s2.1.length)), (18, .d (.sl a0.length 0 (a0.flatMap (eS eI).b))), (20, .d (iv (a0.length : Int))), (22, .d (iv s2.2)), (2017, .r (.arr 1 (s2.1.flatMap (eS eI).o) []))]) (([] : List (List Int)), 0) [6, 18, 20, 22, 2017] (by kernel_rfl) hM ?_
  intro n5 next3 ih4 s2 hM
  refine tr_sr hT hm [] [6, 18, 20, 22, 24, 2017] [(6, .d (.rs 1008 0 s2.1.length)), (18, .d (.sl a0.length 0 (a0.flatMap (eS eI).b))), (20, .d (iv (a0.length : Int))), (22, .d (iv s2.2)), (24, .d (bv (decide (s2.2 < (a0.length : Int))))), (2017, .r (.arr 1 (s2.1.flatMap (eS eI).o) []))] .nil (by kernel_rfl) (by kernel_rfl) ?_
  refine tr_seq ?_
  rcases Bool.eq_false_or_eq_true (decide (s2.2 < (a0.length : Int))) with h6 | h6
  · have hM := ite_true' hM h6
    refine tr_condTe (e := decide (s2.2 < (a0.length : Int))) h6 (by kernel_rfl) ?_
    refine tr_skip (q_n ?_)
    refine tr_seq ?_
    refine tr_block ?_
    obtain ⟨y7, hy7, hM⟩ := bind_some' hM
    have hy7' := idx_some hy7
    refine tr_sr hT hm [(1, .val (.sl y7.length 0 (y7.flatMap eI.b)))] [6, 10, 18, 20, 22, 2017] [(6, .d (.rs 1008 0 s2.1.length)), (10, .d (.sl y7.length 0 (y7.flatMap eI.b))), (18, .d (.sl a0.length 0 (a0.flatMap (eS eI).b))), (20, .d (iv (a0.length : Int))), (22, .d (iv s2.2)), (2017, .r (.arr 1 (s2.1.flatMap (eS eI).o) []))] (.cons hy7'.1 (.cons hy7'.2.1 (.cons (at_b0 (eS_ok eI_ok) hy7'.2.2 (d := .sl y7.length 0 (y7.flatMap eI.b)) (by kernel_rfl)) .nil))) (by kernel_rfl) (by kernel_rfl) ?_
    obtain ⟨v8, hv8, hM⟩ := bind_some' hM
    obtain ⟨h9, hM⟩ := chk_some hM
    refine tr_r hT hm [(2, .call [] [] [.sl y7.length 0 (y7.flatMap eI.b)] [] (.fr 1 v8.length (v8.flatMap eI.o))), (4, .app true)] [6, 18, 20, 22, 2039, 38001] [(6, .d (.rs 1019 0 (s2.1.length + 1))), (18, .d (.sl a0.length 0 (a0.flatMap (eS eI).b))), (20, .d (iv (a0.length : Int))), (22, .d (iv s2.2)), (2039, .r (.arr 1 (s2.1.flatMap (eS eI).o ++ [.rs 19000 0 v8.length]) [19000])), (38001, .r (.arr 1 (v8.flatMap eI.o) []))] (cc0 ok169 (impl_clone_c y7 _ hv8) (by kernel_rfl) (.cons (lenO_flat (eS_ok eI_ok) s2.1) (.cons (by kernel_rfl : ([.rs 19000 0 v8.length] : List D).length = 1 * 1) (.cons h9 .nil)))) (by kernel_rfl) (by kernel_rfl) (b_n (q_n ?_))
    refine Tr.by (imp_demE (r := 1019) (q := 19000) (sz := 1) (n := v8.length) (j := 0) (pre := s2.1.flatMap (eS eI).o) (l := [.rs 19000 0 v8.length]) (refs := [19000]) (refs' := []) (menO_flat (eS_ok eI_ok) _) (lenO_flat eI_ok v8) (by kernel_rfl) (by kernel_rfl) (by kernel_rfl) (by kernel_rfl) (by kernel_rfl)) ?_
    refine Tr.by (imp_cvE (r := 1019) (sz := 1) (refs := []) (flat_snoc (eS eI).o s2.1 v8) (menO_flat (eS_ok eI_ok) _) (by kernel_rfl)) ?_
    refine Tr.by (imp_cvD (k := 6) (congrArg (D.rs 1019 0) ((len_snoc s2.1 v8) : s2.1.length + 1 = (s2.1 ++ [v8]).length)) (by kernel_rfl)) ?_
    refine tr_r hT hm [] [6, 18, 20, 22, 2039] [(6, .d (.rs 1019 0 ((s2.1 ++ [v8]).length))), (18, .d (.sl a0.length 0 (a0.flatMap (eS eI).b))), (20, .d (iv (a0.length : Int))), (22, .d (iv (IntKind.i64.wrap (s2.2 + 1)))), (2039, .r (.arr 1 ((s2.1 ++ [v8]).flatMap (eS eI).o) []))] .nil (by kernel_rfl) (by kernel_rfl) (l_n ?_)
    refine TrL.by (imp_sel (ks := [6, 18, 20, 22, 2039]) (st' := [(6, .d (.rs 1019 0 ((s2.1 ++ [v8]).length))), (18, .d (.sl a0.length 0 (a0.flatMap (eS eI).b))), (20, .d (iv (a0.length : Int))), (22, .d (iv (IntKind.i64.wrap (s2.2 + 1)))), (2039, .r (.arr 1 ((s2.1 ++ [v8]).flatMap (eS eI).o) []))]) (by kernel_rfl)) ?_
    refine TrL.by (imp_rename (r := 1019) (q := 1008) (by kernel_rfl) (Nat.le_of_ble_eq_true rfl)) ?_
    exact trl_start (ks := [6, 18, 20, 22, 2017]) (by kernel_rfl) (ih4 (s2.1 ++ [v8], IntKind.i64.wrap (s2.2 + 1)) hM)
  · have hM := ite_false' hM h6
    refine tr_condFe (e := decide (s2.2 < (a0.length : Int))) h6 (by kernel_rfl) ?_
    refine tr_exit (q_x (l_x (b_h (q_n ?_))))
    refine tr_sr hT hm [] [4, 2017] [(4, .d (.rs 1008 0 s2.1.length)), (2017, .r (.arr 1 (s2.1.flatMap (eS eI).o) []))] .nil (by kernel_rfl) (by kernel_rfl) ?_
    refine tr_ret (rg_r ?_)
    obtain rfl := Option.some.inj hM
    exact retg (names := []) (.cons (lenO_flat (eS_ok eI_ok) s2.1) .nil) (by kernel_rfl)

theorem ok180 : CallOk Try.prog 180 := callOk_of Try.func180 (by kernel_rfl) (by kernel_rfl)
theorem impl_Category_copy_c (a0 : XCategory) (r : XCategory) (hM : M.impl_Category_copy a0 = some r) :
    FnC Try.prog 180 [] [.pt (eXCategory.b a0) 0] [] (.agg (eXCategory.o r)) := by
  refine fnc_startG (N := 28) (np := 500) hT Try.func180 rfl rfl (by kernel_rfl) ?_
  unfold M.impl_Category_copy at hM
  refine tr_start (ks := [0]) (st' := [(0, .d (.pt (eXCategory.b a0) 0))]) (by kernel_rfl) ?_
  refine tr_sr hT hm [] [0, 4, 2005] [(0, .d (.pt (eXCategory.b a0) 0)), (4, .d (.rp 1002 0)), (2005, .r (.arr 1 [iv 0, nilv, nilv, nilv, nilv] []))] .nil (by kernel_rfl) (by kernel_rfl) ?_
  obtain ⟨v1, hv1, hM⟩ := bind_some' hM
  obtain ⟨v2, hv2, hM⟩ := bind_some' hM
  obtain ⟨v3, hv3, hM⟩ := bind_some' hM
  obtain ⟨v4, hv4, hM⟩ := bind_some' hM
  refine tr_sr hT hm [(8, .call [] [] [.sl a0.From.length 0 (a0.From.flatMap eI.b)] [] (.fr 1 v1.length (v1.flatMap eI.o))), (13, .call [] [] [.sl a0.To.length 0 (a0.To.flatMap eI.b)] [] (.fr 1 v2.length (v2.flatMap eI.o))), (18, .call [] [] [.sl a0.Identity.length 0 (a0.Identity.flatMap eI.b)] [] (.fr 1 v3.length (v3.flatMap eI.o))), (23, .call [] [] [.sl a0.Composites.length 0 (a0.Composites.flatMap (eS eI).b)] [] (.fr 1 v4.length (v4.flatMap (eS eI).o)))] [4, 2005, 26001, 36001, 46001, 56001] [(4, .d (.rp 1002 0)), (2005, .r (.arr 1 [iv a0.Objects, .rs 13000 0 v1.length, .rs 18000 0 v2.length, .rs 23000 0 v3.length, .rs 28000 0 v4.length] [13000, 18000, 23000, 28000])), (26001, .r (.arr 1 (v1.flatMap eI.o) [])), (36001, .r (.arr 1 (v2.flatMap eI.o) [])), (46001, .r (.arr 1 (v3.flatMap eI.o) [])), (56001, .r (.arr 1 (v4.flatMap (eS eI).o) []))] (cc0 ok169 (impl_clone_c a0.From _ hv1) (by kernel_rfl) (cc0 ok169 (impl_clone_c a0.To _ hv2) (by kernel_rfl) (cc0 ok169 (impl_clone_c a0.Identity _ hv3) (by kernel_rfl) (cc0 ok187 (impl_clones_c a0.Composites _ hv4) (by kernel_rfl) (.cons (Nat.le_of_ble_eq_true (n := 5) (m := 5) rfl) .nil))))) (by kernel_rfl) (by kernel_rfl) ?_
  refine tr_ret (rg_r ?_)
  obtain rfl := Option.some.inj hM
  exact retg (names := []) (.cons (lenO_flat eI_ok v1) (.cons (lenO_flat eI_ok v2) (.cons (lenO_flat eI_ok v3) (.cons (lenO_flat (eS_ok eI_ok) v4) .nil)))) (by kernel_rfl)

theorem ok114 : CallOk Try.prog 114 := callOk_of Try.func114 (by kernel_rfl) (by kernel_rfl)
theorem impl_functor_c (a0 : XCategory) (a1 : XCategory) (a2 : List Int) (a3 : List Int) (r : XFunctor) (hM : M.impl_functor a0 a1 a2 a3 = some r) :
    FnC Try.prog 114 [] [.pt (eXCategory.b a0) 0, .pt (eXCategory.b a1) 0, .sl a2.length 0 (a2.flatMap eI.b), .sl a3.length 0 (a3.flatMap eI.b)] [] (.agg (eXFunctor.o r)) := by
  refine fnc_startG (N := 18) (np := 500) hT Try.func114 rfl rfl (by kernel_rfl) ?_
  unfold M.impl_functor at hM
  refine tr_start (ks := [0, 2, 4, 6]) (st' := [(0, .d (.pt (eXCategory.b a0) 0)), (2, .d (.pt (eXCategory.b a1) 0)), (4, .d (.sl a2.length 0 (a2.flatMap eI.b))), (6, .d (.sl a3.length 0 (a3.flatMap eI.b)))]) (by kernel_rfl) ?_
  refine tr_sr hT hm [] [0, 2, 4, 6, 16, 2017] [(0, .d (.pt (eXCategory.b a0) 0)), (2, .d (.pt (eXCategory.b a1) 0)), (4, .d (.sl a2.length 0 (a2.flatMap eI.b))), (6, .d (.sl a3.length 0 (a3.flatMap eI.b))), (16, .d (.rp 1008 0)), (2017, .r (.arr 1 [iv 0, nilv, nilv, nilv, nilv, iv 0, nilv, nilv, nilv, nilv, nilv, nilv] []))] .nil (by kernel_rfl) (by kernel_rfl) ?_
  obtain ⟨v1, hv1, hM⟩ := bind_some' hM
  obtain ⟨v2, hv2, hM⟩ := bind_some' hM
  obtain ⟨v3, hv3, hM⟩ := bind_some' hM
  obtain ⟨v4, hv4, hM⟩ := bind_some' hM
  refine tr_sr hT hm [(1, .call [] [] [.pt (eXCategory.b a0) 0] [] (.agg (eXCategory.o v1))), (3, .call [] [] [.pt (eXCategory.b a1) 0] [] (.agg (eXCategory.o v2))), (5, .call [] [] [.sl a2.length 0 (a2.flatMap eI.b)] [] (.fr 1 v3.length (v3.flatMap eI.o))), (7, .call [] [] [.sl a3.length 0 (a3.flatMap eI.b)] [] (.fr 1 v4.length (v4.flatMap eI.o)))] [16, 2017, 24003, 24005, 24007, 24009, 28003, 28005, 28007, 28009, 32001, 36001] [(16, .d (.rp 1008 0)), (2017, .r (.arr 1 [iv v1.Objects, .rs 12001 0 v1.From.length, .rs 12002 0 v1.To.length, .rs 12003 0 v1.Identity.length, .rs 12004 0 v1.Composites.length, iv v2.Objects, .rs 14001 0 v2.From.length, .rs 14002 0 v2.To.length, .rs 14003 0 v2.Identity.length, .rs 14004 0 v2.Composites.length, .rs 16000 0 v3.length, .rs 18000 0 v4.length] [12001, 12002, 12003, 12004, 14001, 14002, 14003, 14004, 16000, 18000])), (24003, .r (.arr 1 (v1.From.flatMap eI.o) [])), (24005, .r (.arr 1 (v1.To.flatMap eI.o) [])), (24007, .r (.arr 1 (v1.Identity.flatMap eI.o) [])), (24009, .r (.arr 1 (v1.Composites.flatMap (eS eI).o) [])), (28003, .r (.arr 1 (v2.From.flatMap eI.o) [])), (28005, .r (.arr 1 (v2.To.flatMap eI.o) [])), (28007, .r (.arr 1 (v2.Identity.flatMap eI.o) [])), (28009, .r (.arr 1 (v2.Composites.flatMap (eS eI).o) [])), (32001, .r (.arr 1 (v3.flatMap eI.o) [])), (36001, .r (.arr 1 (v4.flatMap eI.o) []))] (cc0 ok180 (impl_Category_copy_c a0 _ hv1) (by kernel_rfl) (cc0 ok180 (impl_Category_copy_c a1 _ hv2) (by kernel_rfl) (cc0 ok169 (impl_clone_c a2 _ hv3) (by kernel_rfl) (cc0 ok169 (impl_clone_c a3 _ hv4) (by kernel_rfl) (.cons (Nat.le_of_ble_eq_true (n := 12) (m := 12) rfl) .nil))))) (by kernel_rfl) (by kernel_rfl) ?_
  refine tr_ret (rg_r ?_)
  obtain rfl := Option.some.inj hM
  exact retg (names := []) (.cons (lenO_flat eI_ok v1.From) (.cons (lenO_flat eI_ok v1.To) (.cons (lenO_flat eI_ok v1.Identity) (.cons (lenO_flat (eS_ok eI_ok) v1.Composites) (.cons (lenO_flat eI_ok v2.From) (.cons (lenO_flat eI_ok v2.To) (.cons (lenO_flat eI_ok v2.Identity) (.cons (lenO_flat (eS_ok eI_ok) v2.Composites) (.cons (lenO_flat eI_ok v3) (.cons (lenO_flat eI_ok v4) .nil)))))))))) (by kernel_rfl)

end Go.Proofs.Ytggojehmbpbefaa
