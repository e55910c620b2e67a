/- Walks. Printed by wip/gen. -/
import Derived.Test.YtggojehmbpbefaaGxL1W0
namespace Go.Proofs.Ytggojehmbpbefaa
open Go.Gx

theorem ok204 : CallOk Try.prog 204 := callOk_of Try.func204 (by kernel_rfl) (by kernel_rfl)
theorem spec_l02Fault_c (a0 : XCategory) (r : Int × Int × Int × Int) (hM : M.spec_l02Fault a0 = some r) :
    FnC Try.prog 204 [] [.agg (eXCategory.b a0)] [] (.tup [iv r.1, iv r.2.1, iv r.2.2.1, iv r.2.2.2]) := by
  refine fnc_startG (N := 131) (np := 500) hT Try.func204 rfl rfl (by kernel_rfl) ?_
  unfold M.spec_l02Fault at hM
  refine tr_start (ks := [0]) (st' := [(0, .d (.agg [iv a0.Objects, .sl a0.From.length 0 (a0.From.flatMap eI.b), .sl a0.To.length 0 (a0.To.flatMap eI.b), .sl a0.Identity.length 0 (a0.Identity.flatMap eI.b), .sl a0.Composites.length 0 (a0.Composites.flatMap (eS eI).b)]))]) (by kernel_rfl) ?_
  refine tr_sr hT hm [] [2, 2003] [(2, .d (.rp 1001 0)), (2003, .r (.arr 1 [iv a0.Objects, .sl a0.From.length 0 (a0.From.flatMap eI.b), .sl a0.To.length 0 (a0.To.flatMap eI.b), .sl a0.Identity.length 0 (a0.Identity.flatMap eI.b), .sl a0.Composites.length 0 (a0.Composites.flatMap (eS eI).b)] []))] .nil (by kernel_rfl) (by kernel_rfl) ?_
  refine tr_sr hT hm [] [2, 12, 2003] [(2, .d (.rp 1001 0)), (12, .d (iv (a0.From.length : Int))), (2003, .r (.arr 1 [iv a0.Objects, .sl a0.From.length 0 (a0.From.flatMap eI.b), .sl a0.To.length 0 (a0.To.flatMap eI.b), .sl a0.Identity.length 0 (a0.Identity.flatMap eI.b), .sl a0.Composites.length 0 (a0.Composites.flatMap (eS eI).b)] []))] .nil (by kernel_rfl) (by kernel_rfl) ?_
  refine tr_seq ?_
  refine tr_sr hT hm [] [2, 12, 14, 2003] [(2, .d (.rp 1001 0)), (12, .d (iv (a0.From.length : Int))), (14, .d (iv 0)), (2003, .r (.arr 1 [iv a0.Objects, .sl a0.From.length 0 (a0.From.flatMap eI.b), .sl a0.To.length 0 (a0.To.flatMap eI.b), .sl a0.Identity.length 0 (a0.Identity.flatMap eI.b), .sl a0.Composites.length 0 (a0.Composites.flatMap (eS eI).b)] []))] .nil (by kernel_rfl) (by kernel_rfl) ?_
  refine tr_block ?_
  refine tr_iterS (fun (s1 : Int) => [(2, .d (.rp 1001 0)), (12, .d (iv (a0.From.length : Int))), (14, .d (iv s1)), (2003, .r (.arr 1 [iv a0.Objects, .sl a0.From.length 0 (a0.From.flatMap eI.b), .sl a0.To.length 0 (a0.To.flatMap eI.b), .sl a0.Identity.length 0 (a0.Identity.flatMap eI.b), .sl a0.Composites.length 0 (a0.Composites.flatMap (eS eI).b)] []))]) 0 [2, 12, 14, 2003] (by kernel_rfl) hM ?_
  intro n4 next2 ih3 s1 hM
  refine tr_seq ?_
  refine tr_sr hT hm [] [2, 12, 14, 32, 2003] [(2, .d (.rp 1001 0)), (12, .d (iv (a0.From.length : Int))), (14, .d (iv s1)), (32, .d (bv (decide (s1 < (a0.From.length : Int))))), (2003, .r (.arr 1 [iv a0.Objects, .sl a0.From.length 0 (a0.From.flatMap eI.b), .sl a0.To.length 0 (a0.To.flatMap eI.b), .sl a0.Identity.length 0 (a0.Identity.flatMap eI.b), .sl a0.Composites.length 0 (a0.Composites.flatMap (eS eI).b)] []))] .nil (by kernel_rfl) (by kernel_rfl) ?_
  rcases Bool.eq_false_or_eq_true (decide (s1 < (a0.From.length : Int))) with h5 | h5
  · have hM := ite_true' hM h5
    refine tr_condTe (e := decide (s1 < (a0.From.length : Int))) h5 (by kernel_rfl) ?_
    refine tr_skip (q_n ?_)
    refine tr_seq ?_
    refine tr_block ?_
    obtain ⟨y6, hy6, hM⟩ := bind_some' hM
    have hy6' := idx_some hy6
    obtain ⟨y7, hy7, hM⟩ := bind_some' hM
    have hy7' := idx_some hy7
    obtain ⟨y8, hy8, hM⟩ := bind_some' hM
    have hy8' := idx_some hy8
    obtain ⟨y9, hy9, hM⟩ := bind_some' hM
    have hy9' := idx_some hy9
    rcases Bool.eq_false_or_eq_true (y9 != s1) with h10 | h10
    · have hM := ite_true' hM h10
      refine tr_sr hT hm [(8, .val (iv y6)), (10, .val (iv y7)), (12, .val (.sl y8.length 0 (y8.flatMap eI.b))), (15, .val (iv y9)), (18, .val (bv true))] [2, 12, 14, 112, 2003] [(2, .d (.rp 1001 0)), (12, .d (iv (a0.From.length : Int))), (14, .d (iv s1)), (112, .d (bv true)), (2003, .r (.arr 1 [iv a0.Objects, .sl a0.From.length 0 (a0.From.flatMap eI.b), .sl a0.To.length 0 (a0.To.flatMap eI.b), .sl a0.Identity.length 0 (a0.Identity.flatMap eI.b), .sl a0.Composites.length 0 (a0.Composites.flatMap (eS eI).b)] []))] (.cons hy6'.1 (.cons hy6'.2.1 (.cons (at_b0 eI_ok hy6'.2.2 (d := iv y6) (by kernel_rfl)) (.cons hy7'.1 (.cons hy7'.2.1 (.cons (at_b0 eI_ok hy7'.2.2 (d := iv y7) (by kernel_rfl)) (.cons hy8'.1 (.cons hy8'.2.1 (.cons (at_b0 (eS_ok eI_ok) hy8'.2.2 (d := .sl y8.length 0 (y8.flatMap eI.b)) (by kernel_rfl)) (.cons hy9'.1 (.cons hy9'.2.1 (.cons (at_b0 eI_ok hy9'.2.2 (d := iv y9) (by kernel_rfl)) (.cons (congrArg (fun b => bv b) h10) .nil))))))))))))) (by kernel_rfl) (by kernel_rfl) ?_
      refine tr_condT (by kernel_rfl) ?_
      refine tr_sr hT hm [] [4, 6, 8, 10] [(4, .d (iv 1)), (6, .d (iv s1)), (8, .d (iv 0)), (10, .d (iv 0))] .nil (by kernel_rfl) (by kernel_rfl) ?_
      refine tr_ret (b_r (q_r (l_r (b_r (q_r (rg_r ?_))))))
      obtain rfl := Option.some.inj hM
      exact retg (names := []) .nil (by kernel_rfl)
    · have hM := ite_false' hM h10
      obtain ⟨y11, hy11, hM⟩ := bind_some' hM
      have hy11' := idx_some hy11
      obtain ⟨y12, hy12, hM⟩ := bind_some' hM
      have hy12' := idx_some hy12
      obtain ⟨y13, hy13, hM⟩ := bind_some' hM
      have hy13' := idx_some hy13
      obtain ⟨y14, hy14, hM⟩ := bind_some' hM
      have hy14' := idx_some hy14
      refine tr_sr hT hm [(8, .val (iv y6)), (10, .val (iv y7)), (12, .val (.sl y8.length 0 (y8.flatMap eI.b))), (15, .val (iv y9)), (18, .val (bv false)), (23, .val (.sl y11.length 0 (y11.flatMap eI.b))), (30, .val (iv y12)), (32, .val (iv y13)), (34, .val (iv y14))] [2, 12, 14, 76, 78, 80, 82, 84, 86, 88, 90, 92, 94, 96, 98, 100, 102, 104, 106, 108, 110, 112, 2003] [(2, .d (.rp 1001 0)), (12, .d (iv (a0.From.length : Int))), (14, .d (iv s1)), (76, .d (.rp 1001 4)), (78, .d (.sl a0.Composites.length 0 (a0.Composites.flatMap (eS eI).b))), (80, .d (iv s1)), (82, .d (.pt (a0.Composites.flatMap (eS eI).b) (0 + s1.toNat * 1))), (84, .d (.sl y11.length 0 (y11.flatMap eI.b))), (86, .d (.rp 1001 3)), (88, .d (.sl a0.Identity.length 0 (a0.Identity.flatMap eI.b))), (90, .d (.rp 1001 2)), (92, .d (.sl a0.To.length 0 (a0.To.flatMap eI.b))), (94, .d (iv s1)), (96, .d (.pt (a0.To.flatMap eI.b) (0 + s1.toNat * 1))), (98, .d (iv y12)), (100, .d (.pt (a0.Identity.flatMap eI.b) (0 + y12.toNat * 1))), (102, .d (iv y13)), (104, .d (.pt (y11.flatMap eI.b) (0 + y13.toNat * 1))), (106, .d (iv y14)), (108, .d (iv s1)), (110, .d (bv (y14 != s1))), (112, .d (bv (y14 != s1))), (2003, .r (.arr 1 [iv a0.Objects, .sl a0.From.length 0 (a0.From.flatMap eI.b), .sl a0.To.length 0 (a0.To.flatMap eI.b), .sl a0.Identity.length 0 (a0.Identity.flatMap eI.b), .sl a0.Composites.length 0 (a0.Composites.flatMap (eS eI).b)] []))] (.cons hy6'.1 (.cons hy6'.2.1 (.cons (at_b0 eI_ok hy6'.2.2 (d := iv y6) (by kernel_rfl)) (.cons hy7'.1 (.cons hy7'.2.1 (.cons (at_b0 eI_ok hy7'.2.2 (d := iv y7) (by kernel_rfl)) (.cons hy8'.1 (.cons hy8'.2.1 (.cons (at_b0 (eS_ok eI_ok) hy8'.2.2 (d := .sl y8.length 0 (y8.flatMap eI.b)) (by kernel_rfl)) (.cons hy9'.1 (.cons hy9'.2.1 (.cons (at_b0 eI_ok hy9'.2.2 (d := iv y9) (by kernel_rfl)) (.cons (congrArg (fun b => bv b) h10) (.cons hy11'.1 (.cons hy11'.2.1 (.cons (at_b0 (eS_ok eI_ok) hy11'.2.2 (d := .sl y11.length 0 (y11.flatMap eI.b)) (by kernel_rfl)) (.cons hy12'.1 (.cons hy12'.2.1 (.cons (at_b0 eI_ok hy12'.2.2 (d := iv y12) (by kernel_rfl)) (.cons hy13'.1 (.cons hy13'.2.1 (.cons (at_b0 eI_ok hy13'.2.2 (d := iv y13) (by kernel_rfl)) (.cons hy14'.1 (.cons hy14'.2.1 (.cons (at_b0 eI_ok hy14'.2.2 (d := iv y14) (by kernel_rfl)) .nil))))))))))))))))))))))))) (by kernel_rfl) (by kernel_rfl) ?_
      rcases Bool.eq_false_or_eq_true (y14 != s1) with h15 | h15
      · have hM := ite_true' hM h15
        refine tr_condTe (e := y14 != s1) h15 (by kernel_rfl) ?_
        refine tr_sr hT hm [] [4, 6, 8, 10] [(4, .d (iv 1)), (6, .d (iv s1)), (8, .d (iv 0)), (10, .d (iv 0))] .nil (by kernel_rfl) (by kernel_rfl) ?_
        refine tr_ret (b_r (q_r (l_r (b_r (q_r (rg_r ?_))))))
        obtain rfl := Option.some.inj hM
        exact retg (names := []) .nil (by kernel_rfl)
      · have hM := ite_false' hM h15
        refine tr_condFe (e := y14 != s1) h15 (by kernel_rfl) ?_
        refine tr_skip (b_n (q_n ?_))
        refine tr_r hT hm [] [2, 12, 14, 76, 78, 80, 82, 84, 86, 88, 90, 92, 94, 96, 98, 100, 102, 104, 106, 108, 110, 2003] [(2, .d (.rp 1001 0)), (12, .d (iv (a0.From.length : Int))), (14, .d (iv (IntKind.i64.wrap (s1 + 1)))), (76, .d (.rp 1001 4)), (78, .d (.sl a0.Composites.length 0 (a0.Composites.flatMap (eS eI).b))), (80, .d (iv s1)), (82, .d (.pt (a0.Composites.flatMap (eS eI).b) (0 + s1.toNat * 1))), (84, .d (.sl y11.length 0 (y11.flatMap eI.b))), (86, .d (.rp 1001 3)), (88, .d (.sl a0.Identity.length 0 (a0.Identity.flatMap eI.b))), (90, .d (.rp 1001 2)), (92, .d (.sl a0.To.length 0 (a0.To.flatMap eI.b))), (94, .d (iv s1)), (96, .d (.pt (a0.To.flatMap eI.b) (0 + s1.toNat * 1))), (98, .d (iv y12)), (100, .d (.pt (a0.Identity.flatMap eI.b) (0 + y12.toNat * 1))), (102, .d (iv y13)), (104, .d (.pt (y11.flatMap eI.b) (0 + y13.toNat * 1))), (106, .d (iv y14)), (108, .d (iv s1)), (110, .d (bv (y14 != s1))), (2003, .r (.arr 1 [iv a0.Objects, .sl a0.From.length 0 (a0.From.flatMap eI.b), .sl a0.To.length 0 (a0.To.flatMap eI.b), .sl a0.Identity.length 0 (a0.Identity.flatMap eI.b), .sl a0.Composites.length 0 (a0.Composites.flatMap (eS eI).b)] []))] .nil (by kernel_rfl) (by kernel_rfl) (l_n ?_)
        exact trl_start (ks := [2, 12, 14, 2003]) (by kernel_rfl) (ih3 (IntKind.i64.wrap (s1 + 1)) hM)
  · have hM := ite_false' hM h5
    refine tr_condFe (e := decide (s1 < (a0.From.length : Int))) h5 (by kernel_rfl) ?_
    refine tr_exit (q_x (l_x (b_h (q_n ?_))))
    refine tr_seq ?_
    refine tr_sr hT hm [] [2, 12, 16, 2003] [(2, .d (.rp 1001 0)), (12, .d (iv (a0.From.length : Int))), (16, .d (iv 0)), (2003, .r (.arr 1 [iv a0.Objects, .sl a0.From.length 0 (a0.From.flatMap eI.b), .sl a0.To.length 0 (a0.To.flatMap eI.b), .sl a0.Identity.length 0 (a0.Identity.flatMap eI.b), .sl a0.Composites.length 0 (a0.Composites.flatMap (eS eI).b)] []))] .nil (by kernel_rfl) (by kernel_rfl) ?_
    refine tr_block ?_
    refine tr_iterS (fun (s16 : Int) => [(2, .d (.rp 1001 0)), (12, .d (iv (a0.From.length : Int))), (16, .d (iv s16)), (2003, .r (.arr 1 [iv a0.Objects, .sl a0.From.length 0 (a0.From.flatMap eI.b), .sl a0.To.length 0 (a0.To.flatMap eI.b), .sl a0.Identity.length 0 (a0.Identity.flatMap eI.b), .sl a0.Composites.length 0 (a0.Composites.flatMap (eS eI).b)] []))]) 0 [2, 12, 16, 2003] (by kernel_rfl) hM ?_
    intro n19 next17 ih18 s16 hM
    refine tr_seq ?_
    refine tr_sr hT hm [] [2, 12, 16, 120, 2003] [(2, .d (.rp 1001 0)), (12, .d (iv (a0.From.length : Int))), (16, .d (iv s16)), (120, .d (bv (decide (s16 < (a0.From.length : Int))))), (2003, .r (.arr 1 [iv a0.Objects, .sl a0.From.length 0 (a0.From.flatMap eI.b), .sl a0.To.length 0 (a0.To.flatMap eI.b), .sl a0.Identity.length 0 (a0.Identity.flatMap eI.b), .sl a0.Composites.length 0 (a0.Composites.flatMap (eS eI).b)] []))] .nil (by kernel_rfl) (by kernel_rfl) ?_
    rcases Bool.eq_false_or_eq_true (decide (s16 < (a0.From.length : Int))) with h20 | h20
    · have hM := ite_true' hM h20
      refine tr_condTe (e := decide (s16 < (a0.From.length : Int))) h20 (by kernel_rfl) ?_
      refine tr_skip (q_n ?_)
      refine tr_seq ?_
      refine tr_block ?_
      refine tr_sr hT hm [] [2, 12, 16, 18, 2003] [(2, .d (.rp 1001 0)), (12, .d (iv (a0.From.length : Int))), (16, .d (iv s16)), (18, .d (iv 0)), (2003, .r (.arr 1 [iv a0.Objects, .sl a0.From.length 0 (a0.From.flatMap eI.b), .sl a0.To.length 0 (a0.To.flatMap eI.b), .sl a0.Identity.length 0 (a0.Identity.flatMap eI.b), .sl a0.Composites.length 0 (a0.Composites.flatMap (eS eI).b)] []))] .nil (by kernel_rfl) (by kernel_rfl) ?_
      refine tr_block ?_
      refine tr_iterS (fun (s21 : Int) => [(2, .d (.rp 1001 0)), (12, .d (iv (a0.From.length : Int))), (16, .d (iv s16)), (18, .d (iv s21)), (2003, .r (.arr 1 [iv a0.Objects, .sl a0.From.length 0 (a0.From.flatMap eI.b), .sl a0.To.length 0 (a0.To.flatMap eI.b), .sl a0.Identity.length 0 (a0.Identity.flatMap eI.b), .sl a0.Composites.length 0 (a0.Composites.flatMap (eS eI).b)] []))]) 0 [2, 12, 16, 18, 2003] (by kernel_rfl) hM ?_
      intro n24 next22 ih23 s21 hM
      refine tr_seq ?_
      refine tr_sr hT hm [] [2, 12, 16, 18, 130, 2003] [(2, .d (.rp 1001 0)), (12, .d (iv (a0.From.length : Int))), (16, .d (iv s16)), (18, .d (iv s21)), (130, .d (bv (decide (s21 < (a0.From.length : Int))))), (2003, .r (.arr 1 [iv a0.Objects, .sl a0.From.length 0 (a0.From.flatMap eI.b), .sl a0.To.length 0 (a0.To.flatMap eI.b), .sl a0.Identity.length 0 (a0.Identity.flatMap eI.b), .sl a0.Composites.length 0 (a0.Composites.flatMap (eS eI).b)] []))] .nil (by kernel_rfl) (by kernel_rfl) ?_
      rcases Bool.eq_false_or_eq_true (decide (s21 < (a0.From.length : Int))) with h25 | h25
      · have hM := ite_true' hM h25
        refine tr_condTe (e := decide (s21 < (a0.From.length : Int))) h25 (by kernel_rfl) ?_
        refine tr_skip (q_n ?_)
        refine tr_seq ?_
        refine tr_block ?_
        refine tr_seq ?_
        obtain ⟨y26, hy26, hM⟩ := bind_some' hM
        have hy26' := idx_some hy26
        obtain ⟨y27, hy27, hM⟩ := bind_some' hM
        have hy27' := idx_some hy27
        refine tr_sr hT hm [(4, .val (iv y26)), (9, .val (iv y27))] [2, 12, 16, 18, 156, 2003] [(2, .d (.rp 1001 0)), (12, .d (iv (a0.From.length : Int))), (16, .d (iv s16)), (18, .d (iv s21)), (156, .d (bv (y26 != y27))), (2003, .r (.arr 1 [iv a0.Objects, .sl a0.From.length 0 (a0.From.flatMap eI.b), .sl a0.To.length 0 (a0.To.flatMap eI.b), .sl a0.Identity.length 0 (a0.Identity.flatMap eI.b), .sl a0.Composites.length 0 (a0.Composites.flatMap (eS eI).b)] []))] (.cons hy26'.1 (.cons hy26'.2.1 (.cons (at_b0 eI_ok hy26'.2.2 (d := iv y26) (by kernel_rfl)) (.cons hy27'.1 (.cons hy27'.2.1 (.cons (at_b0 eI_ok hy27'.2.2 (d := iv y27) (by kernel_rfl)) .nil)))))) (by kernel_rfl) (by kernel_rfl) ?_
        rcases Bool.eq_false_or_eq_true (y26 != y27) with h28 | h28
        · have hM := ite_true' hM h28
          refine tr_condTe (e := y26 != y27) h28 (by kernel_rfl) ?_
          refine tr_exit (q_x (b_h (q_n ?_)))
          refine tr_r hT hm [] [2, 12, 16, 18, 2003] [(2, .d (.rp 1001 0)), (12, .d (iv (a0.From.length : Int))), (16, .d (iv s16)), (18, .d (iv (IntKind.i64.wrap (s21 + 1)))), (2003, .r (.arr 1 [iv a0.Objects, .sl a0.From.length 0 (a0.From.flatMap eI.b), .sl a0.To.length 0 (a0.To.flatMap eI.b), .sl a0.Identity.length 0 (a0.Identity.flatMap eI.b), .sl a0.Composites.length 0 (a0.Composites.flatMap (eS eI).b)] []))] .nil (by kernel_rfl) (by kernel_rfl) (l_n ?_)
          exact trl_start (ks := [2, 12, 16, 18, 2003]) (by kernel_rfl) (ih23 (IntKind.i64.wrap (s21 + 1)) hM)
        · have hM := ite_false' hM h28
          refine tr_condFe (e := y26 != y27) h28 (by kernel_rfl) ?_
          refine tr_skip (q_n ?_)
          refine tr_sr hT hm [] [2, 12, 16, 18, 20, 2003] [(2, .d (.rp 1001 0)), (12, .d (iv (a0.From.length : Int))), (16, .d (iv s16)), (18, .d (iv s21)), (20, .d (iv 0)), (2003, .r (.arr 1 [iv a0.Objects, .sl a0.From.length 0 (a0.From.flatMap eI.b), .sl a0.To.length 0 (a0.To.flatMap eI.b), .sl a0.Identity.length 0 (a0.Identity.flatMap eI.b), .sl a0.Composites.length 0 (a0.Composites.flatMap (eS eI).b)] []))] .nil (by kernel_rfl) (by kernel_rfl) ?_
          refine tr_block ?_
          refine tr_iterS (fun (s29 : Int) => [(2, .d (.rp 1001 0)), (12, .d (iv (a0.From.length : Int))), (16, .d (iv s16)), (18, .d (iv s21)), (20, .d (iv s29)), (2003, .r (.arr 1 [iv a0.Objects, .sl a0.From.length 0 (a0.From.flatMap eI.b), .sl a0.To.length 0 (a0.To.flatMap eI.b), .sl a0.Identity.length 0 (a0.Identity.flatMap eI.b), .sl a0.Composites.length 0 (a0.Composites.flatMap (eS eI).b)] []))]) 0 [2, 12, 16, 18, 20, 2003] (by kernel_rfl) hM ?_
          intro n32 next30 ih31 s29 hM
          refine tr_seq ?_
          refine tr_sr hT hm [] [2, 12, 16, 18, 20, 162, 2003] [(2, .d (.rp 1001 0)), (12, .d (iv (a0.From.length : Int))), (16, .d (iv s16)), (18, .d (iv s21)), (20, .d (iv s29)), (162, .d (bv (decide (s29 < (a0.From.length : Int))))), (2003, .r (.arr 1 [iv a0.Objects, .sl a0.From.length 0 (a0.From.flatMap eI.b), .sl a0.To.length 0 (a0.To.flatMap eI.b), .sl a0.Identity.length 0 (a0.Identity.flatMap eI.b), .sl a0.Composites.length 0 (a0.Composites.flatMap (eS eI).b)] []))] .nil (by kernel_rfl) (by kernel_rfl) ?_
          rcases Bool.eq_false_or_eq_true (decide (s29 < (a0.From.length : Int))) with h33 | h33
          · have hM := ite_true' hM h33
            refine tr_condTe (e := decide (s29 < (a0.From.length : Int))) h33 (by kernel_rfl) ?_
            refine tr_skip (q_n ?_)
            refine tr_seq ?_
            refine tr_block ?_
            obtain ⟨y34, hy34, hM⟩ := bind_some' hM
            have hy34' := idx_some hy34
            obtain ⟨y35, hy35, hM⟩ := bind_some' hM
            have hy35' := idx_some hy35
            rcases Bool.eq_false_or_eq_true (y34 == y35) with h36 | h36
            · have hM := ite_true' hM h36
              obtain ⟨y37, hy37, hM⟩ := bind_some' hM
              have hy37' := idx_some hy37
              obtain ⟨y38, hy38, hM⟩ := bind_some' hM
              have hy38' := idx_some hy38
              obtain ⟨y39, hy39, hM⟩ := bind_some' hM
              have hy39' := idx_some hy39
              obtain ⟨y40, hy40, hM⟩ := bind_some' hM
              have hy40' := idx_some hy40
              obtain ⟨y41, hy41, hM⟩ := bind_some' hM
              have hy41' := idx_some hy41
              obtain ⟨y42, hy42, hM⟩ := bind_some' hM
              have hy42' := idx_some hy42
              obtain ⟨y43, hy43, hM⟩ := bind_some' hM
              have hy43' := idx_some hy43
              refine tr_sr hT hm [(4, .val (iv y34)), (9, .val (iv y35)), (11, .val (bv true)), (18, .val (.sl y37.length 0 (y37.flatMap eI.b))), (21, .val (iv y38)), (23, .val (.sl y39.length 0 (y39.flatMap eI.b))), (26, .val (iv y40)), (31, .val (.sl y37.length 0 (y37.flatMap eI.b))), (36, .val (.sl y41.length 0 (y41.flatMap eI.b))), (39, .val (iv y42)), (41, .val (iv y43))] [2, 12, 16, 18, 20, 192, 194, 196, 198, 200, 202, 204, 206, 208, 210, 212, 214, 216, 218, 220, 222, 224, 226, 228, 230, 232, 234, 236, 238, 240, 242, 244, 246, 248, 250, 252, 254, 2003] [(2, .d (.rp 1001 0)), (12, .d (iv (a0.From.length : Int))), (16, .d (iv s16)), (18, .d (iv s21)), (20, .d (iv s29)), (192, .d (.rp 1001 4)), (194, .d (.sl a0.Composites.length 0 (a0.Composites.flatMap (eS eI).b))), (196, .d (.rp 1001 4)), (198, .d (.sl a0.Composites.length 0 (a0.Composites.flatMap (eS eI).b))), (200, .d (iv s16)), (202, .d (.pt (a0.Composites.flatMap (eS eI).b) (0 + s16.toNat * 1))), (204, .d (.sl y37.length 0 (y37.flatMap eI.b))), (206, .d (iv s21)), (208, .d (.pt (y37.flatMap eI.b) (0 + s21.toNat * 1))), (210, .d (iv y38)), (212, .d (.pt (a0.Composites.flatMap (eS eI).b) (0 + y38.toNat * 1))), (214, .d (.sl y39.length 0 (y39.flatMap eI.b))), (216, .d (iv s29)), (218, .d (.pt (y39.flatMap eI.b) (0 + s29.toNat * 1))), (220, .d (iv y40)), (222, .d (.rp 1001 4)), (224, .d (.sl a0.Composites.length 0 (a0.Composites.flatMap (eS eI).b))), (226, .d (iv s16)), (228, .d (.pt (a0.Composites.flatMap (eS eI).b) (0 + s16.toNat * 1))), (230, .d (.sl y37.length 0 (y37.flatMap eI.b))), (232, .d (.rp 1001 4)), (234, .d (.sl a0.Composites.length 0 (a0.Composites.flatMap (eS eI).b))), (236, .d (iv s21)), (238, .d (.pt (a0.Composites.flatMap (eS eI).b) (0 + s21.toNat * 1))), (240, .d (.sl y41.length 0 (y41.flatMap eI.b))), (242, .d (iv s29)), (244, .d (.pt (y41.flatMap eI.b) (0 + s29.toNat * 1))), (246, .d (iv y42)), (248, .d (.pt (y37.flatMap eI.b) (0 + y42.toNat * 1))), (250, .d (iv y43)), (252, .d (bv (y40 != y43))), (254, .d (bv (y40 != y43))), (2003, .r (.arr 1 [iv a0.Objects, .sl a0.From.length 0 (a0.From.flatMap eI.b), .sl a0.To.length 0 (a0.To.flatMap eI.b), .sl a0.Identity.length 0 (a0.Identity.flatMap eI.b), .sl a0.Composites.length 0 (a0.Composites.flatMap (eS eI).b)] []))] (.cons hy34'.1 (.cons hy34'.2.1 (.cons (at_b0 eI_ok hy34'.2.2 (d := iv y34) (by kernel_rfl)) (.cons hy35'.1 (.cons hy35'.2.1 (.cons (at_b0 eI_ok hy35'.2.2 (d := iv y35) (by kernel_rfl)) (.cons (congrArg (fun b => bv b) h36) (.cons hy37'.1 (.cons hy37'.2.1 (.cons (at_b0 (eS_ok eI_ok) hy37'.2.2 (d := .sl y37.length 0 (y37.flatMap eI.b)) (by kernel_rfl)) (.cons hy38'.1 (.cons hy38'.2.1 (.cons (at_b0 eI_ok hy38'.2.2 (d := iv y38) (by kernel_rfl)) (.cons hy39'.1 (.cons hy39'.2.1 (.cons (at_b0 (eS_ok eI_ok) hy39'.2.2 (d := .sl y39.length 0 (y39.flatMap eI.b)) (by kernel_rfl)) (.cons hy40'.1 (.cons hy40'.2.1 (.cons (at_b0 eI_ok hy40'.2.2 (d := iv y40) (by kernel_rfl)) (.cons hy37'.1 (.cons hy37'.2.1 (.cons (at_b0 (eS_ok eI_ok) hy37'.2.2 (d := .sl y37.length 0 (y37.flatMap eI.b)) (by kernel_rfl)) (.cons hy41'.1 (.cons hy41'.2.1 (.cons (at_b0 (eS_ok eI_ok) hy41'.2.2 (d := .sl y41.length 0 (y41.flatMap eI.b)) (by kernel_rfl)) (.cons hy42'.1 (.cons hy42'.2.1 (.cons (at_b0 eI_ok hy42'.2.2 (d := iv y42) (by kernel_rfl)) (.cons hy43'.1 (.cons hy43'.2.1 (.cons (at_b0 eI_ok hy43'.2.2 (d := iv y43) (by kernel_rfl)) .nil))))))))))))))))))))))))))))))) (by kernel_rfl) (by kernel_rfl) ?_
              rcases Bool.eq_false_or_eq_true (y40 != y43) with h44 | h44
              · have hM := ite_true' hM h44
                refine tr_condTe (e := y40 != y43) h44 (by kernel_rfl) ?_
                refine tr_sr hT hm [] [4, 6, 8, 10] [(4, .d (iv 2)), (6, .d (iv s16)), (8, .d (iv s21)), (10, .d (iv s29))] .nil (by kernel_rfl) (by kernel_rfl) ?_
                refine tr_ret (b_r (q_r (l_r (b_r (b_r (q_r (l_r (b_r (b_r (q_r (l_r (b_r (q_r (rg_r ?_))))))))))))))
                obtain rfl := Option.some.inj hM
                exact retg (names := []) .nil (by kernel_rfl)
              · have hM := ite_false' hM h44
                refine tr_condFe (e := y40 != y43) h44 (by kernel_rfl) ?_
                refine tr_skip (b_n (q_n ?_))
                refine tr_r hT hm [] [2, 12, 16, 18, 20, 192, 194, 196, 198, 200, 202, 204, 206, 208, 210, 212, 214, 216, 218, 220, 222, 224, 226, 228, 230, 232, 234, 236, 238, 240, 242, 244, 246, 248, 250, 252, 2003] [(2, .d (.rp 1001 0)), (12, .d (iv (a0.From.length : Int))), (16, .d (iv s16)), (18, .d (iv s21)), (20, .d (iv (IntKind.i64.wrap (s29 + 1)))), (192, .d (.rp 1001 4)), (194, .d (.sl a0.Composites.length 0 (a0.Composites.flatMap (eS eI).b))), (196, .d (.rp 1001 4)), (198, .d (.sl a0.Composites.length 0 (a0.Composites.flatMap (eS eI).b))), (200, .d (iv s16)), (202, .d (.pt (a0.Composites.flatMap (eS eI).b) (0 + s16.toNat * 1))), (204, .d (.sl y37.length 0 (y37.flatMap eI.b))), (206, .d (iv s21)), (208, .d (.pt (y37.flatMap eI.b) (0 + s21.toNat * 1))), (210, .d (iv y38)), (212, .d (.pt (a0.Composites.flatMap (eS eI).b) (0 + y38.toNat * 1))), (214, .d (.sl y39.length 0 (y39.flatMap eI.b))), (216, .d (iv s29)), (218, .d (.pt (y39.flatMap eI.b) (0 + s29.toNat * 1))), (220, .d (iv y40)), (222, .d (.rp 1001 4)), (224, .d (.sl a0.Composites.length 0 (a0.Composites.flatMap (eS eI).b))), (226, .d (iv s16)), (228, .d (.pt (a0.Composites.flatMap (eS eI).b) (0 + s16.toNat * 1))), (230, .d (.sl y37.length 0 (y37.flatMap eI.b))), (232, .d (.rp 1001 4)), (234, .d (.sl a0.Composites.length 0 (a0.Composites.flatMap (eS eI).b))), (236, .d (iv s21)), (238, .d (.pt (a0.Composites.flatMap (eS eI).b) (0 + s21.toNat * 1))), (240, .d (.sl y41.length 0 (y41.flatMap eI.b))), (242, .d (iv s29)), (244, .d (.pt (y41.flatMap eI.b) (0 + s29.toNat * 1))), (246, .d (iv y42)), (248, .d (.pt (y37.flatMap eI.b) (0 + y42.toNat * 1))), (250, .d (iv y43)), (252, .d (bv (y40 != y43))), (2003, .r (.arr 1 [iv a0.Objects, .sl a0.From.length 0 (a0.From.flatMap eI.b), .sl a0.To.length 0 (a0.To.flatMap eI.b), .sl a0.Identity.length 0 (a0.Identity.flatMap eI.b), .sl a0.Composites.length 0 (a0.Composites.flatMap (eS eI).b)] []))] .nil (by kernel_rfl) (by kernel_rfl) (l_n ?_)
                exact trl_start (ks := [2, 12, 16, 18, 20, 2003]) (by kernel_rfl) (ih31 (IntKind.i64.wrap (s29 + 1)) hM)
            · have hM := ite_false' hM h36
              refine tr_sr hT hm [(4, .val (iv y34)), (9, .val (iv y35)), (11, .val (bv false))] [2, 12, 16, 18, 20, 254, 2003] [(2, .d (.rp 1001 0)), (12, .d (iv (a0.From.length : Int))), (16, .d (iv s16)), (18, .d (iv s21)), (20, .d (iv s29)), (254, .d (bv false)), (2003, .r (.arr 1 [iv a0.Objects, .sl a0.From.length 0 (a0.From.flatMap eI.b), .sl a0.To.length 0 (a0.To.flatMap eI.b), .sl a0.Identity.length 0 (a0.Identity.flatMap eI.b), .sl a0.Composites.length 0 (a0.Composites.flatMap (eS eI).b)] []))] (.cons hy34'.1 (.cons hy34'.2.1 (.cons (at_b0 eI_ok hy34'.2.2 (d := iv y34) (by kernel_rfl)) (.cons hy35'.1 (.cons hy35'.2.1 (.cons (at_b0 eI_ok hy35'.2.2 (d := iv y35) (by kernel_rfl)) (.cons (congrArg (fun b => bv b) h36) .nil))))))) (by kernel_rfl) (by kernel_rfl) ?_
              refine tr_condF (by kernel_rfl) ?_
              refine tr_skip (b_n (q_n ?_))
              refine tr_r hT hm [] [2, 12, 16, 18, 20, 2003] [(2, .d (.rp 1001 0)), (12, .d (iv (a0.From.length : Int))), (16, .d (iv s16)), (18, .d (iv s21)), (20, .d (iv (IntKind.i64.wrap (s29 + 1)))), (2003, .r (.arr 1 [iv a0.Objects, .sl a0.From.length 0 (a0.From.flatMap eI.b), .sl a0.To.length 0 (a0.To.flatMap eI.b), .sl a0.Identity.length 0 (a0.Identity.flatMap eI.b), .sl a0.Composites.length 0 (a0.Composites.flatMap (eS eI).b)] []))] .nil (by kernel_rfl) (by kernel_rfl) (l_n ?_)
              exact trl_start (ks := [2, 12, 16, 18, 20, 2003]) (by kernel_rfl) (ih31 (IntKind.i64.wrap (s29 + 1)) hM)
          · have hM := ite_false' hM h33
            refine tr_condFe (e := decide (s29 < (a0.From.length : Int))) h33 (by kernel_rfl) ?_
            refine tr_exit (q_x (l_x (b_h (b_n (q_n ?_)))))
            refine tr_r hT hm [] [2, 12, 16, 18, 2003] [(2, .d (.rp 1001 0)), (12, .d (iv (a0.From.length : Int))), (16, .d (iv s16)), (18, .d (iv (IntKind.i64.wrap (s21 + 1)))), (2003, .r (.arr 1 [iv a0.Objects, .sl a0.From.length 0 (a0.From.flatMap eI.b), .sl a0.To.length 0 (a0.To.flatMap eI.b), .sl a0.Identity.length 0 (a0.Identity.flatMap eI.b), .sl a0.Composites.length 0 (a0.Composites.flatMap (eS eI).b)] []))] .nil (by kernel_rfl) (by kernel_rfl) (l_n ?_)
            exact trl_start (ks := [2, 12, 16, 18, 2003]) (by kernel_rfl) (ih23 (IntKind.i64.wrap (s21 + 1)) hM)
      · have hM := ite_false' hM h25
        refine tr_condFe (e := decide (s21 < (a0.From.length : Int))) h25 (by kernel_rfl) ?_
        refine tr_exit (q_x (l_x (b_h (b_n (q_n ?_)))))
        refine tr_r hT hm [] [2, 12, 16, 2003] [(2, .d (.rp 1001 0)), (12, .d (iv (a0.From.length : Int))), (16, .d (iv (IntKind.i64.wrap (s16 + 1)))), (2003, .r (.arr 1 [iv a0.Objects, .sl a0.From.length 0 (a0.From.flatMap eI.b), .sl a0.To.length 0 (a0.To.flatMap eI.b), .sl a0.Identity.length 0 (a0.Identity.flatMap eI.b), .sl a0.Composites.length 0 (a0.Composites.flatMap (eS eI).b)] []))] .nil (by kernel_rfl) (by kernel_rfl) (l_n ?_)
        exact trl_start (ks := [2, 12, 16, 2003]) (by kernel_rfl) (ih18 (IntKind.i64.wrap (s16 + 1)) hM)
    · have hM := ite_false' hM h20
      refine tr_condFe (e := decide (s16 < (a0.From.length : Int))) h20 (by kernel_rfl) ?_
      refine tr_exit (q_x (l_x (b_h (q_n ?_))))
      refine tr_sr hT hm [] [4, 6, 8, 10] [(4, .d (iv 0)), (6, .d (iv 0)), (8, .d (iv 0)), (10, .d (iv 0))] .nil (by kernel_rfl) (by kernel_rfl) ?_
      refine tr_ret (rg_r ?_)
      obtain rfl := Option.some.inj hM
      exact retg (names := []) .nil (by kernel_rfl)

theorem ok139 : CallOk Try.prog 139 := callOk_of Try.func139 (by kernel_rfl) (by kernel_rfl)
theorem spec_l02Is_c (a0 : XCategory) (r : Bool) (hM : M.spec_l02Is a0 = some r) :
    FnC Try.prog 139 [] [.agg (eXCategory.b a0)] [] (bv r) := by
  refine fnc_startG (N := 19) (np := 500) hT Try.func139 rfl rfl (by kernel_rfl) ?_
  unfold M.spec_l02Is at hM
  refine tr_start (ks := [0]) (st' := [(0, .d (.agg [iv a0.Objects, .sl a0.From.length 0 (a0.From.flatMap eI.b), .sl a0.To.length 0 (a0.To.flatMap eI.b), .sl a0.Identity.length 0 (a0.Identity.flatMap eI.b), .sl a0.Composites.length 0 (a0.Composites.flatMap (eS eI).b)]))]) (by kernel_rfl) ?_
  refine tr_sr hT hm [] [2, 2003] [(2, .d (.rp 1001 0)), (2003, .r (.arr 1 [iv a0.Objects, .sl a0.From.length 0 (a0.From.flatMap eI.b), .sl a0.To.length 0 (a0.To.flatMap eI.b), .sl a0.Identity.length 0 (a0.Identity.flatMap eI.b), .sl a0.Composites.length 0 (a0.Composites.flatMap (eS eI).b)] []))] .nil (by kernel_rfl) (by kernel_rfl) ?_
  refine tr_seq ?_
  obtain ⟨v1, hv1, hM⟩ := bind_some' hM
  refine tr_sr hT hm [(1, .call [] [] [.agg [iv a0.Objects, .sl a0.From.length 0 (a0.From.flatMap eI.b), .sl a0.To.length 0 (a0.To.flatMap eI.b), .sl a0.Identity.length 0 (a0.Identity.flatMap eI.b), .sl a0.Composites.length 0 (a0.Composites.flatMap (eS eI).b)]] [] (bv v1))] [2, 18, 2003] [(2, .d (.rp 1001 0)), (18, .d (bv (!v1))), (2003, .r (.arr 1 [iv a0.Objects, .sl a0.From.length 0 (a0.From.flatMap eI.b), .sl a0.To.length 0 (a0.To.flatMap eI.b), .sl a0.Identity.length 0 (a0.Identity.flatMap eI.b), .sl a0.Composites.length 0 (a0.Composites.flatMap (eS eI).b)] []))] (cc0 ok203 (spec_IsShape_c a0 _ hv1) (by kernel_rfl) .nil) (by kernel_rfl) (by kernel_rfl) ?_
  rcases Bool.eq_false_or_eq_true v1 with h2 | h2
  · have hM := ite_true' hM h2
    refine tr_condFe (e := !v1) (congrArg not h2) (by kernel_rfl) ?_
    refine tr_skip (q_n ?_)
    obtain ⟨v3, hv3, hM⟩ := bind_some' hM
    refine tr_sr hT hm [(1, .call [] [] [.agg [iv a0.Objects, .sl a0.From.length 0 (a0.From.flatMap eI.b), .sl a0.To.length 0 (a0.To.flatMap eI.b), .sl a0.Identity.length 0 (a0.Identity.flatMap eI.b), .sl a0.Composites.length 0 (a0.Composites.flatMap (eS eI).b)]] [] (.tup [iv v3.1, iv v3.2.1, iv v3.2.2.1, iv v3.2.2.2]))] [6] [(6, .d (iv v3.1))] (cc0 ok204 (spec_l02Fault_c a0 _ hv3) (by kernel_rfl) .nil) (by kernel_rfl) (by kernel_rfl) ?_
    refine tr_sr hT hm [] [4] [(4, .d (bv (v3.1 == 0)))] .nil (by kernel_rfl) (by kernel_rfl) ?_
    refine tr_ret (rg_r ?_)
    obtain rfl := Option.some.inj hM
    exact retg (names := []) .nil (by kernel_rfl)
  · have hM := ite_false' hM h2
    refine tr_condTe (e := !v1) (congrArg not h2) (by kernel_rfl) ?_
    refine tr_sr hT hm [] [4] [(4, .d (bv false))] .nil (by kernel_rfl) (by kernel_rfl) ?_
    refine tr_ret (q_r (rg_r ?_))
    obtain rfl := Option.some.inj hM
    exact retg (names := []) .nil (by kernel_rfl)

end Go.Proofs.Ytggojehmbpbefaa
