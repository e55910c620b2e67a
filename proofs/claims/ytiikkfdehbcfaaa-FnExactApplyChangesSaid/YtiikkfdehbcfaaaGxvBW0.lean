/- Walks. Printed by wip/gen. -/
import Derived.Test.YtiikkfdehbcfaaaGxvBW
namespace Go.Proofs.Ytiikkfdehbcfaaa.WvB
open Go.Gx

theorem ok77 : CallOk Try.prog 77 := callOk_of Try.func77 (by kernel_rfl) (by kernel_rfl)
theorem laws_szInt64S_c (a0 : List Int) (a1 : Int) (r : Int) (hM : M.laws_szInt64S a0 a1 = some r) :
    FnC Try.prog 77 [] [.sl a0.length 0 (a0.flatMap eI.b), iv a1] [] (iv r) := by
  refine fnc_startG (N := 12) (np := 500) hT Try.func77 rfl rfl (by kernel_rfl) ?_
  unfold M.laws_szInt64S at hM
  refine tr_start (ks := [0, 2]) (st' := [(0, .d (.sl a0.length 0 (a0.flatMap eI.b))), (2, .d (iv a1))]) (by kernel_rfl) ?_
  refine tr_sr hT hm [] [0, 2] [(0, .d (.sl a0.length 0 (a0.flatMap eI.b))), (2, .d (iv a1))] .nil (by kernel_rfl) (by kernel_rfl) ?_
  refine tr_sr hT hm [] [2] [(2, .d (iv (IntKind.i64.wrap (a1 - (a0.length : Int)))))] .nil (by kernel_rfl) (by kernel_rfl) ?_
  refine tr_seq ?_
  refine tr_sr hT hm [] [2, 20] [(2, .d (iv (IntKind.i64.wrap (a1 - (a0.length : Int))))), (20, .d (bv (decide ((IntKind.i64.wrap (a1 - (a0.length : Int))) < 0))))] .nil (by kernel_rfl) (by kernel_rfl) ?_
  rcases Bool.eq_false_or_eq_true (decide ((IntKind.i64.wrap (a1 - (a0.length : Int))) < 0)) with h1 | h1
  · have hM := ite_true' hM h1
    refine tr_condTe (e := decide ((IntKind.i64.wrap (a1 - (a0.length : Int))) < 0)) h1 (by kernel_rfl) ?_
    refine tr_sr hT hm [] [8] [(8, .d (iv (-1)))] .nil (by kernel_rfl) (by kernel_rfl) ?_
    refine tr_ret (q_r (rg_r ?_))
    obtain rfl := Option.some.inj hM
    exact retg (names := []) .nil (by kernel_rfl)
  · have hM := ite_false' hM h1
    refine tr_condFe (e := decide ((IntKind.i64.wrap (a1 - (a0.length : Int))) < 0)) h1 (by kernel_rfl) ?_
    refine tr_skip (q_n ?_)
    refine tr_sr hT hm [] [8] [(8, .d (iv (IntKind.i64.wrap (a1 - (a0.length : Int)))))] .nil (by kernel_rfl) (by kernel_rfl) ?_
    refine tr_ret (rg_r ?_)
    obtain rfl := Option.some.inj hM
    exact retg (names := []) .nil (by kernel_rfl)

theorem ok24 : CallOk Try.prog 24 := callOk_of Try.func24 (by kernel_rfl) (by kernel_rfl)
theorem laws_szInt64SS_c (a0 : List (List Int)) (a1 : Int) (r : Int) (hM : M.laws_szInt64SS a0 a1 = some r) :
    FnC Try.prog 24 [] [.sl a0.length 0 (a0.flatMap (eS eI).b), iv a1] [] (iv r) := by
  refine fnc_startG (N := 27) (np := 500) hT Try.func24 rfl rfl (by kernel_rfl) ?_
  unfold M.laws_szInt64SS at hM
  refine tr_start (ks := [0, 2]) (st' := [(0, .d (.sl a0.length 0 (a0.flatMap (eS eI).b))), (2, .d (iv a1))]) (by kernel_rfl) ?_
  refine tr_sr hT hm [] [0, 2] [(0, .d (.sl a0.length 0 (a0.flatMap (eS eI).b))), (2, .d (iv a1))] .nil (by kernel_rfl) (by kernel_rfl) ?_
  refine tr_sr hT hm [] [0, 2] [(0, .d (.sl a0.length 0 (a0.flatMap (eS eI).b))), (2, .d (iv (IntKind.i64.wrap (a1 - (a0.length : Int)))))] .nil (by kernel_rfl) (by kernel_rfl) ?_
  refine tr_seq ?_
  refine tr_sr hT hm [] [0, 2, 22] [(0, .d (.sl a0.length 0 (a0.flatMap (eS eI).b))), (2, .d (iv (IntKind.i64.wrap (a1 - (a0.length : Int))))), (22, .d (bv (decide ((IntKind.i64.wrap (a1 - (a0.length : Int))) < 0))))] .nil (by kernel_rfl) (by kernel_rfl) ?_
  rcases Bool.eq_false_or_eq_true (decide ((IntKind.i64.wrap (a1 - (a0.length : Int))) < 0)) with h1 | h1
  · have hM := ite_true' hM h1
    refine tr_condTe (e := decide ((IntKind.i64.wrap (a1 - (a0.length : Int))) < 0)) h1 (by kernel_rfl) ?_
    refine tr_sr hT hm [] [8] [(8, .d (iv (-1)))] .nil (by kernel_rfl) (by kernel_rfl) ?_
    refine tr_ret (q_r (rg_r ?_))
    obtain rfl := Option.some.inj hM
    exact retg (names := []) .nil (by kernel_rfl)
  · have hM := ite_false' hM h1
    refine tr_condFe (e := decide ((IntKind.i64.wrap (a1 - (a0.length : Int))) < 0)) h1 (by kernel_rfl) ?_
    refine tr_skip (q_n ?_)
    refine tr_seq ?_
    refine tr_sr hT hm [] [0, 2, 10] [(0, .d (.sl a0.length 0 (a0.flatMap (eS eI).b))), (2, .d (iv (IntKind.i64.wrap (a1 - (a0.length : Int))))), (10, .d (iv 0))] .nil (by kernel_rfl) (by kernel_rfl) ?_
    refine tr_block ?_
    refine tr_iterS (fun (s2 : Int × Int) => [(0, .d (.sl a0.length 0 (a0.flatMap (eS eI).b))), (2, .d (iv s2.1)), (10, .d (iv s2.2))]) (IntKind.i64.wrap (a1 - (a0.length : Int)), 0) [0, 2, 10] (by kernel_rfl) hM ?_
    intro n5 next3 ih4 s2 hM
    refine tr_seq ?_
    refine tr_sr hT hm [] [0, 2, 10, 30] [(0, .d (.sl a0.length 0 (a0.flatMap (eS eI).b))), (2, .d (iv s2.1)), (10, .d (iv s2.2)), (30, .d (bv (decide (s2.2 < (a0.length : Int)))))] .nil (by kernel_rfl) (by kernel_rfl) ?_
    rcases Bool.eq_false_or_eq_true (decide (s2.2 < (a0.length : Int))) with h6 | h6
    · have hM := ite_true' hM h6
      refine tr_condTe (e := decide (s2.2 < (a0.length : Int))) h6 (by kernel_rfl) ?_
      refine tr_skip (q_n ?_)
      refine tr_seq ?_
      refine tr_block ?_
      obtain ⟨y7, hy7, hM⟩ := bind_some' hM
      have hy7' := idx_some hy7
      obtain ⟨v8, hv8, hM⟩ := bind_some' hM
      refine tr_sr hT hm [(3, .val (.sl y7.length 0 (y7.flatMap eI.b))), (5, .call [] [] [.sl y7.length 0 (y7.flatMap eI.b), iv s2.1] [] (iv v8))] [0, 2, 10] [(0, .d (.sl a0.length 0 (a0.flatMap (eS eI).b))), (2, .d (iv v8)), (10, .d (iv s2.2))] (.cons hy7'.1 (.cons hy7'.2.1 (.cons (at_b0 (eS_ok eI_ok) hy7'.2.2 (d := .sl y7.length 0 (y7.flatMap eI.b)) (by kernel_rfl)) (cc0 ok77 (laws_szInt64S_c y7 s2.1 _ hv8) (by kernel_rfl) .nil)))) (by kernel_rfl) (by kernel_rfl) ?_
      refine tr_sr hT hm [] [0, 2, 10, 50] [(0, .d (.sl a0.length 0 (a0.flatMap (eS eI).b))), (2, .d (iv v8)), (10, .d (iv s2.2)), (50, .d (bv (decide (v8 < 0))))] .nil (by kernel_rfl) (by kernel_rfl) ?_
      rcases Bool.eq_false_or_eq_true (decide (v8 < 0)) with h9 | h9
      · have hM := ite_true' hM h9
        refine tr_condTe (e := decide (v8 < 0)) h9 (by kernel_rfl) ?_
        refine tr_sr hT hm [] [8] [(8, .d (iv (-1)))] .nil (by kernel_rfl) (by kernel_rfl) ?_
        refine tr_ret (b_r (q_r (l_r (b_r (q_r (rg_r ?_))))))
        obtain rfl := Option.some.inj hM
        exact retg (names := []) .nil (by kernel_rfl)
      · have hM := ite_false' hM h9
        refine tr_condFe (e := decide (v8 < 0)) h9 (by kernel_rfl) ?_
        refine tr_skip (b_n (q_n ?_))
        refine tr_r hT hm [] [0, 2, 10] [(0, .d (.sl a0.length 0 (a0.flatMap (eS eI).b))), (2, .d (iv v8)), (10, .d (iv (IntKind.i64.wrap (s2.2 + 1))))] .nil (by kernel_rfl) (by kernel_rfl) (l_n ?_)
        exact trl_start (ks := [0, 2, 10]) (by kernel_rfl) (ih4 (v8, IntKind.i64.wrap (s2.2 + 1)) hM)
    · have hM := ite_false' hM h6
      refine tr_condFe (e := decide (s2.2 < (a0.length : Int))) h6 (by kernel_rfl) ?_
      refine tr_exit (q_x (l_x (b_h (q_n ?_))))
      refine tr_sr hT hm [] [8] [(8, .d (iv s2.1))] .nil (by kernel_rfl) (by kernel_rfl) ?_
      refine tr_ret (rg_r ?_)
      obtain rfl := Option.some.inj hM
      exact retg (names := []) .nil (by kernel_rfl)

theorem ok165 : CallOk Try.prog 165 := callOk_of Try.func165 (by kernel_rfl) (by kernel_rfl)
theorem spec_l01In_c (a0 : Int) (a1 : Int) (a2 : Int) (r : Bool) (hM : M.spec_l01In a0 a1 a2 = some r) :
    FnC Try.prog 165 [] [iv a0, iv a1, iv a2] [] (bv r) := by
  refine fnc_startG (N := 15) (np := 500) hT Try.func165 rfl rfl (by kernel_rfl) ?_
  unfold M.spec_l01In at hM
  refine tr_start (ks := [0, 2, 4]) (st' := [(0, .d (iv a0)), (2, .d (iv a1)), (4, .d (iv a2))]) (by kernel_rfl) ?_
  refine tr_sr hT hm [] [0, 2, 4] [(0, .d (iv a0)), (2, .d (iv a1)), (4, .d (iv a2))] .nil (by kernel_rfl) (by kernel_rfl) ?_
  rcases Bool.eq_false_or_eq_true (decide (a0 ≥ a1)) with h1 | h1
  · have hM := ite_true' hM h1
    refine tr_sr hT hm [(3, .val (bv true))] [12] [(12, .d (bv (decide (a0 ≤ a2))))] (.cons (congrArg (fun b => bv b) h1) .nil) (by kernel_rfl) (by kernel_rfl) ?_
    refine tr_ret (rg_r ?_)
    obtain rfl := Option.some.inj hM
    exact retg (names := []) .nil (by kernel_rfl)
  · have hM := ite_false' hM h1
    refine tr_sr hT hm [(3, .val (bv false))] [12] [(12, .d (bv false))] (.cons (congrArg (fun b => bv b) h1) .nil) (by kernel_rfl) (by kernel_rfl) ?_
    refine tr_ret (rg_r ?_)
    obtain rfl := Option.some.inj hM
    exact retg (names := []) .nil (by kernel_rfl)

theorem ok154 : CallOk Try.prog 154 := callOk_of Try.func154 (by kernel_rfl) (by kernel_rfl)
theorem spec_l01Map_c (a0 : Int) (a1 : List Int) (r : Bool) (hM : M.spec_l01Map a0 a1 = some r) :
    FnC Try.prog 154 [] [iv a0, .sl a1.length 0 (a1.flatMap eI.b)] [] (bv r) := by
  refine fnc_startG (N := 25) (np := 500) hT Try.func154 rfl rfl (by kernel_rfl) ?_
  unfold M.spec_l01Map at hM
  refine tr_start (ks := [0, 2]) (st' := [(0, .d (iv a0)), (2, .d (.sl a1.length 0 (a1.flatMap eI.b)))]) (by kernel_rfl) ?_
  refine tr_sr hT hm [] [0, 2] [(0, .d (iv a0)), (2, .d (.sl a1.length 0 (a1.flatMap eI.b)))] .nil (by kernel_rfl) (by kernel_rfl) ?_
  refine tr_seq ?_
  refine tr_sr hT hm [] [0, 2, 10] [(0, .d (iv a0)), (2, .d (.sl a1.length 0 (a1.flatMap eI.b))), (10, .d (iv 0))] .nil (by kernel_rfl) (by kernel_rfl) ?_
  refine tr_block ?_
  refine tr_iterS (fun (s1 : Int) => [(0, .d (iv a0)), (2, .d (.sl a1.length 0 (a1.flatMap eI.b))), (10, .d (iv s1))]) 0 [0, 2, 10] (by kernel_rfl) hM ?_
  intro n4 next2 ih3 s1 hM
  refine tr_seq ?_
  refine tr_sr hT hm [] [0, 2, 10, 18] [(0, .d (iv a0)), (2, .d (.sl a1.length 0 (a1.flatMap eI.b))), (10, .d (iv s1)), (18, .d (bv (decide (s1 < (a1.length : Int)))))] .nil (by kernel_rfl) (by kernel_rfl) ?_
  rcases Bool.eq_false_or_eq_true (decide (s1 < (a1.length : Int))) with h5 | h5
  · have hM := ite_true' hM h5
    refine tr_condTe (e := decide (s1 < (a1.length : Int))) h5 (by kernel_rfl) ?_
    refine tr_skip (q_n ?_)
    refine tr_seq ?_
    refine tr_block ?_
    obtain ⟨y6, hy6, hM⟩ := bind_some' hM
    have hy6' := idx_some hy6
    rcases Bool.eq_false_or_eq_true (decide (y6 < 0)) with h7 | h7
    · have hM := ite_true' hM h7
      refine tr_sr hT hm [(3, .val (iv y6)), (5, .val (bv true))] [0, 2, 10, 48] [(0, .d (iv a0)), (2, .d (.sl a1.length 0 (a1.flatMap eI.b))), (10, .d (iv s1)), (48, .d (bv true))] (.cons hy6'.1 (.cons hy6'.2.1 (.cons (at_b0 eI_ok hy6'.2.2 (d := iv y6) (by kernel_rfl)) (.cons (congrArg (fun b => bv b) h7) .nil)))) (by kernel_rfl) (by kernel_rfl) ?_
      refine tr_condT (by kernel_rfl) ?_
      refine tr_sr hT hm [] [8] [(8, .d (bv false))] .nil (by kernel_rfl) (by kernel_rfl) ?_
      refine tr_ret (b_r (q_r (l_r (b_r (q_r (rg_r ?_))))))
      obtain rfl := Option.some.inj hM
      exact retg (names := []) .nil (by kernel_rfl)
    · have hM := ite_false' hM h7
      refine tr_sr hT hm [(3, .val (iv y6)), (5, .val (bv false)), (9, .val (iv y6))] [0, 2, 10, 48] [(0, .d (iv a0)), (2, .d (.sl a1.length 0 (a1.flatMap eI.b))), (10, .d (iv s1)), (48, .d (bv (decide (y6 ≥ a0))))] (.cons hy6'.1 (.cons hy6'.2.1 (.cons (at_b0 eI_ok hy6'.2.2 (d := iv y6) (by kernel_rfl)) (.cons (congrArg (fun b => bv b) h7) (.cons hy6'.1 (.cons hy6'.2.1 (.cons (at_b0 eI_ok hy6'.2.2 (d := iv y6) (by kernel_rfl)) .nil))))))) (by kernel_rfl) (by kernel_rfl) ?_
      rcases Bool.eq_false_or_eq_true (decide (y6 ≥ a0)) with h8 | h8
      · have hM := ite_true' hM h8
        refine tr_condTe (e := decide (y6 ≥ a0)) h8 (by kernel_rfl) ?_
        refine tr_sr hT hm [] [8] [(8, .d (bv false))] .nil (by kernel_rfl) (by kernel_rfl) ?_
        refine tr_ret (b_r (q_r (l_r (b_r (q_r (rg_r ?_))))))
        obtain rfl := Option.some.inj hM
        exact retg (names := []) .nil (by kernel_rfl)
      · have hM := ite_false' hM h8
        refine tr_condFe (e := decide (y6 ≥ a0)) h8 (by kernel_rfl) ?_
        refine tr_skip (b_n (q_n ?_))
        refine tr_r hT hm [] [0, 2, 10] [(0, .d (iv a0)), (2, .d (.sl a1.length 0 (a1.flatMap eI.b))), (10, .d (iv (IntKind.i64.wrap (s1 + 1))))] .nil (by kernel_rfl) (by kernel_rfl) (l_n ?_)
        exact trl_start (ks := [0, 2, 10]) (by kernel_rfl) (ih3 (IntKind.i64.wrap (s1 + 1)) hM)
  · have hM := ite_false' hM h5
    refine tr_condFe (e := decide (s1 < (a1.length : Int))) h5 (by kernel_rfl) ?_
    refine tr_exit (q_x (l_x (b_h (q_n ?_))))
    refine tr_sr hT hm [] [8] [(8, .d (bv true))] .nil (by kernel_rfl) (by kernel_rfl) ?_
    refine tr_ret (rg_r ?_)
    obtain rfl := Option.some.inj hM
    exact retg (names := []) .nil (by kernel_rfl)

end Go.Proofs.Ytiikkfdehbcfaaa.WvB
