import Derived.Test.YthafadgnjkmfkaaGxvBW
namespace Go.Proofs.Ythafadgnjkmfkaa.WvB
open Go.Gx
theorem ok28 : CallOk Try.prog 28 := callOk_of Try.func28 (by kernel_rfl) (by kernel_rfl)
theorem laws_szInt64S_c (a0 : List Int) (a1 : Int) (r : Int) (hM : M.laws_szInt64S a0 a1 = some r) :
    FnC Try.prog 28 [] [.sl a0.length 0 (a0.flatMap eI.b), iv a1] [] (iv r) := by
  refine fnc_startG (N := 12) (np := 500) hT Try.func28 rfl rfl (by kernel_rfl) ?_
  unfold M.laws_szInt64S at hM
  refine tr_start (ks := [0, 2]) (st' := [(0, .d (.sl a0.length 0 (a0.flatMap eI.b))), (2, .d (iv a1))]) (by kernel_rfl) ?_
  refine tr_sr hT hm [] [0, 2] [(0, .d (.sl a0.length 0 (a0.flatMap eI.b))), (2, .d (iv a1))] .nil (by kernel_rfl) (by kernel_rfl) ?_
  refine tr_sr hT hm [] [2] [(2, .d (iv (IntKind.i64.wrap (a1 - (a0.length : Int)))))] .nil (by kernel_rfl) (by kernel_rfl) ?_
  refine tr_seq ?_
  refine tr_sr hT hm [] [2, 20] [(2, .d (iv (IntKind.i64.wrap (a1 - (a0.length : Int))))), (20, .d (bv (decide ((IntKind.i64.wrap (a1 - (a0.length : Int))) < 0))))] .nil (by kernel_rfl) (by kernel_rfl) ?_
  rcases Bool.eq_false_or_eq_true (decide ((IntKind.i64.wrap (a1 - (a0.length : Int))) < 0)) with h1 | h1
  · have hM := ite_true' hM h1
    refine tr_condTe (e := decide ((IntKind.i64.wrap (a1 - (a0.length : Int))) < 0)) h1 (by kernel_rfl) ?_
    refine tr_sr hT hm [] [8] [(8, .d (iv (-1)))] .nil (by kernel_rfl) (by kernel_rfl) ?_
    refine tr_ret (q_r (rg_r ?_))
    obtain rfl := Option.some.inj hM
    exact retg (names := []) .nil (by kernel_rfl)
  · have hM := ite_false' hM h1
    refine tr_condFe (e := decide ((IntKind.i64.wrap (a1 - (a0.length : Int))) < 0)) h1 (by kernel_rfl) ?_
    refine tr_skip (q_n ?_)
    refine tr_sr hT hm [] [8] [(8, .d (iv (IntKind.i64.wrap (a1 - (a0.length : Int)))))] .nil (by kernel_rfl) (by kernel_rfl) ?_
    refine tr_ret (rg_r ?_)
    obtain rfl := Option.some.inj hM
    exact retg (names := []) .nil (by kernel_rfl)
theorem ok29 : CallOk Try.prog 29 := callOk_of Try.func29 (by kernel_rfl) (by kernel_rfl)
theorem laws_szInt64SS_c (a0 : List (List Int)) (a1 : Int) (r : Int) (hM : M.laws_szInt64SS a0 a1 = some r) :
    FnC Try.prog 29 [] [.sl a0.length 0 (a0.flatMap (eS eI).b), iv a1] [] (iv r) := by
  refine fnc_startG (N := 27) (np := 500) hT Try.func29 rfl rfl (by kernel_rfl) ?_
  unfold M.laws_szInt64SS at hM
  refine tr_start (ks := [0, 2]) (st' := [(0, .d (.sl a0.length 0 (a0.flatMap (eS eI).b))), (2, .d (iv a1))]) (by kernel_rfl) ?_
  refine tr_sr hT hm [] [0, 2] [(0, .d (.sl a0.length 0 (a0.flatMap (eS eI).b))), (2, .d (iv a1))] .nil (by kernel_rfl) (by kernel_rfl) ?_
  refine tr_sr hT hm [] [0, 2] [(0, .d (.sl a0.length 0 (a0.flatMap (eS eI).b))), (2, .d (iv (IntKind.i64.wrap (a1 - (a0.length : Int)))))] .nil (by kernel_rfl) (by kernel_rfl) ?_
  refine tr_seq ?_
  refine tr_sr hT hm [] [0, 2, 22] [(0, .d (.sl a0.length 0 (a0.flatMap (eS eI).b))), (2, .d (iv (IntKind.i64.wrap (a1 - (a0.length : Int))))), (22, .d (bv (decide ((IntKind.i64.wrap (a1 - (a0.length : Int))) < 0))))] .nil (by kernel_rfl) (by kernel_rfl) ?_
  rcases Bool.eq_false_or_eq_true (decide ((IntKind.i64.wrap (a1 - (a0.length : Int))) < 0)) with h1 | h1
  · have hM := ite_true' hM h1
    refine tr_condTe (e := decide ((IntKind.i64.wrap (a1 - (a0.length : Int))) < 0)) h1 (by kernel_rfl) ?_
    refine tr_sr hT hm [] [8] [(8, .d (iv (-1)))] .nil (by kernel_rfl) (by kernel_rfl) ?_
    refine tr_ret (q_r (rg_r ?_))
    obtain rfl := Option.some.inj hM
    exact retg (names := []) .nil (by kernel_rfl)
  · have hM := ite_false' hM h1
    refine tr_condFe (e := decide ((IntKind.i64.wrap (a1 - (a0.length : Int))) < 0)) h1 (by kernel_rfl) ?_
    refine tr_skip (q_n ?_)
    refine tr_seq ?_
    refine tr_sr hT hm [] [0, 2, 10] [(0, .d (.sl a0.length 0 (a0.flatMap (eS eI).b))), (2, .d (iv (IntKind.i64.wrap (a1 - (a0.length : Int))))), (10, .d (iv 0))] .nil (by kernel_rfl) (by kernel_rfl) ?_
    refine tr_block ?_
    refine tr_iterS (fun (s2 : Int × Int) => [(0, .d (.sl a0.length 0 (a0.flatMap (eS eI).b))), (2, .d (iv s2.1)), (10, .d (iv s2.2))]) (IntKind.i64.wrap (a1 - (a0.length : Int)), 0) [0, 2, 10] (by kernel_rfl) hM ?_
    intro n5 next3 ih4 s2 hM
    refine tr_seq ?_
    refine tr_sr hT hm [] [0, 2, 10, 30] [(0, .d (.sl a0.length 0 (a0.flatMap (eS eI).b))), (2, .d (iv s2.1)), (10, .d (iv s2.2)), (30, .d (bv (decide (s2.2 < (a0.length : Int)))))] .nil (by kernel_rfl) (by kernel_rfl) ?_
    rcases Bool.eq_false_or_eq_true (decide (s2.2 < (a0.length : Int))) with h6 | h6
    · have hM := ite_true' hM h6
      refine tr_condTe (e := decide (s2.2 < (a0.length : Int))) h6 (by kernel_rfl) ?_
      refine tr_skip (q_n ?_)
      refine tr_seq ?_
      refine tr_block ?_
      obtain ⟨y7, hy7, hM⟩ := bind_some' hM
      have hy7' := idx_some hy7
      obtain ⟨v8, hv8, hM⟩ := bind_some' hM
      refine tr_sr hT hm [(3, .val (.sl y7.length 0 (y7.flatMap eI.b))), (5, .call [] [] [.sl y7.length 0 (y7.flatMap eI.b), iv s2.1] [] (iv v8))] [0, 2, 10] [(0, .d (.sl a0.length 0 (a0.flatMap (eS eI).b))), (2, .d (iv v8)), (10, .d (iv s2.2))] (.cons hy7'.1 (.cons hy7'.2.1 (.cons (at_b0 (eS_ok eI_ok) hy7'.2.2 (d := .sl y7.length 0 (y7.flatMap eI.b)) (by kernel_rfl)) (cc0 ok28 (laws_szInt64S_c y7 s2.1 _ hv8) (by kernel_rfl) .nil)))) (by kernel_rfl) (by kernel_rfl) ?_
      refine tr_sr hT hm [] [0, 2, 10, 50] [(0, .d (.sl a0.length 0 (a0.flatMap (eS eI).b))), (2, .d (iv v8)), (10, .d (iv s2.2)), (50, .d (bv (decide (v8 < 0))))] .nil (by kernel_rfl) (by kernel_rfl) ?_
      rcases Bool.eq_false_or_eq_true (decide (v8 < 0)) with h9 | h9
      · have hM := ite_true' hM h9
        refine tr_condTe (e := decide (v8 < 0)) h9 (by kernel_rfl) ?_
        refine tr_sr hT hm [] [8] [(8, .d (iv (-1)))] .nil (by kernel_rfl) (by kernel_rfl) ?_
        refine tr_ret (b_r (q_r (l_r (b_r (q_r (rg_r ?_))))))
        obtain rfl := Option.some.inj hM
        exact retg (names := []) .nil (by kernel_rfl)
      · have hM := ite_false' hM h9
        refine tr_condFe (e := decide (v8 < 0)) h9 (by kernel_rfl) ?_
        refine tr_skip (b_n (q_n ?_))
        refine tr_r hT hm [] [0, 2, 10] [(0, .d (.sl a0.length 0 (a0.flatMap (eS eI).b))), (2, .d (iv v8)), (10, .d (iv (IntKind.i64.wrap (s2.2 + 1))))] .nil (by kernel_rfl) (by kernel_rfl) (l_n ?_)
        exact trl_start (ks := [0, 2, 10]) (by kernel_rfl) (ih4 (v8, IntKind.i64.wrap (s2.2 + 1)) hM)
    · have hM := ite_false' hM h6
      refine tr_condFe (e := decide (s2.2 < (a0.length : Int))) h6 (by kernel_rfl) ?_
      refine tr_exit (q_x (l_x (b_h (q_n ?_))))
      refine tr_sr hT hm [] [8] [(8, .d (iv s2.1))] .nil (by kernel_rfl) (by kernel_rfl) ?_
      refine tr_ret (rg_r ?_)
      obtain rfl := Option.some.inj hM
      exact retg (names := []) .nil (by kernel_rfl)
theorem ok15 : CallOk Try.prog 15 := callOk_of Try.func15 (by kernel_rfl) (by kernel_rfl)
theorem laws_szCategory_c (a0 : XCategory) (a1 : Int) (r : Int) (hM : M.laws_szCategory a0 a1 = some r) :
    FnC Try.prog 15 [] [.agg (eXCategory.b a0), iv a1] [] (iv r) := by
  refine fnc_startG (N := 30) (np := 500) hT Try.func15 rfl rfl (by kernel_rfl) ?_
  unfold M.laws_szCategory at hM
  refine tr_start (ks := [0, 2]) (st' := [(0, .d (.agg (eXCategory.b a0))), (2, .d (iv a1))]) (by kernel_rfl) ?_
  refine tr_sr hT hm [] [2, 4, 2005] [(2, .d (iv a1)), (4, .d (.rp 1002 0)), bxB 2005 (eXCategory.b a0)] .nil (by kernel_rfl) (by kernel_rfl) ?_
  obtain ⟨v1, hv1, hM⟩ := bind_some' hM
  refine tr_sr hT hm [(3, .call [] [] [.sl a0.From.length 0 (a0.From.flatMap eI.b), iv a1] [] (iv v1))] [2, 4, 2005] [(2, .d (iv v1)), (4, .d (.rp 1002 0)), bxB 2005 (eXCategory.b a0)] (cc0 ok28 (laws_szInt64S_c a0.From a1 _ hv1) (by kernel_rfl) .nil) (by kernel_rfl) (by kernel_rfl) ?_
  refine tr_seq ?_
  refine tr_sr hT hm [] [2, 4, 20, 2005] [(2, .d (iv v1)), (4, .d (.rp 1002 0)), (20, .d (bv (decide (v1 < 0)))), bxB 2005 (eXCategory.b a0)] .nil (by kernel_rfl) (by kernel_rfl) ?_
  rcases Bool.eq_false_or_eq_true (decide (v1 < 0)) with h2 | h2
  · have hM := ite_true' hM h2
    refine tr_condTe (e := decide (v1 < 0)) h2 (by kernel_rfl) ?_
    refine tr_sr hT hm [] [8] [(8, .d (iv (-1)))] .nil (by kernel_rfl) (by kernel_rfl) ?_
    refine tr_ret (q_r (rg_r ?_))
    obtain rfl := Option.some.inj hM
    exact retg (names := []) .nil (by kernel_rfl)
  · have hM := ite_false' hM h2
    refine tr_condFe (e := decide (v1 < 0)) h2 (by kernel_rfl) ?_
    refine tr_skip (q_n ?_)
    obtain ⟨v3, hv3, hM⟩ := bind_some' hM
    refine tr_sr hT hm [(3, .call [] [] [.sl a0.To.length 0 (a0.To.flatMap eI.b), iv v1] [] (iv v3))] [2, 4, 2005] [(2, .d (iv v3)), (4, .d (.rp 1002 0)), bxB 2005 (eXCategory.b a0)] (cc0 ok28 (laws_szInt64S_c a0.To v1 _ hv3) (by kernel_rfl) .nil) (by kernel_rfl) (by kernel_rfl) ?_
    refine tr_seq ?_
    refine tr_sr hT hm [] [2, 4, 32, 2005] [(2, .d (iv v3)), (4, .d (.rp 1002 0)), (32, .d (bv (decide (v3 < 0)))), bxB 2005 (eXCategory.b a0)] .nil (by kernel_rfl) (by kernel_rfl) ?_
    rcases Bool.eq_false_or_eq_true (decide (v3 < 0)) with h4 | h4
    · have hM := ite_true' hM h4
      refine tr_condTe (e := decide (v3 < 0)) h4 (by kernel_rfl) ?_
      refine tr_sr hT hm [] [8] [(8, .d (iv (-1)))] .nil (by kernel_rfl) (by kernel_rfl) ?_
      refine tr_ret (q_r (rg_r ?_))
      obtain rfl := Option.some.inj hM
      exact retg (names := []) .nil (by kernel_rfl)
    · have hM := ite_false' hM h4
      refine tr_condFe (e := decide (v3 < 0)) h4 (by kernel_rfl) ?_
      refine tr_skip (q_n ?_)
      obtain ⟨v5, hv5, hM⟩ := bind_some' hM
      refine tr_sr hT hm [(3, .call [] [] [.sl a0.Identity.length 0 (a0.Identity.flatMap eI.b), iv v3] [] (iv v5))] [2, 4, 2005] [(2, .d (iv v5)), (4, .d (.rp 1002 0)), bxB 2005 (eXCategory.b a0)] (cc0 ok28 (laws_szInt64S_c a0.Identity v3 _ hv5) (by kernel_rfl) .nil) (by kernel_rfl) (by kernel_rfl) ?_
      refine tr_seq ?_
      refine tr_sr hT hm [] [2, 4, 44, 2005] [(2, .d (iv v5)), (4, .d (.rp 1002 0)), (44, .d (bv (decide (v5 < 0)))), bxB 2005 (eXCategory.b a0)] .nil (by kernel_rfl) (by kernel_rfl) ?_
      rcases Bool.eq_false_or_eq_true (decide (v5 < 0)) with h6 | h6
      · have hM := ite_true' hM h6
        refine tr_condTe (e := decide (v5 < 0)) h6 (by kernel_rfl) ?_
        refine tr_sr hT hm [] [8] [(8, .d (iv (-1)))] .nil (by kernel_rfl) (by kernel_rfl) ?_
        refine tr_ret (q_r (rg_r ?_))
        obtain rfl := Option.some.inj hM
        exact retg (names := []) .nil (by kernel_rfl)
      · have hM := ite_false' hM h6
        refine tr_condFe (e := decide (v5 < 0)) h6 (by kernel_rfl) ?_
        refine tr_skip (q_n ?_)
        obtain ⟨v7, hv7, hM⟩ := bind_some' hM
        refine tr_sr hT hm [(3, .call [] [] [.sl a0.Composites.length 0 (a0.Composites.flatMap (eS eI).b), iv v5] [] (iv v7))] [2] [(2, .d (iv v7))] (cc0 ok29 (laws_szInt64SS_c a0.Composites v5 _ hv7) (by kernel_rfl) .nil) (by kernel_rfl) (by kernel_rfl) ?_
        refine tr_seq ?_
        refine tr_sr hT hm [] [2, 56] [(2, .d (iv v7)), (56, .d (bv (decide (v7 < 0))))] .nil (by kernel_rfl) (by kernel_rfl) ?_
        rcases Bool.eq_false_or_eq_true (decide (v7 < 0)) with h8 | h8
        · have hM := ite_true' hM h8
          refine tr_condTe (e := decide (v7 < 0)) h8 (by kernel_rfl) ?_
          refine tr_sr hT hm [] [8] [(8, .d (iv (-1)))] .nil (by kernel_rfl) (by kernel_rfl) ?_
          refine tr_ret (q_r (rg_r ?_))
          obtain rfl := Option.some.inj hM
          exact retg (names := []) .nil (by kernel_rfl)
        · have hM := ite_false' hM h8
          refine tr_condFe (e := decide (v7 < 0)) h8 (by kernel_rfl) ?_
          refine tr_skip (q_n ?_)
          refine tr_sr hT hm [] [8] [(8, .d (iv v7))] .nil (by kernel_rfl) (by kernel_rfl) ?_
          refine tr_ret (rg_r ?_)
          obtain rfl := Option.some.inj hM
          exact retg (names := []) .nil (by kernel_rfl)
theorem ok81 : CallOk Try.prog 81 := callOk_of Try.func81 (by kernel_rfl) (by kernel_rfl)
theorem spec_l01In_c (a0 : Int) (a1 : Int) (a2 : Int) (r : Bool) (hM : M.spec_l01In a0 a1 a2 = some r) :
    FnC Try.prog 81 [] [iv a0, iv a1, iv a2] [] (bv r) := by
  refine fnc_startG (N := 15) (np := 500) hT Try.func81 rfl rfl (by kernel_rfl) ?_
  unfold M.spec_l01In at hM
  refine tr_start (ks := [0, 2, 4]) (st' := [(0, .d (iv a0)), (2, .d (iv a1)), (4, .d (iv a2))]) (by kernel_rfl) ?_
  refine tr_sr hT hm [] [0, 2, 4] [(0, .d (iv a0)), (2, .d (iv a1)), (4, .d (iv a2))] .nil (by kernel_rfl) (by kernel_rfl) ?_
  rcases Bool.eq_false_or_eq_true (decide (a0 ≥ a1)) with h1 | h1
  · have hM := ite_true' hM h1
    refine tr_sr hT hm [(3, .val (bv true))] [12] [(12, .d (bv (decide (a0 ≤ a2))))] (.cons (congrArg (fun b => bv b) h1) .nil) (by kernel_rfl) (by kernel_rfl) ?_
    refine tr_ret (rg_r ?_)
    obtain rfl := Option.some.inj hM
    exact retg (names := []) .nil (by kernel_rfl)
  · have hM := ite_false' hM h1
    refine tr_sr hT hm [(3, .val (bv false))] [12] [(12, .d (bv false))] (.cons (congrArg (fun b => bv b) h1) .nil) (by kernel_rfl) (by kernel_rfl) ?_
    refine tr_ret (rg_r ?_)
    obtain rfl := Option.some.inj hM
    exact retg (names := []) .nil (by kernel_rfl)
theorem ok80 : CallOk Try.prog 80 := callOk_of Try.func80 (by kernel_rfl) (by kernel_rfl)
theorem spec_l01Map_c (a0 : Int) (a1 : List Int) (r : Bool) (hM : M.spec_l01Map a0 a1 = some r) :
    FnC Try.prog 80 [] [iv a0, .sl a1.length 0 (a1.flatMap eI.b)] [] (bv r) := by
  refine fnc_startG (N := 25) (np := 500) hT Try.func80 rfl rfl (by kernel_rfl) ?_
  unfold M.spec_l01Map at hM
  refine tr_start (ks := [0, 2]) (st' := [(0, .d (iv a0)), (2, .d (.sl a1.length 0 (a1.flatMap eI.b)))]) (by kernel_rfl) ?_
  refine tr_sr hT hm [] [0, 2] [(0, .d (iv a0)), (2, .d (.sl a1.length 0 (a1.flatMap eI.b)))] .nil (by kernel_rfl) (by kernel_rfl) ?_
  refine tr_seq ?_
  refine tr_sr hT hm [] [0, 2, 10] [(0, .d (iv a0)), (2, .d (.sl a1.length 0 (a1.flatMap eI.b))), (10, .d (iv 0))] .nil (by kernel_rfl) (by kernel_rfl) ?_
  refine tr_block ?_
  refine tr_iterS (fun (s1 : Int) => [(0, .d (iv a0)), (2, .d (.sl a1.length 0 (a1.flatMap eI.b))), (10, .d (iv s1))]) 0 [0, 2, 10] (by kernel_rfl) hM ?_
  intro n4 next2 ih3 s1 hM
  refine tr_seq ?_
  refine tr_sr hT hm [] [0, 2, 10, 18] [(0, .d (iv a0)), (2, .d (.sl a1.length 0 (a1.flatMap eI.b))), (10, .d (iv s1)), (18, .d (bv (decide (s1 < (a1.length : Int)))))] .nil (by kernel_rfl) (by kernel_rfl) ?_
  rcases Bool.eq_false_or_eq_true (decide (s1 < (a1.length : Int))) with h5 | h5
  · have hM := ite_true' hM h5
    refine tr_condTe (e := decide (s1 < (a1.length : Int))) h5 (by kernel_rfl) ?_
    refine tr_skip (q_n ?_)
    refine tr_seq ?_
    refine tr_block ?_
    obtain ⟨y6, hy6, hM⟩ := bind_some' hM
    have hy6' := idx_some hy6
    rcases Bool.eq_false_or_eq_true (decide (y6 < 0)) with h7 | h7
    · have hM := ite_true' hM h7
      refine tr_sr hT hm [(3, .val (iv y6)), (5, .val (bv true))] [0, 2, 10, 48] [(0, .d (iv a0)), (2, .d (.sl a1.length 0 (a1.flatMap eI.b))), (10, .d (iv s1)), (48, .d (bv true))] (.cons hy6'.1 (.cons hy6'.2.1 (.cons (at_b0 eI_ok hy6'.2.2 (d := iv y6) (by kernel_rfl)) (.cons (congrArg (fun b => bv b) h7) .nil)))) (by kernel_rfl) (by kernel_rfl) ?_
      refine tr_condT (by kernel_rfl) ?_
      refine tr_sr hT hm [] [8] [(8, .d (bv false))] .nil (by kernel_rfl) (by kernel_rfl) ?_
      refine tr_ret (b_r (q_r (l_r (b_r (q_r (rg_r ?_))))))
      obtain rfl := Option.some.inj hM
      exact retg (names := []) .nil (by kernel_rfl)
    · have hM := ite_false' hM h7
      refine tr_sr hT hm [(3, .val (iv y6)), (5, .val (bv false)), (9, .val (iv y6))] [0, 2, 10, 48] [(0, .d (iv a0)), (2, .d (.sl a1.length 0 (a1.flatMap eI.b))), (10, .d (iv s1)), (48, .d (bv (decide (y6 ≥ a0))))] (.cons hy6'.1 (.cons hy6'.2.1 (.cons (at_b0 eI_ok hy6'.2.2 (d := iv y6) (by kernel_rfl)) (.cons (congrArg (fun b => bv b) h7) (.cons hy6'.1 (.cons hy6'.2.1 (.cons (at_b0 eI_ok hy6'.2.2 (d := iv y6) (by kernel_rfl)) .nil))))))) (by kernel_rfl) (by kernel_rfl) ?_
      rcases Bool.eq_false_or_eq_true (decide (y6 ≥ a0)) with h8 | h8
      · have hM := ite_true' hM h8
        refine tr_condTe (e := decide (y6 ≥ a0)) h8 (by kernel_rfl) ?_
        refine tr_sr hT hm [] [8] [(8, .d (bv false))] .nil (by kernel_rfl) (by kernel_rfl) ?_
        refine tr_ret (b_r (q_r (l_r (b_r (q_r (rg_r ?_))))))
        obtain rfl := Option.some.inj hM
        exact retg (names := []) .nil (by kernel_rfl)
      · have hM := ite_false' hM h8
        refine tr_condFe (e := decide (y6 ≥ a0)) h8 (by kernel_rfl) ?_
        refine tr_skip (b_n (q_n ?_))
        refine tr_r hT hm [] [0, 2, 10] [(0, .d (iv a0)), (2, .d (.sl a1.length 0 (a1.flatMap eI.b))), (10, .d (iv (IntKind.i64.wrap (s1 + 1))))] .nil (by kernel_rfl) (by kernel_rfl) (l_n ?_)
        exact trl_start (ks := [0, 2, 10]) (by kernel_rfl) (ih3 (IntKind.i64.wrap (s1 + 1)) hM)
  · have hM := ite_false' hM h5
    refine tr_condFe (e := decide (s1 < (a1.length : Int))) h5 (by kernel_rfl) ?_
    refine tr_exit (q_x (l_x (b_h (q_n ?_))))
    refine tr_sr hT hm [] [8] [(8, .d (bv true))] .nil (by kernel_rfl) (by kernel_rfl) ?_
    refine tr_ret (rg_r ?_)
    obtain rfl := Option.some.inj hM
    exact retg (names := []) .nil (by kernel_rfl)
theorem ok139 : CallOk Try.prog 139 := callOk_of Try.func139 (by kernel_rfl) (by kernel_rfl)
theorem spec_l02Ends_c (a0 : List Int) (a1 : Int) (a2 : Int) (r : Bool) (hM : M.spec_l02Ends a0 a1 a2 = some r) :
    FnC Try.prog 139 [] [.sl a0.length 0 (a0.flatMap eI.b), iv a1, iv a2] [] (bv r) := by
  refine fnc_startG (N := 16) (np := 500) hT Try.func139 rfl rfl (by kernel_rfl) ?_
  unfold M.spec_l02Ends at hM
  refine tr_start (ks := [0, 2, 4]) (st' := [(0, .d (.sl a0.length 0 (a0.flatMap eI.b))), (2, .d (iv a1)), (4, .d (iv a2))]) (by kernel_rfl) ?_
  refine tr_sr hT hm [] [0, 2, 4] [(0, .d (.sl a0.length 0 (a0.flatMap eI.b))), (2, .d (iv a1)), (4, .d (iv a2))] .nil (by kernel_rfl) (by kernel_rfl) ?_
  rcases Bool.eq_false_or_eq_true ((a0.length : Int) == a1) with h1 | h1
  · have hM := ite_true' hM h1
    obtain ⟨v2, hv2, hM⟩ := bind_some' hM
    refine tr_sr hT hm [(4, .val (bv true)), (7, .call [] [] [iv a2, .sl a0.length 0 (a0.flatMap eI.b)] [] (bv v2))] [12] [(12, .d (bv v2))] (.cons (congrArg (fun b => bv b) h1) (cc0 ok80 (spec_l01Map_c a2 a0 _ hv2) (by kernel_rfl) .nil)) (by kernel_rfl) (by kernel_rfl) ?_
    refine tr_ret (rg_r ?_)
    obtain rfl := Option.some.inj hM
    exact retg (names := []) .nil (by kernel_rfl)
  · have hM := ite_false' hM h1
    refine tr_sr hT hm [(4, .val (bv false))] [12] [(12, .d (bv false))] (.cons (congrArg (fun b => bv b) h1) .nil) (by kernel_rfl) (by kernel_rfl) ?_
    refine tr_ret (rg_r ?_)
    obtain rfl := Option.some.inj hM
    exact retg (names := []) .nil (by kernel_rfl)
theorem ok117 : CallOk Try.prog 117 := callOk_of Try.func117 (by kernel_rfl) (by kernel_rfl)
theorem spec_IsShape_c (a0 : XCategory) (r : Bool) (hM : M.spec_IsShape a0 = some r) :
    FnC Try.prog 117 [] [.agg (eXCategory.b a0)] [] (bv r) := by
  refine fnc_startG (N := 159) (np := 500) hT Try.func117 rfl rfl (by kernel_rfl) ?_
  unfold M.spec_IsShape at hM
  refine tr_start (ks := [0]) (st' := [(0, .d (.agg (eXCategory.b a0)))]) (by kernel_rfl) ?_
  refine tr_sr hT hm [] [2, 2003] [(2, .d (.rp 1001 0)), bxB 2003 (eXCategory.b a0)] .nil (by kernel_rfl) (by kernel_rfl) ?_
  refine tr_sr hT hm [] [2, 6, 2003] [(2, .d (.rp 1001 0)), (6, .d (iv (a0.From.length : Int))), bxB 2003 (eXCategory.b a0)] .nil (by kernel_rfl) (by kernel_rfl) ?_
  refine tr_seq ?_
  obtain ⟨v1, hv1, hM⟩ := bind_some' hM
  rcases Bool.eq_false_or_eq_true v1 with h2 | h2
  · have hM := ite_true' hM h2
    rcases Bool.eq_false_or_eq_true (decide ((a0.From.length : Int) > 40)) with h3 | h3
    · have hM := ite_true' hM h3
      refine tr_sr hT hm [(2, .call [] [] [iv a0.Objects, iv 0, iv 8] [] (bv v1)), (4, .val (bv false)), (8, .val (bv true))] [2, 6, 86, 2003] [(2, .d (.rp 1001 0)), (6, .d (iv (a0.From.length : Int))), (86, .d (bv true)), bxB 2003 (eXCategory.b a0)] (cc0 ok81 (spec_l01In_c a0.Objects 0 8 _ hv1) (by kernel_rfl) (.cons (congrArg (fun b => bv b) (congrArg not h2)) (.cons (congrArg (fun b => bv b) h3) .nil))) (by kernel_rfl) (by kernel_rfl) ?_
      refine tr_condT (by kernel_rfl) ?_
      refine tr_sr hT hm [] [4] [(4, .d (bv false))] .nil (by kernel_rfl) (by kernel_rfl) ?_
      refine tr_ret (q_r (rg_r ?_))
      obtain rfl := Option.some.inj hM
      exact retg (names := []) .nil (by kernel_rfl)
    · have hM := ite_false' hM h3
      obtain ⟨v4, hv4, hM⟩ := bind_some' hM
      rcases Bool.eq_false_or_eq_true v4 with h5 | h5
      · have hM := ite_true' hM h5
        obtain ⟨v6, hv6, hM⟩ := bind_some' hM
        rcases Bool.eq_false_or_eq_true v6 with h7 | h7
        · have hM := ite_true' hM h7
          refine tr_sr hT hm [(2, .call [] [] [iv a0.Objects, iv 0, iv 8] [] (bv v1)), (4, .val (bv false)), (8, .val (bv false)), (14, .call [] [] [.sl a0.From.length 0 (a0.From.flatMap eI.b), iv (a0.From.length : Int), iv a0.Objects] [] (bv v4)), (17, .val (bv false)), (23, .call [] [] [.sl a0.To.length 0 (a0.To.flatMap eI.b), iv (a0.From.length : Int), iv a0.Objects] [] (bv v6)), (26, .val (bv false))] [2, 6, 86, 2003] [(2, .d (.rp 1001 0)), (6, .d (iv (a0.From.length : Int))), (86, .d (bv ((a0.Composites.length : Int) != (a0.From.length : Int)))), bxB 2003 (eXCategory.b a0)] (cc0 ok81 (spec_l01In_c a0.Objects 0 8 _ hv1) (by kernel_rfl) (.cons (congrArg (fun b => bv b) (congrArg not h2)) (.cons (congrArg (fun b => bv b) h3) (cc0 ok139 (spec_l02Ends_c a0.From (a0.From.length : Int) a0.Objects _ hv4) (by kernel_rfl) (.cons (congrArg (fun b => bv b) (congrArg not h5)) (cc0 ok139 (spec_l02Ends_c a0.To (a0.From.length : Int) a0.Objects _ hv6) (by kernel_rfl) (.cons (congrArg (fun b => bv b) (congrArg not h7)) .nil))))))) (by kernel_rfl) (by kernel_rfl) ?_
          rcases Bool.eq_false_or_eq_true ((a0.Composites.length : Int) != (a0.From.length : Int)) with h8 | h8
          · have hM := ite_true' hM h8
            refine tr_condTe (e := (a0.Composites.length : Int) != (a0.From.length : Int)) h8 (by kernel_rfl) ?_
            refine tr_sr hT hm [] [4] [(4, .d (bv false))] .nil (by kernel_rfl) (by kernel_rfl) ?_
            refine tr_ret (q_r (rg_r ?_))
            obtain rfl := Option.some.inj hM
            exact retg (names := []) .nil (by kernel_rfl)
          · have hM := ite_false' hM h8
            refine tr_condFe (e := (a0.Composites.length : Int) != (a0.From.length : Int)) h8 (by kernel_rfl) ?_
            refine tr_skip (q_n ?_)
            refine tr_seq ?_
            rcases Bool.eq_false_or_eq_true ((a0.Identity.length : Int) != a0.Objects) with h9 | h9
            · have hM := ite_true' hM h9
              refine tr_sr hT hm [(6, .val (bv true))] [2, 6, 112, 2003] [(2, .d (.rp 1001 0)), (6, .d (iv (a0.From.length : Int))), (112, .d (bv true)), bxB 2003 (eXCategory.b a0)] (.cons (congrArg (fun b => bv b) h9) .nil) (by kernel_rfl) (by kernel_rfl) ?_
              refine tr_condT (by kernel_rfl) ?_
              refine tr_sr hT hm [] [4] [(4, .d (bv false))] .nil (by kernel_rfl) (by kernel_rfl) ?_
              refine tr_ret (q_r (rg_r ?_))
              obtain rfl := Option.some.inj hM
              exact retg (names := []) .nil (by kernel_rfl)
            · have hM := ite_false' hM h9
              obtain ⟨v10, hv10, hM⟩ := bind_some' hM
              refine tr_sr hT hm [(6, .val (bv false)), (10, .call [] [] [iv (a0.From.length : Int), .sl a0.Identity.length 0 (a0.Identity.flatMap eI.b)] [] (bv v10))] [2, 6, 112, 2003] [(2, .d (.rp 1001 0)), (6, .d (iv (a0.From.length : Int))), (112, .d (bv (!v10))), bxB 2003 (eXCategory.b a0)] (.cons (congrArg (fun b => bv b) h9) (cc0 ok80 (spec_l01Map_c (a0.From.length : Int) a0.Identity _ hv10) (by kernel_rfl) .nil)) (by kernel_rfl) (by kernel_rfl) ?_
              rcases Bool.eq_false_or_eq_true v10 with h11 | h11
              · have hM := ite_true' hM h11
                refine tr_condFe (e := !v10) (congrArg not h11) (by kernel_rfl) ?_
                refine tr_skip (q_n ?_)
                refine tr_seq ?_
                refine tr_sr hT hm [] [2, 6, 8, 2003] [(2, .d (.rp 1001 0)), (6, .d (iv (a0.From.length : Int))), (8, .d (iv 0)), bxB 2003 (eXCategory.b a0)] .nil (by kernel_rfl) (by kernel_rfl) ?_
                refine tr_block ?_
                refine tr_iterS (fun (s12 : Int) => [(2, .d (.rp 1001 0)), (6, .d (iv (a0.From.length : Int))), (8, .d (iv s12)), bxB 2003 (eXCategory.b a0)]) 0 [2, 6, 8, 2003] (by kernel_rfl) hM ?_
                intro n15 next13 ih14 s12 hM
                refine tr_seq ?_
                refine tr_sr hT hm [] [2, 6, 8, 120, 2003] [(2, .d (.rp 1001 0)), (6, .d (iv (a0.From.length : Int))), (8, .d (iv s12)), (120, .d (bv (decide (s12 < a0.Objects)))), bxB 2003 (eXCategory.b a0)] .nil (by kernel_rfl) (by kernel_rfl) ?_
                rcases Bool.eq_false_or_eq_true (decide (s12 < a0.Objects)) with h16 | h16
                · have hM := ite_true' hM h16
                  refine tr_condTe (e := decide (s12 < a0.Objects)) h16 (by kernel_rfl) ?_
                  refine tr_skip (q_n ?_)
                  refine tr_seq ?_
                  refine tr_block ?_
                  obtain ⟨y17, hy17, hM⟩ := bind_some' hM
                  have hy17' := idx_some hy17
                  obtain ⟨y18, hy18, hM⟩ := bind_some' hM
                  have hy18' := idx_some hy18
                  rcases Bool.eq_false_or_eq_true (y18 != s12) with h19 | h19
                  · have hM := ite_true' hM h19
                    refine tr_sr hT hm [(6, .val (iv y17)), (8, .val (iv y18)), (11, .val (bv true))] [2, 6, 8, 172, 2003] [(2, .d (.rp 1001 0)), (6, .d (iv (a0.From.length : Int))), (8, .d (iv s12)), (172, .d (bv true)), bxB 2003 (eXCategory.b a0)] (.cons hy17'.1 (.cons hy17'.2.1 (.cons (at_b0 eI_ok hy17'.2.2 (d := iv y17) (by kernel_rfl)) (.cons hy18'.1 (.cons hy18'.2.1 (.cons (at_b0 eI_ok hy18'.2.2 (d := iv y18) (by kernel_rfl)) (.cons (congrArg (fun b => bv b) h19) .nil))))))) (by kernel_rfl) (by kernel_rfl) ?_
                    refine tr_condT (by kernel_rfl) ?_
                    refine tr_sr hT hm [] [4] [(4, .d (bv false))] .nil (by kernel_rfl) (by kernel_rfl) ?_
                    refine tr_ret (b_r (q_r (l_r (b_r (q_r (rg_r ?_))))))
                    obtain rfl := Option.some.inj hM
                    exact retg (names := []) .nil (by kernel_rfl)
                  · have hM := ite_false' hM h19
                    obtain ⟨y20, hy20, hM⟩ := bind_some' hM
                    have hy20' := idx_some hy20
                    refine tr_sr hT hm [(6, .val (iv y17)), (8, .val (iv y18)), (11, .val (bv false)), (18, .val (iv y17)), (20, .val (iv y20))] [2, 6, 8, 172, 2003] [(2, .d (.rp 1001 0)), (6, .d (iv (a0.From.length : Int))), (8, .d (iv s12)), (172, .d (bv (y20 != s12))), bxB 2003 (eXCategory.b a0)] (.cons hy17'.1 (.cons hy17'.2.1 (.cons (at_b0 eI_ok hy17'.2.2 (d := iv y17) (by kernel_rfl)) (.cons hy18'.1 (.cons hy18'.2.1 (.cons (at_b0 eI_ok hy18'.2.2 (d := iv y18) (by kernel_rfl)) (.cons (congrArg (fun b => bv b) h19) (.cons hy17'.1 (.cons hy17'.2.1 (.cons (at_b0 eI_ok hy17'.2.2 (d := iv y17) (by kernel_rfl)) (.cons hy20'.1 (.cons hy20'.2.1 (.cons (at_b0 eI_ok hy20'.2.2 (d := iv y20) (by kernel_rfl)) .nil))))))))))))) (by kernel_rfl) (by kernel_rfl) ?_
                    rcases Bool.eq_false_or_eq_true (y20 != s12) with h21 | h21
                    · have hM := ite_true' hM h21
                      refine tr_condTe (e := y20 != s12) h21 (by kernel_rfl) ?_
                      refine tr_sr hT hm [] [4] [(4, .d (bv false))] .nil (by kernel_rfl) (by kernel_rfl) ?_
                      refine tr_ret (b_r (q_r (l_r (b_r (q_r (rg_r ?_))))))
                      obtain rfl := Option.some.inj hM
                      exact retg (names := []) .nil (by kernel_rfl)
                    · have hM := ite_false' hM h21
                      refine tr_condFe (e := y20 != s12) h21 (by kernel_rfl) ?_
                      refine tr_skip (b_n (q_n ?_))
                      refine tr_r hT hm [] [2, 6, 8, 2003] [(2, .d (.rp 1001 0)), (6, .d (iv (a0.From.length : Int))), (8, .d (iv (IntKind.i64.wrap (s12 + 1)))), bxB 2003 (eXCategory.b a0)] .nil (by kernel_rfl) (by kernel_rfl) (l_n ?_)
                      exact trl_start (ks := [2, 6, 8, 2003]) (by kernel_rfl) (ih14 (IntKind.i64.wrap (s12 + 1)) hM)
                · have hM := ite_false' hM h16
                  refine tr_condFe (e := decide (s12 < a0.Objects)) h16 (by kernel_rfl) ?_
                  refine tr_exit (q_x (l_x (b_h (q_n ?_))))
                  refine tr_seq ?_
                  refine tr_sr hT hm [] [2, 6, 10, 2003] [(2, .d (.rp 1001 0)), (6, .d (iv (a0.From.length : Int))), (10, .d (iv 0)), bxB 2003 (eXCategory.b a0)] .nil (by kernel_rfl) (by kernel_rfl) ?_
                  refine tr_block ?_
                  refine tr_iterS (fun (s22 : Int) => [(2, .d (.rp 1001 0)), (6, .d (iv (a0.From.length : Int))), (10, .d (iv s22)), bxB 2003 (eXCategory.b a0)]) 0 [2, 6, 10, 2003] (by kernel_rfl) hM ?_
                  intro n25 next23 ih24 s22 hM
                  refine tr_seq ?_
                  refine tr_sr hT hm [] [2, 6, 10, 178, 2003] [(2, .d (.rp 1001 0)), (6, .d (iv (a0.From.length : Int))), (10, .d (iv s22)), (178, .d (bv (decide (s22 < (a0.From.length : Int))))), bxB 2003 (eXCategory.b a0)] .nil (by kernel_rfl) (by kernel_rfl) ?_
                  rcases Bool.eq_false_or_eq_true (decide (s22 < (a0.From.length : Int))) with h26 | h26
                  · have hM := ite_true' hM h26
                    refine tr_condTe (e := decide (s22 < (a0.From.length : Int))) h26 (by kernel_rfl) ?_
                    refine tr_skip (q_n ?_)
                    refine tr_seq ?_
                    refine tr_block ?_
                    refine tr_seq ?_
                    obtain ⟨y27, hy27, hM⟩ := bind_some' hM
                    have hy27' := idx_some hy27
                    refine tr_sr hT hm [(4, .val (.sl y27.length 0 (y27.flatMap eI.b)))] [2, 6, 10, 198, 2003] [(2, .d (.rp 1001 0)), (6, .d (iv (a0.From.length : Int))), (10, .d (iv s22)), (198, .d (bv ((y27.length : Int) != (a0.From.length : Int)))), bxB 2003 (eXCategory.b a0)] (.cons hy27'.1 (.cons hy27'.2.1 (.cons (at_b0 (eS_ok eI_ok) hy27'.2.2 (d := .sl y27.length 0 (y27.flatMap eI.b)) (by kernel_rfl)) .nil))) (by kernel_rfl) (by kernel_rfl) ?_
                    rcases Bool.eq_false_or_eq_true ((y27.length : Int) != (a0.From.length : Int)) with h28 | h28
                    · have hM := ite_true' hM h28
                      refine tr_condTe (e := (y27.length : Int) != (a0.From.length : Int)) h28 (by kernel_rfl) ?_
                      refine tr_sr hT hm [] [4] [(4, .d (bv false))] .nil (by kernel_rfl) (by kernel_rfl) ?_
                      refine tr_ret (q_r (b_r (q_r (l_r (b_r (q_r (rg_r ?_)))))))
                      obtain rfl := Option.some.inj hM
                      exact retg (names := []) .nil (by kernel_rfl)
                    · have hM := ite_false' hM h28
                      refine tr_condFe (e := (y27.length : Int) != (a0.From.length : Int)) h28 (by kernel_rfl) ?_
                      refine tr_skip (q_n ?_)
                      refine tr_sr hT hm [] [2, 6, 10, 12, 2003] [(2, .d (.rp 1001 0)), (6, .d (iv (a0.From.length : Int))), (10, .d (iv s22)), (12, .d (iv 0)), bxB 2003 (eXCategory.b a0)] .nil (by kernel_rfl) (by kernel_rfl) ?_
                      refine tr_block ?_
                      refine tr_iterS (fun (s29 : Int) => [(2, .d (.rp 1001 0)), (6, .d (iv (a0.From.length : Int))), (10, .d (iv s22)), (12, .d (iv s29)), bxB 2003 (eXCategory.b a0)]) 0 [2, 6, 10, 12, 2003] (by kernel_rfl) hM ?_
                      intro n32 next30 ih31 s29 hM
                      refine tr_seq ?_
                      refine tr_sr hT hm [] [2, 6, 10, 12, 204, 2003] [(2, .d (.rp 1001 0)), (6, .d (iv (a0.From.length : Int))), (10, .d (iv s22)), (12, .d (iv s29)), (204, .d (bv (decide (s29 < (a0.From.length : Int))))), bxB 2003 (eXCategory.b a0)] .nil (by kernel_rfl) (by kernel_rfl) ?_
                      rcases Bool.eq_false_or_eq_true (decide (s29 < (a0.From.length : Int))) with h33 | h33
                      · have hM := ite_true' hM h33
                        refine tr_condTe (e := decide (s29 < (a0.From.length : Int))) h33 (by kernel_rfl) ?_
                        refine tr_skip (q_n ?_)
                        refine tr_seq ?_
                        refine tr_block ?_
                        obtain ⟨y34, hy34, hM⟩ := bind_some' hM
                        have hy34' := idx_some hy34
                        refine tr_sr hT hm [(4, .val (.sl y27.length 0 (y27.flatMap eI.b))), (7, .val (iv y34))] [2, 6, 10, 12, 14, 2003] [(2, .d (.rp 1001 0)), (6, .d (iv (a0.From.length : Int))), (10, .d (iv s22)), (12, .d (iv s29)), (14, .d (iv y34)), bxB 2003 (eXCategory.b a0)] (.cons hy27'.1 (.cons hy27'.2.1 (.cons (at_b0 (eS_ok eI_ok) hy27'.2.2 (d := .sl y27.length 0 (y27.flatMap eI.b)) (by kernel_rfl)) (.cons hy34'.1 (.cons hy34'.2.1 (.cons (at_b0 eI_ok hy34'.2.2 (d := iv y34) (by kernel_rfl)) .nil)))))) (by kernel_rfl) (by kernel_rfl) ?_
                        refine tr_seq ?_
                        obtain ⟨y35, hy35, hM⟩ := bind_some' hM
                        have hy35' := idx_some hy35
                        obtain ⟨y36, hy36, hM⟩ := bind_some' hM
                        have hy36' := idx_some hy36
                        refine tr_sr hT hm [(4, .val (iv y35)), (9, .val (iv y36))] [2, 6, 10, 12, 14, 246, 2003] [(2, .d (.rp 1001 0)), (6, .d (iv (a0.From.length : Int))), (10, .d (iv s22)), (12, .d (iv s29)), (14, .d (iv y34)), (246, .d (bv (y35 != y36))), bxB 2003 (eXCategory.b a0)] (.cons hy35'.1 (.cons hy35'.2.1 (.cons (at_b0 eI_ok hy35'.2.2 (d := iv y35) (by kernel_rfl)) (.cons hy36'.1 (.cons hy36'.2.1 (.cons (at_b0 eI_ok hy36'.2.2 (d := iv y36) (by kernel_rfl)) .nil)))))) (by kernel_rfl) (by kernel_rfl) ?_
                        rcases Bool.eq_false_or_eq_true (y35 != y36) with h37 | h37
                        · have hM := ite_true' hM h37
                          refine tr_condTe (e := y35 != y36) h37 (by kernel_rfl) ?_
                          refine tr_seq ?_
                          refine tr_sr hT hm [] [2, 6, 10, 12, 250, 2003] [(2, .d (.rp 1001 0)), (6, .d (iv (a0.From.length : Int))), (10, .d (iv s22)), (12, .d (iv s29)), (250, .d (bv (y34 != (-1)))), bxB 2003 (eXCategory.b a0)] .nil (by kernel_rfl) (by kernel_rfl) ?_
                          rcases Bool.eq_false_or_eq_true (y34 != (-1)) with h38 | h38
                          · have hM := ite_true' hM h38
                            refine tr_condTe (e := y34 != (-1)) h38 (by kernel_rfl) ?_
                            refine tr_sr hT hm [] [4] [(4, .d (bv false))] .nil (by kernel_rfl) (by kernel_rfl) ?_
                            refine tr_ret (q_r (q_r (b_r (q_r (l_r (b_r (b_r (q_r (l_r (b_r (q_r (rg_r ?_))))))))))))
                            obtain rfl := Option.some.inj hM
                            exact retg (names := []) .nil (by kernel_rfl)
                          · have hM := ite_false' hM h38
                            refine tr_condFe (e := y34 != (-1)) h38 (by kernel_rfl) ?_
                            refine tr_skip (q_n ?_)
                            refine tr_exit (q_x (b_h (q_n ?_)))
                            refine tr_r hT hm [] [2, 6, 10, 12, 2003] [(2, .d (.rp 1001 0)), (6, .d (iv (a0.From.length : Int))), (10, .d (iv s22)), (12, .d (iv (IntKind.i64.wrap (s29 + 1)))), bxB 2003 (eXCategory.b a0)] .nil (by kernel_rfl) (by kernel_rfl) (l_n ?_)
                            exact trl_start (ks := [2, 6, 10, 12, 2003]) (by kernel_rfl) (ih31 (IntKind.i64.wrap (s29 + 1)) hM)
                        · have hM := ite_false' hM h37
                          refine tr_condFe (e := y35 != y36) h37 (by kernel_rfl) ?_
                          refine tr_skip (q_n ?_)
                          rcases Bool.eq_false_or_eq_true (decide (y34 < 0)) with h39 | h39
                          · have hM := ite_true' hM h39
                            refine tr_sr hT hm [(2, .val (bv true))] [2, 6, 10, 12, 316, 2003] [(2, .d (.rp 1001 0)), (6, .d (iv (a0.From.length : Int))), (10, .d (iv s22)), (12, .d (iv s29)), (316, .d (bv true)), bxB 2003 (eXCategory.b a0)] (.cons (congrArg (fun b => bv b) h39) .nil) (by kernel_rfl) (by kernel_rfl) ?_
                            refine tr_condT (by kernel_rfl) ?_
                            refine tr_sr hT hm [] [4] [(4, .d (bv false))] .nil (by kernel_rfl) (by kernel_rfl) ?_
                            refine tr_ret (b_r (q_r (l_r (b_r (b_r (q_r (l_r (b_r (q_r (rg_r ?_))))))))))
                            obtain rfl := Option.some.inj hM
                            exact retg (names := []) .nil (by kernel_rfl)
                          · have hM := ite_false' hM h39
                            rcases Bool.eq_false_or_eq_true (decide (y34 ≥ (a0.From.length : Int))) with h40 | h40
                            · have hM := ite_true' hM h40
                              refine tr_sr hT hm [(2, .val (bv false)), (7, .val (bv true))] [2, 6, 10, 12, 316, 2003] [(2, .d (.rp 1001 0)), (6, .d (iv (a0.From.length : Int))), (10, .d (iv s22)), (12, .d (iv s29)), (316, .d (bv true)), bxB 2003 (eXCategory.b a0)] (.cons (congrArg (fun b => bv b) h39) (.cons (congrArg (fun b => bv b) h40) .nil)) (by kernel_rfl) (by kernel_rfl) ?_
                              refine tr_condT (by kernel_rfl) ?_
                              refine tr_sr hT hm [] [4] [(4, .d (bv false))] .nil (by kernel_rfl) (by kernel_rfl) ?_
                              refine tr_ret (b_r (q_r (l_r (b_r (b_r (q_r (l_r (b_r (q_r (rg_r ?_))))))))))
                              obtain rfl := Option.some.inj hM
                              exact retg (names := []) .nil (by kernel_rfl)
                            · have hM := ite_false' hM h40
                              obtain ⟨y41, hy41, hM⟩ := bind_some' hM
                              have hy41' := idx_some hy41
                              obtain ⟨y42, hy42, hM⟩ := bind_some' hM
                              have hy42' := idx_some hy42
                              rcases Bool.eq_false_or_eq_true (y41 != y42) with h43 | h43
                              · have hM := ite_true' hM h43
                                refine tr_sr hT hm [(2, .val (bv false)), (7, .val (bv false)), (12, .val (iv y41)), (17, .val (iv y42)), (20, .val (bv true))] [2, 6, 10, 12, 316, 2003] [(2, .d (.rp 1001 0)), (6, .d (iv (a0.From.length : Int))), (10, .d (iv s22)), (12, .d (iv s29)), (316, .d (bv true)), bxB 2003 (eXCategory.b a0)] (.cons (congrArg (fun b => bv b) h39) (.cons (congrArg (fun b => bv b) h40) (.cons hy41'.1 (.cons hy41'.2.1 (.cons (at_b0 eI_ok hy41'.2.2 (d := iv y41) (by kernel_rfl)) (.cons hy42'.1 (.cons hy42'.2.1 (.cons (at_b0 eI_ok hy42'.2.2 (d := iv y42) (by kernel_rfl)) (.cons (congrArg (fun b => bv b) h43) .nil))))))))) (by kernel_rfl) (by kernel_rfl) ?_
                                refine tr_condT (by kernel_rfl) ?_
                                refine tr_sr hT hm [] [4] [(4, .d (bv false))] .nil (by kernel_rfl) (by kernel_rfl) ?_
                                refine tr_ret (b_r (q_r (l_r (b_r (b_r (q_r (l_r (b_r (q_r (rg_r ?_))))))))))
                                obtain rfl := Option.some.inj hM
                                exact retg (names := []) .nil (by kernel_rfl)
                              · have hM := ite_false' hM h43
                                obtain ⟨y44, hy44, hM⟩ := bind_some' hM
                                have hy44' := idx_some hy44
                                obtain ⟨y45, hy45, hM⟩ := bind_some' hM
                                have hy45' := idx_some hy45
                                refine tr_sr hT hm [(2, .val (bv false)), (7, .val (bv false)), (12, .val (iv y41)), (17, .val (iv y42)), (20, .val (bv false)), (25, .val (iv y44)), (30, .val (iv y45))] [2, 6, 10, 12, 316, 2003] [(2, .d (.rp 1001 0)), (6, .d (iv (a0.From.length : Int))), (10, .d (iv s22)), (12, .d (iv s29)), (316, .d (bv (y44 != y45))), bxB 2003 (eXCategory.b a0)] (.cons (congrArg (fun b => bv b) h39) (.cons (congrArg (fun b => bv b) h40) (.cons hy41'.1 (.cons hy41'.2.1 (.cons (at_b0 eI_ok hy41'.2.2 (d := iv y41) (by kernel_rfl)) (.cons hy42'.1 (.cons hy42'.2.1 (.cons (at_b0 eI_ok hy42'.2.2 (d := iv y42) (by kernel_rfl)) (.cons (congrArg (fun b => bv b) h43) (.cons hy44'.1 (.cons hy44'.2.1 (.cons (at_b0 eI_ok hy44'.2.2 (d := iv y44) (by kernel_rfl)) (.cons hy45'.1 (.cons hy45'.2.1 (.cons (at_b0 eI_ok hy45'.2.2 (d := iv y45) (by kernel_rfl)) .nil))))))))))))))) (by kernel_rfl) (by kernel_rfl) ?_
                                rcases Bool.eq_false_or_eq_true (y44 != y45) with h46 | h46
                                · have hM := ite_true' hM h46
                                  refine tr_condTe (e := y44 != y45) h46 (by kernel_rfl) ?_
                                  refine tr_sr hT hm [] [4] [(4, .d (bv false))] .nil (by kernel_rfl) (by kernel_rfl) ?_
                                  refine tr_ret (b_r (q_r (l_r (b_r (b_r (q_r (l_r (b_r (q_r (rg_r ?_))))))))))
                                  obtain rfl := Option.some.inj hM
                                  exact retg (names := []) .nil (by kernel_rfl)
                                · have hM := ite_false' hM h46
                                  refine tr_condFe (e := y44 != y45) h46 (by kernel_rfl) ?_
                                  refine tr_skip (b_n (q_n ?_))
                                  refine tr_r hT hm [] [2, 6, 10, 12, 2003] [(2, .d (.rp 1001 0)), (6, .d (iv (a0.From.length : Int))), (10, .d (iv s22)), (12, .d (iv (IntKind.i64.wrap (s29 + 1)))), bxB 2003 (eXCategory.b a0)] .nil (by kernel_rfl) (by kernel_rfl) (l_n ?_)
                                  exact trl_start (ks := [2, 6, 10, 12, 2003]) (by kernel_rfl) (ih31 (IntKind.i64.wrap (s29 + 1)) hM)
                      · have hM := ite_false' hM h33
                        refine tr_condFe (e := decide (s29 < (a0.From.length : Int))) h33 (by kernel_rfl) ?_
                        refine tr_exit (q_x (l_x (b_h (b_n (q_n ?_)))))
                        refine tr_r hT hm [] [2, 6, 10, 2003] [(2, .d (.rp 1001 0)), (6, .d (iv (a0.From.length : Int))), (10, .d (iv (IntKind.i64.wrap (s22 + 1)))), bxB 2003 (eXCategory.b a0)] .nil (by kernel_rfl) (by kernel_rfl) (l_n ?_)
                        exact trl_start (ks := [2, 6, 10, 2003]) (by kernel_rfl) (ih24 (IntKind.i64.wrap (s22 + 1)) hM)
                  · have hM := ite_false' hM h26
                    refine tr_condFe (e := decide (s22 < (a0.From.length : Int))) h26 (by kernel_rfl) ?_
                    refine tr_exit (q_x (l_x (b_h (q_n ?_))))
                    refine tr_sr hT hm [] [4] [(4, .d (bv true))] .nil (by kernel_rfl) (by kernel_rfl) ?_
                    refine tr_ret (rg_r ?_)
                    obtain rfl := Option.some.inj hM
                    exact retg (names := []) .nil (by kernel_rfl)
              · have hM := ite_false' hM h11
                refine tr_condTe (e := !v10) (congrArg not h11) (by kernel_rfl) ?_
                refine tr_sr hT hm [] [4] [(4, .d (bv false))] .nil (by kernel_rfl) (by kernel_rfl) ?_
                refine tr_ret (q_r (rg_r ?_))
                obtain rfl := Option.some.inj hM
                exact retg (names := []) .nil (by kernel_rfl)
        · have hM := ite_false' hM h7
          refine tr_sr hT hm [(2, .call [] [] [iv a0.Objects, iv 0, iv 8] [] (bv v1)), (4, .val (bv false)), (8, .val (bv false)), (14, .call [] [] [.sl a0.From.length 0 (a0.From.flatMap eI.b), iv (a0.From.length : Int), iv a0.Objects] [] (bv v4)), (17, .val (bv false)), (23, .call [] [] [.sl a0.To.length 0 (a0.To.flatMap eI.b), iv (a0.From.length : Int), iv a0.Objects] [] (bv v6)), (26, .val (bv true))] [2, 6, 86, 2003] [(2, .d (.rp 1001 0)), (6, .d (iv (a0.From.length : Int))), (86, .d (bv true)), bxB 2003 (eXCategory.b a0)] (cc0 ok81 (spec_l01In_c a0.Objects 0 8 _ hv1) (by kernel_rfl) (.cons (congrArg (fun b => bv b) (congrArg not h2)) (.cons (congrArg (fun b => bv b) h3) (cc0 ok139 (spec_l02Ends_c a0.From (a0.From.length : Int) a0.Objects _ hv4) (by kernel_rfl) (.cons (congrArg (fun b => bv b) (congrArg not h5)) (cc0 ok139 (spec_l02Ends_c a0.To (a0.From.length : Int) a0.Objects _ hv6) (by kernel_rfl) (.cons (congrArg (fun b => bv b) (congrArg not h7)) .nil))))))) (by kernel_rfl) (by kernel_rfl) ?_
          refine tr_condT (by kernel_rfl) ?_
          refine tr_sr hT hm [] [4] [(4, .d (bv false))] .nil (by kernel_rfl) (by kernel_rfl) ?_
          refine tr_ret (q_r (rg_r ?_))
          obtain rfl := Option.some.inj hM
          exact retg (names := []) .nil (by kernel_rfl)
      · have hM := ite_false' hM h5
        refine tr_sr hT hm [(2, .call [] [] [iv a0.Objects, iv 0, iv 8] [] (bv v1)), (4, .val (bv false)), (8, .val (bv false)), (14, .call [] [] [.sl a0.From.length 0 (a0.From.flatMap eI.b), iv (a0.From.length : Int), iv a0.Objects] [] (bv v4)), (17, .val (bv true))] [2, 6, 86, 2003] [(2, .d (.rp 1001 0)), (6, .d (iv (a0.From.length : Int))), (86, .d (bv true)), bxB 2003 (eXCategory.b a0)] (cc0 ok81 (spec_l01In_c a0.Objects 0 8 _ hv1) (by kernel_rfl) (.cons (congrArg (fun b => bv b) (congrArg not h2)) (.cons (congrArg (fun b => bv b) h3) (cc0 ok139 (spec_l02Ends_c a0.From (a0.From.length : Int) a0.Objects _ hv4) (by kernel_rfl) (.cons (congrArg (fun b => bv b) (congrArg not h5)) .nil))))) (by kernel_rfl) (by kernel_rfl) ?_
        refine tr_condT (by kernel_rfl) ?_
        refine tr_sr hT hm [] [4] [(4, .d (bv false))] .nil (by kernel_rfl) (by kernel_rfl) ?_
        refine tr_ret (q_r (rg_r ?_))
        obtain rfl := Option.some.inj hM
        exact retg (names := []) .nil (by kernel_rfl)
  · have hM := ite_false' hM h2
    refine tr_sr hT hm [(2, .call [] [] [iv a0.Objects, iv 0, iv 8] [] (bv v1)), (4, .val (bv true))] [2, 6, 86, 2003] [(2, .d (.rp 1001 0)), (6, .d (iv (a0.From.length : Int))), (86, .d (bv true)), bxB 2003 (eXCategory.b a0)] (cc0 ok81 (spec_l01In_c a0.Objects 0 8 _ hv1) (by kernel_rfl) (.cons (congrArg (fun b => bv b) (congrArg not h2)) .nil)) (by kernel_rfl) (by kernel_rfl) ?_
    refine tr_condT (by kernel_rfl) ?_
    refine tr_sr hT hm [] [4] [(4, .d (bv false))] .nil (by kernel_rfl) (by kernel_rfl) ?_
    refine tr_ret (q_r (rg_r ?_))
    obtain rfl := Option.some.inj hM
    exact retg (names := []) .nil (by kernel_rfl)
theorem ok118 : CallOk Try.prog 118 := callOk_of Try.func118 (by kernel_rfl) (by kernel_rfl)
theorem spec_l02Fault_c (a0 : XCategory) (r : Int × Int × Int × Int) (hM : M.spec_l02Fault a0 = some r) :
    FnC Try.prog 118 [] [.agg (eXCategory.b a0)] [] (.tup [iv r.1, iv r.2.1, iv r.2.2.1, iv r.2.2.2]) := by
  refine fnc_startG (N := 131) (np := 500) hT Try.func118 rfl rfl (by kernel_rfl) ?_
  unfold M.spec_l02Fault at hM
  refine tr_start (ks := [0]) (st' := [(0, .d (.agg (eXCategory.b a0)))]) (by kernel_rfl) ?_
  refine tr_sr hT hm [] [2, 2003] [(2, .d (.rp 1001 0)), bxB 2003 (eXCategory.b a0)] .nil (by kernel_rfl) (by kernel_rfl) ?_
  refine tr_sr hT hm [] [2, 12, 2003] [(2, .d (.rp 1001 0)), (12, .d (iv (a0.From.length : Int))), bxB 2003 (eXCategory.b a0)] .nil (by kernel_rfl) (by kernel_rfl) ?_
  refine tr_seq ?_
  refine tr_sr hT hm [] [2, 12, 14, 2003] [(2, .d (.rp 1001 0)), (12, .d (iv (a0.From.length : Int))), (14, .d (iv 0)), bxB 2003 (eXCategory.b a0)] .nil (by kernel_rfl) (by kernel_rfl) ?_
  refine tr_block ?_
  refine tr_iterS (fun (s1 : Int) => [(2, .d (.rp 1001 0)), (12, .d (iv (a0.From.length : Int))), (14, .d (iv s1)), bxB 2003 (eXCategory.b a0)]) 0 [2, 12, 14, 2003] (by kernel_rfl) hM ?_
  intro n4 next2 ih3 s1 hM
  refine tr_seq ?_
  refine tr_sr hT hm [] [2, 12, 14, 32, 2003] [(2, .d (.rp 1001 0)), (12, .d (iv (a0.From.length : Int))), (14, .d (iv s1)), (32, .d (bv (decide (s1 < (a0.From.length : Int))))), bxB 2003 (eXCategory.b a0)] .nil (by kernel_rfl) (by kernel_rfl) ?_
  rcases Bool.eq_false_or_eq_true (decide (s1 < (a0.From.length : Int))) with h5 | h5
  · have hM := ite_true' hM h5
    refine tr_condTe (e := decide (s1 < (a0.From.length : Int))) h5 (by kernel_rfl) ?_
    refine tr_skip (q_n ?_)
    refine tr_seq ?_
    refine tr_block ?_
    obtain ⟨y6, hy6, hM⟩ := bind_some' hM
    have hy6' := idx_some hy6
    obtain ⟨y7, hy7, hM⟩ := bind_some' hM
    have hy7' := idx_some hy7
    obtain ⟨y8, hy8, hM⟩ := bind_some' hM
    have hy8' := idx_some hy8
    obtain ⟨y9, hy9, hM⟩ := bind_some' hM
    have hy9' := idx_some hy9
    rcases Bool.eq_false_or_eq_true (y9 != s1) with h10 | h10
    · have hM := ite_true' hM h10
      refine tr_sr hT hm [(8, .val (iv y6)), (10, .val (iv y7)), (12, .val (.sl y8.length 0 (y8.flatMap eI.b))), (15, .val (iv y9)), (18, .val (bv true))] [2, 12, 14, 112, 2003] [(2, .d (.rp 1001 0)), (12, .d (iv (a0.From.length : Int))), (14, .d (iv s1)), (112, .d (bv true)), bxB 2003 (eXCategory.b a0)] (.cons hy6'.1 (.cons hy6'.2.1 (.cons (at_b0 eI_ok hy6'.2.2 (d := iv y6) (by kernel_rfl)) (.cons hy7'.1 (.cons hy7'.2.1 (.cons (at_b0 eI_ok hy7'.2.2 (d := iv y7) (by kernel_rfl)) (.cons hy8'.1 (.cons hy8'.2.1 (.cons (at_b0 (eS_ok eI_ok) hy8'.2.2 (d := .sl y8.length 0 (y8.flatMap eI.b)) (by kernel_rfl)) (.cons hy9'.1 (.cons hy9'.2.1 (.cons (at_b0 eI_ok hy9'.2.2 (d := iv y9) (by kernel_rfl)) (.cons (congrArg (fun b => bv b) h10) .nil))))))))))))) (by kernel_rfl) (by kernel_rfl) ?_
      refine tr_condT (by kernel_rfl) ?_
      refine tr_sr hT hm [] [4, 6, 8, 10] [(4, .d (iv 1)), (6, .d (iv s1)), (8, .d (iv 0)), (10, .d (iv 0))] .nil (by kernel_rfl) (by kernel_rfl) ?_
      refine tr_ret (b_r (q_r (l_r (b_r (q_r (rg_r ?_))))))
      obtain rfl := Option.some.inj hM
      exact retg (names := []) .nil (by kernel_rfl)
    · have hM := ite_false' hM h10
      obtain ⟨y11, hy11, hM⟩ := bind_some' hM
      have hy11' := idx_some hy11
      obtain ⟨y12, hy12, hM⟩ := bind_some' hM
      have hy12' := idx_some hy12
      obtain ⟨y13, hy13, hM⟩ := bind_some' hM
      have hy13' := idx_some hy13
      obtain ⟨y14, hy14, hM⟩ := bind_some' hM
      have hy14' := idx_some hy14
      refine tr_sr hT hm [(8, .val (iv y6)), (10, .val (iv y7)), (12, .val (.sl y8.length 0 (y8.flatMap eI.b))), (15, .val (iv y9)), (18, .val (bv false)), (23, .val (.sl y11.length 0 (y11.flatMap eI.b))), (30, .val (iv y12)), (32, .val (iv y13)), (34, .val (iv y14))] [2, 12, 14, 112, 2003] [(2, .d (.rp 1001 0)), (12, .d (iv (a0.From.length : Int))), (14, .d (iv s1)), (112, .d (bv (y14 != s1))), bxB 2003 (eXCategory.b a0)] (.cons hy6'.1 (.cons hy6'.2.1 (.cons (at_b0 eI_ok hy6'.2.2 (d := iv y6) (by kernel_rfl)) (.cons hy7'.1 (.cons hy7'.2.1 (.cons (at_b0 eI_ok hy7'.2.2 (d := iv y7) (by kernel_rfl)) (.cons hy8'.1 (.cons hy8'.2.1 (.cons (at_b0 (eS_ok eI_ok) hy8'.2.2 (d := .sl y8.length 0 (y8.flatMap eI.b)) (by kernel_rfl)) (.cons hy9'.1 (.cons hy9'.2.1 (.cons (at_b0 eI_ok hy9'.2.2 (d := iv y9) (by kernel_rfl)) (.cons (congrArg (fun b => bv b) h10) (.cons hy11'.1 (.cons hy11'.2.1 (.cons (at_b0 (eS_ok eI_ok) hy11'.2.2 (d := .sl y11.length 0 (y11.flatMap eI.b)) (by kernel_rfl)) (.cons hy12'.1 (.cons hy12'.2.1 (.cons (at_b0 eI_ok hy12'.2.2 (d := iv y12) (by kernel_rfl)) (.cons hy13'.1 (.cons hy13'.2.1 (.cons (at_b0 eI_ok hy13'.2.2 (d := iv y13) (by kernel_rfl)) (.cons hy14'.1 (.cons hy14'.2.1 (.cons (at_b0 eI_ok hy14'.2.2 (d := iv y14) (by kernel_rfl)) .nil))))))))))))))))))))))))) (by kernel_rfl) (by kernel_rfl) ?_
      rcases Bool.eq_false_or_eq_true (y14 != s1) with h15 | h15
      · have hM := ite_true' hM h15
        refine tr_condTe (e := y14 != s1) h15 (by kernel_rfl) ?_
        refine tr_sr hT hm [] [4, 6, 8, 10] [(4, .d (iv 1)), (6, .d (iv s1)), (8, .d (iv 0)), (10, .d (iv 0))] .nil (by kernel_rfl) (by kernel_rfl) ?_
        refine tr_ret (b_r (q_r (l_r (b_r (q_r (rg_r ?_))))))
        obtain rfl := Option.some.inj hM
        exact retg (names := []) .nil (by kernel_rfl)
      · have hM := ite_false' hM h15
        refine tr_condFe (e := y14 != s1) h15 (by kernel_rfl) ?_
        refine tr_skip (b_n (q_n ?_))
        refine tr_r hT hm [] [2, 12, 14, 2003] [(2, .d (.rp 1001 0)), (12, .d (iv (a0.From.length : Int))), (14, .d (iv (IntKind.i64.wrap (s1 + 1)))), bxB 2003 (eXCategory.b a0)] .nil (by kernel_rfl) (by kernel_rfl) (l_n ?_)
        exact trl_start (ks := [2, 12, 14, 2003]) (by kernel_rfl) (ih3 (IntKind.i64.wrap (s1 + 1)) hM)
  · have hM := ite_false' hM h5
    refine tr_condFe (e := decide (s1 < (a0.From.length : Int))) h5 (by kernel_rfl) ?_
    refine tr_exit (q_x (l_x (b_h (q_n ?_))))
    refine tr_seq ?_
    refine tr_sr hT hm [] [2, 12, 16, 2003] [(2, .d (.rp 1001 0)), (12, .d (iv (a0.From.length : Int))), (16, .d (iv 0)), bxB 2003 (eXCategory.b a0)] .nil (by kernel_rfl) (by kernel_rfl) ?_
    refine tr_block ?_
    refine tr_iterS (fun (s16 : Int) => [(2, .d (.rp 1001 0)), (12, .d (iv (a0.From.length : Int))), (16, .d (iv s16)), bxB 2003 (eXCategory.b a0)]) 0 [2, 12, 16, 2003] (by kernel_rfl) hM ?_
    intro n19 next17 ih18 s16 hM
    refine tr_seq ?_
    refine tr_sr hT hm [] [2, 12, 16, 120, 2003] [(2, .d (.rp 1001 0)), (12, .d (iv (a0.From.length : Int))), (16, .d (iv s16)), (120, .d (bv (decide (s16 < (a0.From.length : Int))))), bxB 2003 (eXCategory.b a0)] .nil (by kernel_rfl) (by kernel_rfl) ?_
    rcases Bool.eq_false_or_eq_true (decide (s16 < (a0.From.length : Int))) with h20 | h20
    · have hM := ite_true' hM h20
      refine tr_condTe (e := decide (s16 < (a0.From.length : Int))) h20 (by kernel_rfl) ?_
      refine tr_skip (q_n ?_)
      refine tr_seq ?_
      refine tr_block ?_
      refine tr_sr hT hm [] [2, 12, 16, 18, 2003] [(2, .d (.rp 1001 0)), (12, .d (iv (a0.From.length : Int))), (16, .d (iv s16)), (18, .d (iv 0)), bxB 2003 (eXCategory.b a0)] .nil (by kernel_rfl) (by kernel_rfl) ?_
      refine tr_block ?_
      refine tr_iterS (fun (s21 : Int) => [(2, .d (.rp 1001 0)), (12, .d (iv (a0.From.length : Int))), (16, .d (iv s16)), (18, .d (iv s21)), bxB 2003 (eXCategory.b a0)]) 0 [2, 12, 16, 18, 2003] (by kernel_rfl) hM ?_
      intro n24 next22 ih23 s21 hM
      refine tr_seq ?_
      refine tr_sr hT hm [] [2, 12, 16, 18, 130, 2003] [(2, .d (.rp 1001 0)), (12, .d (iv (a0.From.length : Int))), (16, .d (iv s16)), (18, .d (iv s21)), (130, .d (bv (decide (s21 < (a0.From.length : Int))))), bxB 2003 (eXCategory.b a0)] .nil (by kernel_rfl) (by kernel_rfl) ?_
      rcases Bool.eq_false_or_eq_true (decide (s21 < (a0.From.length : Int))) with h25 | h25
      · have hM := ite_true' hM h25
        refine tr_condTe (e := decide (s21 < (a0.From.length : Int))) h25 (by kernel_rfl) ?_
        refine tr_skip (q_n ?_)
        refine tr_seq ?_
        refine tr_block ?_
        refine tr_seq ?_
        obtain ⟨y26, hy26, hM⟩ := bind_some' hM
        have hy26' := idx_some hy26
        obtain ⟨y27, hy27, hM⟩ := bind_some' hM
        have hy27' := idx_some hy27
        refine tr_sr hT hm [(4, .val (iv y26)), (9, .val (iv y27))] [2, 12, 16, 18, 156, 2003] [(2, .d (.rp 1001 0)), (12, .d (iv (a0.From.length : Int))), (16, .d (iv s16)), (18, .d (iv s21)), (156, .d (bv (y26 != y27))), bxB 2003 (eXCategory.b a0)] (.cons hy26'.1 (.cons hy26'.2.1 (.cons (at_b0 eI_ok hy26'.2.2 (d := iv y26) (by kernel_rfl)) (.cons hy27'.1 (.cons hy27'.2.1 (.cons (at_b0 eI_ok hy27'.2.2 (d := iv y27) (by kernel_rfl)) .nil)))))) (by kernel_rfl) (by kernel_rfl) ?_
        rcases Bool.eq_false_or_eq_true (y26 != y27) with h28 | h28
        · have hM := ite_true' hM h28
          refine tr_condTe (e := y26 != y27) h28 (by kernel_rfl) ?_
          refine tr_exit (q_x (b_h (q_n ?_)))
          refine tr_r hT hm [] [2, 12, 16, 18, 2003] [(2, .d (.rp 1001 0)), (12, .d (iv (a0.From.length : Int))), (16, .d (iv s16)), (18, .d (iv (IntKind.i64.wrap (s21 + 1)))), bxB 2003 (eXCategory.b a0)] .nil (by kernel_rfl) (by kernel_rfl) (l_n ?_)
          exact trl_start (ks := [2, 12, 16, 18, 2003]) (by kernel_rfl) (ih23 (IntKind.i64.wrap (s21 + 1)) hM)
        · have hM := ite_false' hM h28
          refine tr_condFe (e := y26 != y27) h28 (by kernel_rfl) ?_
          refine tr_skip (q_n ?_)
          refine tr_sr hT hm [] [2, 12, 16, 18, 20, 2003] [(2, .d (.rp 1001 0)), (12, .d (iv (a0.From.length : Int))), (16, .d (iv s16)), (18, .d (iv s21)), (20, .d (iv 0)), bxB 2003 (eXCategory.b a0)] .nil (by kernel_rfl) (by kernel_rfl) ?_
          refine tr_block ?_
          refine tr_iterS (fun (s29 : Int) => [(2, .d (.rp 1001 0)), (12, .d (iv (a0.From.length : Int))), (16, .d (iv s16)), (18, .d (iv s21)), (20, .d (iv s29)), bxB 2003 (eXCategory.b a0)]) 0 [2, 12, 16, 18, 20, 2003] (by kernel_rfl) hM ?_
          intro n32 next30 ih31 s29 hM
          refine tr_seq ?_
          refine tr_sr hT hm [] [2, 12, 16, 18, 20, 162, 2003] [(2, .d (.rp 1001 0)), (12, .d (iv (a0.From.length : Int))), (16, .d (iv s16)), (18, .d (iv s21)), (20, .d (iv s29)), (162, .d (bv (decide (s29 < (a0.From.length : Int))))), bxB 2003 (eXCategory.b a0)] .nil (by kernel_rfl) (by kernel_rfl) ?_
          rcases Bool.eq_false_or_eq_true (decide (s29 < (a0.From.length : Int))) with h33 | h33
          · have hM := ite_true' hM h33
            refine tr_condTe (e := decide (s29 < (a0.From.length : Int))) h33 (by kernel_rfl) ?_
            refine tr_skip (q_n ?_)
            refine tr_seq ?_
            refine tr_block ?_
            obtain ⟨y34, hy34, hM⟩ := bind_some' hM
            have hy34' := idx_some hy34
            obtain ⟨y35, hy35, hM⟩ := bind_some' hM
            have hy35' := idx_some hy35
            rcases Bool.eq_false_or_eq_true (y34 == y35) with h36 | h36
            · have hM := ite_true' hM h36
              obtain ⟨y37, hy37, hM⟩ := bind_some' hM
              have hy37' := idx_some hy37
              obtain ⟨y38, hy38, hM⟩ := bind_some' hM
              have hy38' := idx_some hy38
              obtain ⟨y39, hy39, hM⟩ := bind_some' hM
              have hy39' := idx_some hy39
              obtain ⟨y40, hy40, hM⟩ := bind_some' hM
              have hy40' := idx_some hy40
              obtain ⟨y41, hy41, hM⟩ := bind_some' hM
              have hy41' := idx_some hy41
              obtain ⟨y42, hy42, hM⟩ := bind_some' hM
              have hy42' := idx_some hy42
              obtain ⟨y43, hy43, hM⟩ := bind_some' hM
              have hy43' := idx_some hy43
              refine tr_sr hT hm [(4, .val (iv y34)), (9, .val (iv y35)), (11, .val (bv true)), (18, .val (.sl y37.length 0 (y37.flatMap eI.b))), (21, .val (iv y38)), (23, .val (.sl y39.length 0 (y39.flatMap eI.b))), (26, .val (iv y40)), (31, .val (.sl y37.length 0 (y37.flatMap eI.b))), (36, .val (.sl y41.length 0 (y41.flatMap eI.b))), (39, .val (iv y42)), (41, .val (iv y43))] [2, 12, 16, 18, 20, 254, 2003] [(2, .d (.rp 1001 0)), (12, .d (iv (a0.From.length : Int))), (16, .d (iv s16)), (18, .d (iv s21)), (20, .d (iv s29)), (254, .d (bv (y40 != y43))), bxB 2003 (eXCategory.b a0)] (.cons hy34'.1 (.cons hy34'.2.1 (.cons (at_b0 eI_ok hy34'.2.2 (d := iv y34) (by kernel_rfl)) (.cons hy35'.1 (.cons hy35'.2.1 (.cons (at_b0 eI_ok hy35'.2.2 (d := iv y35) (by kernel_rfl)) (.cons (congrArg (fun b => bv b) h36) (.cons hy37'.1 (.cons hy37'.2.1 (.cons (at_b0 (eS_ok eI_ok) hy37'.2.2 (d := .sl y37.length 0 (y37.flatMap eI.b)) (by kernel_rfl)) (.cons hy38'.1 (.cons hy38'.2.1 (.cons (at_b0 eI_ok hy38'.2.2 (d := iv y38) (by kernel_rfl)) (.cons hy39'.1 (.cons hy39'.2.1 (.cons (at_b0 (eS_ok eI_ok) hy39'.2.2 (d := .sl y39.length 0 (y39.flatMap eI.b)) (by kernel_rfl)) (.cons hy40'.1 (.cons hy40'.2.1 (.cons (at_b0 eI_ok hy40'.2.2 (d := iv y40) (by kernel_rfl)) (.cons hy37'.1 (.cons hy37'.2.1 (.cons (at_b0 (eS_ok eI_ok) hy37'.2.2 (d := .sl y37.length 0 (y37.flatMap eI.b)) (by kernel_rfl)) (.cons hy41'.1 (.cons hy41'.2.1 (.cons (at_b0 (eS_ok eI_ok) hy41'.2.2 (d := .sl y41.length 0 (y41.flatMap eI.b)) (by kernel_rfl)) (.cons hy42'.1 (.cons hy42'.2.1 (.cons (at_b0 eI_ok hy42'.2.2 (d := iv y42) (by kernel_rfl)) (.cons hy43'.1 (.cons hy43'.2.1 (.cons (at_b0 eI_ok hy43'.2.2 (d := iv y43) (by kernel_rfl)) .nil))))))))))))))))))))))))))))))) (by kernel_rfl) (by kernel_rfl) ?_
              rcases Bool.eq_false_or_eq_true (y40 != y43) with h44 | h44
              · have hM := ite_true' hM h44
                refine tr_condTe (e := y40 != y43) h44 (by kernel_rfl) ?_
                refine tr_sr hT hm [] [4, 6, 8, 10] [(4, .d (iv 2)), (6, .d (iv s16)), (8, .d (iv s21)), (10, .d (iv s29))] .nil (by kernel_rfl) (by kernel_rfl) ?_
                refine tr_ret (b_r (q_r (l_r (b_r (b_r (q_r (l_r (b_r (b_r (q_r (l_r (b_r (q_r (rg_r ?_))))))))))))))
                obtain rfl := Option.some.inj hM
                exact retg (names := []) .nil (by kernel_rfl)
              · have hM := ite_false' hM h44
                refine tr_condFe (e := y40 != y43) h44 (by kernel_rfl) ?_
                refine tr_skip (b_n (q_n ?_))
                refine tr_r hT hm [] [2, 12, 16, 18, 20, 2003] [(2, .d (.rp 1001 0)), (12, .d (iv (a0.From.length : Int))), (16, .d (iv s16)), (18, .d (iv s21)), (20, .d (iv (IntKind.i64.wrap (s29 + 1)))), bxB 2003 (eXCategory.b a0)] .nil (by kernel_rfl) (by kernel_rfl) (l_n ?_)
                exact trl_start (ks := [2, 12, 16, 18, 20, 2003]) (by kernel_rfl) (ih31 (IntKind.i64.wrap (s29 + 1)) hM)
            · have hM := ite_false' hM h36
              refine tr_sr hT hm [(4, .val (iv y34)), (9, .val (iv y35)), (11, .val (bv false))] [2, 12, 16, 18, 20, 254, 2003] [(2, .d (.rp 1001 0)), (12, .d (iv (a0.From.length : Int))), (16, .d (iv s16)), (18, .d (iv s21)), (20, .d (iv s29)), (254, .d (bv false)), bxB 2003 (eXCategory.b a0)] (.cons hy34'.1 (.cons hy34'.2.1 (.cons (at_b0 eI_ok hy34'.2.2 (d := iv y34) (by kernel_rfl)) (.cons hy35'.1 (.cons hy35'.2.1 (.cons (at_b0 eI_ok hy35'.2.2 (d := iv y35) (by kernel_rfl)) (.cons (congrArg (fun b => bv b) h36) .nil))))))) (by kernel_rfl) (by kernel_rfl) ?_
              refine tr_condF (by kernel_rfl) ?_
              refine tr_skip (b_n (q_n ?_))
              refine tr_r hT hm [] [2, 12, 16, 18, 20, 2003] [(2, .d (.rp 1001 0)), (12, .d (iv (a0.From.length : Int))), (16, .d (iv s16)), (18, .d (iv s21)), (20, .d (iv (IntKind.i64.wrap (s29 + 1)))), bxB 2003 (eXCategory.b a0)] .nil (by kernel_rfl) (by kernel_rfl) (l_n ?_)
              exact trl_start (ks := [2, 12, 16, 18, 20, 2003]) (by kernel_rfl) (ih31 (IntKind.i64.wrap (s29 + 1)) hM)
          · have hM := ite_false' hM h33
            refine tr_condFe (e := decide (s29 < (a0.From.length : Int))) h33 (by kernel_rfl) ?_
            refine tr_exit (q_x (l_x (b_h (b_n (q_n ?_)))))
            refine tr_r hT hm [] [2, 12, 16, 18, 2003] [(2, .d (.rp 1001 0)), (12, .d (iv (a0.From.length : Int))), (16, .d (iv s16)), (18, .d (iv (IntKind.i64.wrap (s21 + 1)))), bxB 2003 (eXCategory.b a0)] .nil (by kernel_rfl) (by kernel_rfl) (l_n ?_)
            exact trl_start (ks := [2, 12, 16, 18, 2003]) (by kernel_rfl) (ih23 (IntKind.i64.wrap (s21 + 1)) hM)
      · have hM := ite_false' hM h25
        refine tr_condFe (e := decide (s21 < (a0.From.length : Int))) h25 (by kernel_rfl) ?_
        refine tr_exit (q_x (l_x (b_h (b_n (q_n ?_)))))
        refine tr_r hT hm [] [2, 12, 16, 2003] [(2, .d (.rp 1001 0)), (12, .d (iv (a0.From.length : Int))), (16, .d (iv (IntKind.i64.wrap (s16 + 1)))), bxB 2003 (eXCategory.b a0)] .nil (by kernel_rfl) (by kernel_rfl) (l_n ?_)
        exact trl_start (ks := [2, 12, 16, 2003]) (by kernel_rfl) (ih18 (IntKind.i64.wrap (s16 + 1)) hM)
    · have hM := ite_false' hM h20
      refine tr_condFe (e := decide (s16 < (a0.From.length : Int))) h20 (by kernel_rfl) ?_
      refine tr_exit (q_x (l_x (b_h (q_n ?_))))
      refine tr_sr hT hm [] [4, 6, 8, 10] [(4, .d (iv 0)), (6, .d (iv 0)), (8, .d (iv 0)), (10, .d (iv 0))] .nil (by kernel_rfl) (by kernel_rfl) ?_
      refine tr_ret (rg_r ?_)
      obtain rfl := Option.some.inj hM
      exact retg (names := []) .nil (by kernel_rfl)
theorem ok79 : CallOk Try.prog 79 := callOk_of Try.func79 (by kernel_rfl) (by kernel_rfl)
theorem spec_l02Is_c (a0 : XCategory) (r : Bool) (hM : M.spec_l02Is a0 = some r) :
    FnC Try.prog 79 [] [.agg (eXCategory.b a0)] [] (bv r) := by
  refine fnc_startG (N := 19) (np := 500) hT Try.func79 rfl rfl (by kernel_rfl) ?_
  unfold M.spec_l02Is at hM
  refine tr_start (ks := [0]) (st' := [(0, .d (.agg (eXCategory.b a0)))]) (by kernel_rfl) ?_
  refine tr_sr hT hm [] [2, 2003] [(2, .d (.rp 1001 0)), bxB 2003 (eXCategory.b a0)] .nil (by kernel_rfl) (by kernel_rfl) ?_
  refine tr_seq ?_
  obtain ⟨v1, hv1, hM⟩ := bind_some' hM
  refine tr_sr hT hm [(1, .call [] [] [.agg (eXCategory.b a0)] [] (bv v1))] [2, 18, 2003] [(2, .d (.rp 1001 0)), (18, .d (bv (!v1))), bxB 2003 (eXCategory.b a0)] (cc0 ok117 (spec_IsShape_c a0 _ hv1) (by kernel_rfl) .nil) (by kernel_rfl) (by kernel_rfl) ?_
  rcases Bool.eq_false_or_eq_true v1 with h2 | h2
  · have hM := ite_true' hM h2
    refine tr_condFe (e := !v1) (congrArg not h2) (by kernel_rfl) ?_
    refine tr_skip (q_n ?_)
    obtain ⟨v3, hv3, hM⟩ := bind_some' hM
    refine tr_sr hT hm [(1, .call [] [] [.agg (eXCategory.b a0)] [] (.tup [iv v3.1, iv v3.2.1, iv v3.2.2.1, iv v3.2.2.2]))] [6] [(6, .d (iv v3.1))] (cc0 ok118 (spec_l02Fault_c a0 _ hv3) (by kernel_rfl) .nil) (by kernel_rfl) (by kernel_rfl) ?_
    refine tr_sr hT hm [] [4] [(4, .d (bv (v3.1 == 0)))] .nil (by kernel_rfl) (by kernel_rfl) ?_
    refine tr_ret (rg_r ?_)
    obtain rfl := Option.some.inj hM
    exact retg (names := []) .nil (by kernel_rfl)
  · have hM := ite_false' hM h2
    refine tr_condTe (e := !v1) (congrArg not h2) (by kernel_rfl) ?_
    refine tr_sr hT hm [] [4] [(4, .d (bv false))] .nil (by kernel_rfl) (by kernel_rfl) ?_
    refine tr_ret (q_r (rg_r ?_))
    obtain rfl := Option.some.inj hM
    exact retg (names := []) .nil (by kernel_rfl)
theorem ok66 : CallOk Try.prog 66 := callOk_of Try.func66 (by kernel_rfl) (by kernel_rfl)
theorem spec_l01Own_c (a0 : List Int) (r : (List Int)) (hM : M.spec_l01Own a0 = some r) :
    FnC Try.prog 66 [] [.sl a0.length 0 (a0.flatMap eI.b)] [] (.fr 1 r.length (r.flatMap eI.o)) := by
  refine fnc_startG (N := 6) (np := 500) hT Try.func66 rfl rfl (by kernel_rfl) ?_
  unfold M.spec_l01Own at hM
  refine tr_start (ks := [0]) (st' := [(0, .d (.sl a0.length 0 (a0.flatMap eI.b)))]) (by kernel_rfl) ?_
  refine tr_sr hT hm [] [0] [(0, .d (.sl a0.length 0 (a0.flatMap eI.b)))] .nil (by kernel_rfl) (by kernel_rfl) ?_
  obtain ⟨h1, hM⟩ := chk_some hM
  refine tr_sr hT hm [(2, .app false)] [4, 2011] [(4, .d (.rs 1005 0 (([] : List Int).length + a0.length))), (2011, .r (.arr 1 (([] : List Int).flatMap eI.o ++ ((a0.flatMap eI.b).drop 0).take (a0.length * 1)) []))] (.cons (lenO_flat eI_ok ([] : List Int)) (.cons (len_take eI_ok.lenB a0) (.cons h1 .nil))) (by kernel_rfl) (by kernel_rfl) ?_
  refine Tr.by (imp_cvE (r := 1005) (sz := 1) (refs := []) (app_take eI_ok.lenB (fun _ => rfl) ([] : List Int) a0) (menO_flat eI_ok _) (by kernel_rfl)) ?_
  refine Tr.by (imp_cvD (k := 4) (congrArg (D.rs 1005 0) ((len_app ([] : List Int) a0) : ([] : List Int).length + a0.length = (([] : List Int) ++ a0).length)) (by kernel_rfl)) ?_
  refine tr_ret (rg_r ?_)
  obtain rfl := Option.some.inj hM
  exact retg (names := []) (.cons (lenO_flat eI_ok (([] : List Int) ++ a0)) .nil) (by kernel_rfl)
theorem ok33 : CallOk Try.prog 33 := callOk_of Try.func33 (by kernel_rfl) (by kernel_rfl)
theorem laws_toInt64S_c (a0 : List Int) (r : (List Int)) (hM : M.laws_toInt64S a0 = some r) :
    FnC Try.prog 33 [] [.sl a0.length 0 (a0.flatMap eI.b)] [] (.fr 1 r.length (r.flatMap eI.o)) := by
  refine fnc_startG (N := 22) (np := 500) hT Try.func33 rfl rfl (by kernel_rfl) ?_
  unfold M.laws_toInt64S at hM
  refine tr_start (ks := [0]) (st' := [(0, .d (.sl a0.length 0 (a0.flatMap eI.b)))]) (by kernel_rfl) ?_
  refine tr_sr hT hm [] [0] [(0, .d (.sl a0.length 0 (a0.flatMap eI.b)))] .nil (by kernel_rfl) (by kernel_rfl) ?_
  obtain ⟨h1, hM⟩ := chk_some hM
  refine tr_sr hT hm [] [0, 6, 2015] [(0, .d (.sl a0.length 0 (a0.flatMap eI.b))), (6, .d (.rs 1007 0 ((a0.length : Int).toNat))), (2015, .r (.arr 1 (repl (a0.length : Int).toNat [.int .i64 0]) []))] (.cons h1.1 (.cons (Int.le_refl (a0.length : Int)) (.cons h1.2 .nil))) (by kernel_rfl) (by kernel_rfl) ?_
  refine Tr.by (imp_cvE (r := 1007) (sz := 1) (refs := []) (repl_flat (f := eI.o) (zs := [.int .i64 0]) (z := (0 : Int)) rfl (a0.length : Int).toNat) (menO_flat eI_ok _) (by kernel_rfl)) ?_
  refine Tr.by (imp_cvD (k := 6) (congrArg (D.rs 1007 0) (List.length_replicate.symm : (a0.length : Int).toNat = (List.replicate (a0.length : Int).toNat (0 : Int)).length)) (by kernel_rfl)) ?_
  refine tr_seq ?_
  refine tr_sr hT hm [] [0, 6, 8, 2015] [(0, .d (.sl a0.length 0 (a0.flatMap eI.b))), (6, .d (.rs 1007 0 ((List.replicate (a0.length : Int).toNat (0 : Int)).length))), (8, .d (iv 0)), (2015, .r (.arr 1 ((List.replicate (a0.length : Int).toNat (0 : Int)).flatMap eI.o) []))] .nil (by kernel_rfl) (by kernel_rfl) ?_
  refine tr_block ?_
  refine tr_iterS (fun (s2 : (List Int) × Int) => [(0, .d (.sl a0.length 0 (a0.flatMap eI.b))), (6, .d (.rs 1007 0 s2.1.length)), (8, .d (iv s2.2)), (2015, .r (.arr 1 (s2.1.flatMap eI.o) []))]) ((List.replicate (a0.length : Int).toNat (0 : Int)), 0) [0, 6, 8, 2015] (by kernel_rfl) hM ?_
  intro n5 next3 ih4 s2 hM
  refine tr_seq ?_
  refine tr_sr hT hm [] [0, 6, 8, 22, 2015] [(0, .d (.sl a0.length 0 (a0.flatMap eI.b))), (6, .d (.rs 1007 0 s2.1.length)), (8, .d (iv s2.2)), (22, .d (bv (decide (s2.2 < (a0.length : Int))))), (2015, .r (.arr 1 (s2.1.flatMap eI.o) []))] .nil (by kernel_rfl) (by kernel_rfl) ?_
  rcases Bool.eq_false_or_eq_true (decide (s2.2 < (a0.length : Int))) with h6 | h6
  · have hM := ite_true' hM h6
    refine tr_condTe (e := decide (s2.2 < (a0.length : Int))) h6 (by kernel_rfl) ?_
    refine tr_skip (q_n ?_)
    refine tr_seq ?_
    refine tr_block ?_
    obtain ⟨y7, hy7, hM⟩ := bind_some' hM
    have hy7' := idx_some hy7
    obtain ⟨y8, hy8, hM⟩ := bind_some' hM
    have hy8' := idx_some hy8
    refine tr_r hT hm [(5, .val (iv y7))] [0, 6, 8, 2015] [(0, .d (.sl a0.length 0 (a0.flatMap eI.b))), (6, .d (.rs 1007 0 s2.1.length)), (8, .d (iv s2.2)), (2015, .r (.arr 1 ((s2.1.flatMap eI.o).take (0 + s2.2.toNat * 1) ++ [iv y7] ++ (s2.1.flatMap eI.o).drop (0 + s2.2.toNat * 1 + 1)) []))] (.cons hy7'.1 (.cons hy7'.2.1 (.cons (at_b0 eI_ok hy7'.2.2 (d := iv y7) (by kernel_rfl)) (.cons hy8'.1 (.cons hy8'.2.1 (.cons (store_le eI_ok hy8'.2.2) .nil)))))) (by kernel_rfl) (by kernel_rfl) (b_n (q_n ?_))
    refine Tr.by (imp_cvE (r := 1007) (sz := 1) (refs := []) (set_flat eI_ok.lenO (y := y7) hy8'.2.2) (menO_flat eI_ok _) (by kernel_rfl)) ?_
    refine Tr.by (imp_cvD (k := 6) (congrArg (D.rs 1007 0) (List.length_set.symm : s2.1.length = (s2.1.set s2.2.toNat y7).length)) (by kernel_rfl)) ?_
    refine tr_r hT hm [] [0, 6, 8, 2015] [(0, .d (.sl a0.length 0 (a0.flatMap eI.b))), (6, .d (.rs 1007 0 ((s2.1.set s2.2.toNat y7).length))), (8, .d (iv (IntKind.i64.wrap (s2.2 + 1)))), (2015, .r (.arr 1 ((s2.1.set s2.2.toNat y7).flatMap eI.o) []))] .nil (by kernel_rfl) (by kernel_rfl) (l_n ?_)
    exact trl_start (ks := [0, 6, 8, 2015]) (by kernel_rfl) (ih4 (s2.1.set s2.2.toNat y7, IntKind.i64.wrap (s2.2 + 1)) hM)
  · have hM := ite_false' hM h6
    refine tr_condFe (e := decide (s2.2 < (a0.length : Int))) h6 (by kernel_rfl) ?_
    refine tr_exit (q_x (l_x (b_h (q_n ?_))))
    refine tr_sr hT hm [] [4, 2015] [(4, .d (.rs 1007 0 s2.1.length)), (2015, .r (.arr 1 (s2.1.flatMap eI.o) []))] .nil (by kernel_rfl) (by kernel_rfl) ?_
    refine tr_ret (rg_r ?_)
    obtain rfl := Option.some.inj hM
    exact retg (names := []) (.cons (lenO_flat eI_ok s2.1) .nil) (by kernel_rfl)
theorem ok34 : CallOk Try.prog 34 := callOk_of Try.func34 (by kernel_rfl) (by kernel_rfl)
theorem laws_toInt64SS_c (a0 : List (List Int)) (r : (List (List Int))) (hM : M.laws_toInt64SS a0 = some r) :
    FnC Try.prog 34 [] [.sl a0.length 0 (a0.flatMap (eS eI).b)] [] (.fr 1 r.length (r.flatMap (eS eI).o)) := by
  refine fnc_startG (N := 23) (np := 500) hT Try.func34 rfl rfl (by kernel_rfl) ?_
  unfold M.laws_toInt64SS at hM
  refine tr_start (ks := [0]) (st' := [(0, .d (.sl a0.length 0 (a0.flatMap (eS eI).b)))]) (by kernel_rfl) ?_
  refine tr_sr hT hm [] [0] [(0, .d (.sl a0.length 0 (a0.flatMap (eS eI).b)))] .nil (by kernel_rfl) (by kernel_rfl) ?_
  obtain ⟨h1, hM⟩ := chk_some hM
  refine tr_sr hT hm [] [0, 6, 2015] [(0, .d (.sl a0.length 0 (a0.flatMap (eS eI).b))), (6, .d (.rs 1007 0 ((a0.length : Int).toNat))), (2015, .r (.arr 1 (repl (a0.length : Int).toNat [.slice .none 0 0]) []))] (.cons h1.1 (.cons (Int.le_refl (a0.length : Int)) (.cons h1.2 .nil))) (by kernel_rfl) (by kernel_rfl) ?_
  refine Tr.by (imp_cvL (r := 1007) (sz := 1) (refs := []) (subl_repl (f := (eS eI).o) (zs := [.slice .none 0 0]) (z := ([] : List Int)) (.cons Sub.nil_fr .nil) (a0.length : Int).toNat) (repl_hl (by kernel_rfl)) (menO_flat (eS_ok eI_ok) _) (by kernel_rfl)) ?_
  refine Tr.by (imp_cvD (k := 6) (congrArg (D.rs 1007 0) (List.length_replicate.symm : (a0.length : Int).toNat = (List.replicate (a0.length : Int).toNat ([] : List Int)).length)) (by kernel_rfl)) ?_
  refine tr_seq ?_
  refine tr_sr hT hm [] [0, 6, 8, 2015] [(0, .d (.sl a0.length 0 (a0.flatMap (eS eI).b))), (6, .d (.rs 1007 0 ((List.replicate (a0.length : Int).toNat ([] : List Int)).length))), (8, .d (iv 0)), (2015, .r (.arr 1 ((List.replicate (a0.length : Int).toNat ([] : List Int)).flatMap (eS eI).o) []))] .nil (by kernel_rfl) (by kernel_rfl) ?_
  refine tr_block ?_
  refine tr_iterS (fun (s2 : (List (List Int)) × Int) => [(0, .d (.sl a0.length 0 (a0.flatMap (eS eI).b))), (6, .d (.rs 1007 0 s2.1.length)), (8, .d (iv s2.2)), (2015, .r (.arr 1 (s2.1.flatMap (eS eI).o) []))]) ((List.replicate (a0.length : Int).toNat ([] : List Int)), 0) [0, 6, 8, 2015] (by kernel_rfl) hM ?_
  intro n5 next3 ih4 s2 hM
  refine tr_seq ?_
  refine tr_sr hT hm [] [0, 6, 8, 22, 2015] [(0, .d (.sl a0.length 0 (a0.flatMap (eS eI).b))), (6, .d (.rs 1007 0 s2.1.length)), (8, .d (iv s2.2)), (22, .d (bv (decide (s2.2 < (a0.length : Int))))), (2015, .r (.arr 1 (s2.1.flatMap (eS eI).o) []))] .nil (by kernel_rfl) (by kernel_rfl) ?_
  rcases Bool.eq_false_or_eq_true (decide (s2.2 < (a0.length : Int))) with h6 | h6
  · have hM := ite_true' hM h6
    refine tr_condTe (e := decide (s2.2 < (a0.length : Int))) h6 (by kernel_rfl) ?_
    refine tr_skip (q_n ?_)
    refine tr_seq ?_
    refine tr_block ?_
    obtain ⟨y7, hy7, hM⟩ := bind_some' hM
    have hy7' := idx_some hy7
    obtain ⟨v8, hv8, hM⟩ := bind_some' hM
    obtain ⟨y9, hy9, hM⟩ := bind_some' hM
    have hy9' := idx_some hy9
    refine tr_r hT hm [(5, .val (.sl y7.length 0 (y7.flatMap eI.b))), (6, .call [] [] [.sl y7.length 0 (y7.flatMap eI.b)] [] (.fr 1 v8.length (v8.flatMap eI.o)))] [0, 6, 8, 2015, 44001] [(0, .d (.sl a0.length 0 (a0.flatMap (eS eI).b))), (6, .d (.rs 1007 0 s2.1.length)), (8, .d (iv s2.2)), (2015, .r (.arr 1 ((s2.1.flatMap (eS eI).o).take (0 + s2.2.toNat * 1) ++ [.rs 22000 0 v8.length] ++ (s2.1.flatMap (eS eI).o).drop (0 + s2.2.toNat * 1 + 1)) [22000])), (44001, .r (.arr 1 (v8.flatMap eI.o) []))] (.cons hy7'.1 (.cons hy7'.2.1 (.cons (at_b0 (eS_ok eI_ok) hy7'.2.2 (d := .sl y7.length 0 (y7.flatMap eI.b)) (by kernel_rfl)) (cc0 ok33 (laws_toInt64S_c y7 _ hv8) (by kernel_rfl) (.cons hy9'.1 (.cons hy9'.2.1 (.cons (store_le (eS_ok eI_ok) hy9'.2.2) .nil))))))) (by kernel_rfl) (by kernel_rfl) (b_n (q_n ?_))
    refine Tr.by (imp_dem (r := 1007) (q := 22000) (sz := 1) (n := v8.length) (j := 0) (pre := (s2.1.flatMap (eS eI).o).take (0 + s2.2.toNat * 1)) (l := [.rs 22000 0 v8.length]) (post := (s2.1.flatMap (eS eI).o).drop (0 + s2.2.toNat * 1 + 1)) (refs := [22000]) (refs' := []) (menO_take (eS_ok eI_ok) _ _) (menO_drop (eS_ok eI_ok) _ _) (lenO_of eI_ok v8 rfl) (by kernel_rfl) (by kernel_rfl) (by kernel_rfl) (by kernel_rfl) (by kernel_rfl)) ?_
    refine Tr.by (imp_cvE (r := 1007) (sz := 1) (refs := []) (set_flatF eI_ok (y := v8) hy9'.2.2 rfl) (menO_flat (eS_ok eI_ok) _) (by kernel_rfl)) ?_
    refine Tr.by (imp_cvD (k := 6) (congrArg (D.rs 1007 0) (List.length_set.symm : s2.1.length = (s2.1.set s2.2.toNat v8).length)) (by kernel_rfl)) ?_
    refine tr_r hT hm [] [0, 6, 8, 2015] [(0, .d (.sl a0.length 0 (a0.flatMap (eS eI).b))), (6, .d (.rs 1007 0 ((s2.1.set s2.2.toNat v8).length))), (8, .d (iv (IntKind.i64.wrap (s2.2 + 1)))), (2015, .r (.arr 1 ((s2.1.set s2.2.toNat v8).flatMap (eS eI).o) []))] .nil (by kernel_rfl) (by kernel_rfl) (l_n ?_)
    exact trl_start (ks := [0, 6, 8, 2015]) (by kernel_rfl) (ih4 (s2.1.set s2.2.toNat v8, IntKind.i64.wrap (s2.2 + 1)) hM)
  · have hM := ite_false' hM h6
    refine tr_condFe (e := decide (s2.2 < (a0.length : Int))) h6 (by kernel_rfl) ?_
    refine tr_exit (q_x (l_x (b_h (q_n ?_))))
    refine tr_sr hT hm [] [4, 2015] [(4, .d (.rs 1007 0 s2.1.length)), (2015, .r (.arr 1 (s2.1.flatMap (eS eI).o) []))] .nil (by kernel_rfl) (by kernel_rfl) ?_
    refine tr_ret (rg_r ?_)
    obtain rfl := Option.some.inj hM
    exact retg (names := []) (.cons (lenO_flat (eS_ok eI_ok) s2.1) .nil) (by kernel_rfl)
theorem ok18 : CallOk Try.prog 18 := callOk_of Try.func18 (by kernel_rfl) (by kernel_rfl)
theorem laws_toCategory_c (a0 : XCategory) (r : XCategory) (hM : M.laws_toCategory a0 = some r) :
    FnC Try.prog 18 [] [.agg (eXCategory.b a0)] [] (.agg (eXCategory.o r)) := by
  refine fnc_startG (N := 24) (np := 500) hT Try.func18 rfl rfl (by kernel_rfl) ?_
  unfold M.laws_toCategory at hM
  refine tr_start (ks := [0]) (st' := [(0, .d (.agg (eXCategory.b a0)))]) (by kernel_rfl) ?_
  refine tr_sr hT hm [] [2, 4, 2003, 2005] [(2, .d (.rp 1001 0)), (4, .d (.rp 1002 0)), bxB 2003 (eXCategory.b a0), (2005, .r (.arr 1 [iv 0, nilv, nilv, nilv, nilv] []))] .nil (by kernel_rfl) (by kernel_rfl) ?_
  refine tr_sr hT hm [] [2, 4, 6, 2003, 2005, 2007] [(2, .d (.rp 1001 0)), (4, .d (.rp 1002 0)), (6, .d (.rp 1003 0)), bxB 2003 (eXCategory.b a0), (2005, .r (.arr 1 [iv 0, nilv, nilv, nilv, nilv] [])), (2007, .r (.arr 1 [iv 0, nilv, nilv, nilv, nilv] []))] .nil (by kernel_rfl) (by kernel_rfl) ?_
  refine tr_sr hT hm [] [2, 4, 6, 2003, 2005, 2007] [(2, .d (.rp 1001 0)), (4, .d (.rp 1002 0)), (6, .d (.rp 1003 0)), bxB 2003 (eXCategory.b a0), (2005, .r (.arr 1 [iv 0, nilv, nilv, nilv, nilv] [])), (2007, .r (.arr 1 [iv a0.Objects, nilv, nilv, nilv, nilv] []))] (.cons (Nat.le_of_ble_eq_true (n := 1) (m := 5) rfl) .nil) (by kernel_rfl) (by kernel_rfl) ?_
  obtain ⟨v1, hv1, hM⟩ := bind_some' hM
  refine tr_sr hT hm [(2, .call [] [] [.sl a0.From.length 0 (a0.From.flatMap eI.b)] [] (.fr 1 v1.length (v1.flatMap eI.o)))] [2, 4, 6, 2003, 2005, 2007, 22001] [(2, .d (.rp 1001 0)), (4, .d (.rp 1002 0)), (6, .d (.rp 1003 0)), bxB 2003 (eXCategory.b a0), (2005, .r (.arr 1 [iv 0, nilv, nilv, nilv, nilv] [])), (2007, .r (.arr 1 [iv a0.Objects, .rs 11000 0 v1.length, nilv, nilv, nilv] [11000])), (22001, .r (.arr 1 (v1.flatMap eI.o) []))] (cc0 ok33 (laws_toInt64S_c a0.From _ hv1) (by kernel_rfl) (.cons (Nat.le_of_ble_eq_true (n := 2) (m := 5) rfl) .nil)) (by kernel_rfl) (by kernel_rfl) ?_
  obtain ⟨v2, hv2, hM⟩ := bind_some' hM
  refine tr_sr hT hm [(2, .call [] [] [.sl a0.To.length 0 (a0.To.flatMap eI.b)] [] (.fr 1 v2.length (v2.flatMap eI.o)))] [2, 4, 6, 2003, 2005, 2007, 22001, 30001] [(2, .d (.rp 1001 0)), (4, .d (.rp 1002 0)), (6, .d (.rp 1003 0)), bxB 2003 (eXCategory.b a0), (2005, .r (.arr 1 [iv 0, nilv, nilv, nilv, nilv] [])), (2007, .r (.arr 1 [iv a0.Objects, .rs 11000 0 v1.length, .rs 15000 0 v2.length, nilv, nilv] [11000, 15000])), (22001, .r (.arr 1 (v1.flatMap eI.o) [])), (30001, .r (.arr 1 (v2.flatMap eI.o) []))] (cc0 ok33 (laws_toInt64S_c a0.To _ hv2) (by kernel_rfl) (.cons (Nat.le_of_ble_eq_true (n := 3) (m := 5) rfl) .nil)) (by kernel_rfl) (by kernel_rfl) ?_
  obtain ⟨v3, hv3, hM⟩ := bind_some' hM
  refine tr_sr hT hm [(2, .call [] [] [.sl a0.Identity.length 0 (a0.Identity.flatMap eI.b)] [] (.fr 1 v3.length (v3.flatMap eI.o)))] [2, 4, 6, 2003, 2005, 2007, 22001, 30001, 38001] [(2, .d (.rp 1001 0)), (4, .d (.rp 1002 0)), (6, .d (.rp 1003 0)), bxB 2003 (eXCategory.b a0), (2005, .r (.arr 1 [iv 0, nilv, nilv, nilv, nilv] [])), (2007, .r (.arr 1 [iv a0.Objects, .rs 11000 0 v1.length, .rs 15000 0 v2.length, .rs 19000 0 v3.length, nilv] [11000, 15000, 19000])), (22001, .r (.arr 1 (v1.flatMap eI.o) [])), (30001, .r (.arr 1 (v2.flatMap eI.o) [])), (38001, .r (.arr 1 (v3.flatMap eI.o) []))] (cc0 ok33 (laws_toInt64S_c a0.Identity _ hv3) (by kernel_rfl) (.cons (Nat.le_of_ble_eq_true (n := 4) (m := 5) rfl) .nil)) (by kernel_rfl) (by kernel_rfl) ?_
  obtain ⟨v4, hv4, hM⟩ := bind_some' hM
  refine tr_sr hT hm [(2, .call [] [] [.sl a0.Composites.length 0 (a0.Composites.flatMap (eS eI).b)] [] (.fr 1 v4.length (v4.flatMap (eS eI).o)))] [4, 6, 2005, 2007, 22001, 30001, 38001, 46001] [(4, .d (.rp 1002 0)), (6, .d (.rp 1003 0)), (2005, .r (.arr 1 [iv 0, nilv, nilv, nilv, nilv] [])), (2007, .r (.arr 1 [iv a0.Objects, .rs 11000 0 v1.length, .rs 15000 0 v2.length, .rs 19000 0 v3.length, .rs 23000 0 v4.length] [11000, 15000, 19000, 23000])), (22001, .r (.arr 1 (v1.flatMap eI.o) [])), (30001, .r (.arr 1 (v2.flatMap eI.o) [])), (38001, .r (.arr 1 (v3.flatMap eI.o) [])), (46001, .r (.arr 1 (v4.flatMap (eS eI).o) []))] (cc0 ok34 (laws_toInt64SS_c a0.Composites _ hv4) (by kernel_rfl) (.cons (Nat.le_of_ble_eq_true (n := 5) (m := 5) rfl) .nil)) (by kernel_rfl) (by kernel_rfl) ?_
  refine tr_sr hT hm [] [4, 2005, 22001, 30001, 38001, 46001] [(4, .d (.rp 1002 0)), (2005, .r (.arr 1 [iv a0.Objects, .rs 11000 0 v1.length, .rs 15000 0 v2.length, .rs 19000 0 v3.length, .rs 23000 0 v4.length] [11000, 15000, 19000, 23000])), (22001, .r (.arr 1 (v1.flatMap eI.o) [])), (30001, .r (.arr 1 (v2.flatMap eI.o) [])), (38001, .r (.arr 1 (v3.flatMap eI.o) [])), (46001, .r (.arr 1 (v4.flatMap (eS eI).o) []))] (.cons (Nat.le_of_ble_eq_true (n := 5) (m := 5) rfl) .nil) (by kernel_rfl) (by kernel_rfl) ?_
  refine tr_ret (rg_r ?_)
  obtain rfl := Option.some.inj hM
  exact retg (names := []) (.cons (lenO_flat eI_ok v1) (.cons (lenO_flat eI_ok v2) (.cons (lenO_flat eI_ok v3) (.cons (lenO_flat (eS_ok eI_ok) v4) .nil)))) (by kernel_rfl)
theorem ok114 : CallOk Try.prog 114 := callOk_of Try.func114 (by kernel_rfl) (by kernel_rfl)
theorem iC_arrows_c (a0 : XCategory) (r : Int) (hM : M.iC_arrows a0 = some r) :
    FnC Try.prog 114 [] [.pt (eXCategory.b a0) 0] [] (iv r) := by
  refine fnc_startG (N := 8) (np := 500) hT Try.func114 rfl rfl (by kernel_rfl) ?_
  unfold M.iC_arrows at hM
  refine tr_start (ks := [0]) (st' := [(0, .d (.pt (eXCategory.b a0) 0))]) (by kernel_rfl) ?_
  refine tr_sr hT hm [] [0] [(0, .d (.pt (eXCategory.b a0) 0))] .nil (by kernel_rfl) (by kernel_rfl) ?_
  refine tr_sr hT hm [] [4] [(4, .d (iv (a0.From.length : Int)))] .nil (by kernel_rfl) (by kernel_rfl) ?_
  refine tr_ret (rg_r ?_)
  obtain rfl := Option.some.inj hM
  exact retg (names := []) .nil (by kernel_rfl)
theorem ok126 : CallOk Try.prog 126 := callOk_of Try.func126 (by kernel_rfl) (by kernel_rfl)
theorem impl_inRange_c (a0 : Int) (a1 : Int) (a2 : Int) (r : Bool) (hM : M.impl_inRange a0 a1 a2 = some r) :
    FnC Try.prog 126 [] [iv a0, iv a1, iv a2] [] (bv r) := by
  refine fnc_startG (N := 15) (np := 500) hT Try.func126 rfl rfl (by kernel_rfl) ?_
  unfold M.impl_inRange at hM
  refine tr_start (ks := [0, 2, 4]) (st' := [(0, .d (iv a0)), (2, .d (iv a1)), (4, .d (iv a2))]) (by kernel_rfl) ?_
  refine tr_sr hT hm [] [0, 2, 4] [(0, .d (iv a0)), (2, .d (iv a1)), (4, .d (iv a2))] .nil (by kernel_rfl) (by kernel_rfl) ?_
  rcases Bool.eq_false_or_eq_true (decide (a0 ≥ a1)) with h1 | h1
  · have hM := ite_true' hM h1
    refine tr_sr hT hm [(3, .val (bv true))] [12] [(12, .d (bv (decide (a0 ≤ a2))))] (.cons (congrArg (fun b => bv b) h1) .nil) (by kernel_rfl) (by kernel_rfl) ?_
    refine tr_ret (rg_r ?_)
    obtain rfl := Option.some.inj hM
    exact retg (names := []) .nil (by kernel_rfl)
  · have hM := ite_false' hM h1
    refine tr_sr hT hm [(3, .val (bv false))] [12] [(12, .d (bv false))] (.cons (congrArg (fun b => bv b) h1) .nil) (by kernel_rfl) (by kernel_rfl) ?_
    refine tr_ret (rg_r ?_)
    obtain rfl := Option.some.inj hM
    exact retg (names := []) .nil (by kernel_rfl)
theorem ok113 : CallOk Try.prog 113 := callOk_of Try.func113 (by kernel_rfl) (by kernel_rfl)
theorem impl_within_c (a0 : List Int) (a1 : Int) (r : Bool) (hM : M.impl_within a0 a1 = some r) :
    FnC Try.prog 113 [] [.sl a0.length 0 (a0.flatMap eI.b), iv a1] [] (bv r) := by
  refine fnc_startG (N := 19) (np := 500) hT Try.func113 rfl rfl (by kernel_rfl) ?_
  unfold M.impl_within at hM
  refine tr_start (ks := [0, 2]) (st' := [(0, .d (.sl a0.length 0 (a0.flatMap eI.b))), (2, .d (iv a1))]) (by kernel_rfl) ?_
  refine tr_sr hT hm [] [0, 2] [(0, .d (.sl a0.length 0 (a0.flatMap eI.b))), (2, .d (iv a1))] .nil (by kernel_rfl) (by kernel_rfl) ?_
  refine tr_seq ?_
  refine tr_sr hT hm [] [2, 14, 16, 18] [(2, .d (iv a1)), (14, .d (.sl a0.length 0 (a0.flatMap eI.b))), (16, .d (iv (a0.length : Int))), (18, .d (iv 0))] .nil (by kernel_rfl) (by kernel_rfl) ?_
  refine tr_block ?_
  refine tr_iterS (fun (s1 : Int) => [(2, .d (iv a1)), (14, .d (.sl a0.length 0 (a0.flatMap eI.b))), (16, .d (iv (a0.length : Int))), (18, .d (iv s1))]) 0 [2, 14, 16, 18] (by kernel_rfl) hM ?_
  intro n4 next2 ih3 s1 hM
  refine tr_sr hT hm [] [2, 14, 16, 18, 20] [(2, .d (iv a1)), (14, .d (.sl a0.length 0 (a0.flatMap eI.b))), (16, .d (iv (a0.length : Int))), (18, .d (iv s1)), (20, .d (bv (decide (s1 < (a0.length : Int)))))] .nil (by kernel_rfl) (by kernel_rfl) ?_
  refine tr_seq ?_
  rcases Bool.eq_false_or_eq_true (decide (s1 < (a0.length : Int))) with h5 | h5
  · have hM := ite_true' hM h5
    refine tr_condTe (e := decide (s1 < (a0.length : Int))) h5 (by kernel_rfl) ?_
    refine tr_skip (q_n ?_)
    refine tr_seq ?_
    refine tr_block ?_
    obtain ⟨y6, hy6, hM⟩ := bind_some' hM
    have hy6' := idx_some hy6
    refine tr_sr hT hm [(1, .val (iv y6))] [2, 12, 14, 16, 18] [(2, .d (iv a1)), (12, .d (iv y6)), (14, .d (.sl a0.length 0 (a0.flatMap eI.b))), (16, .d (iv (a0.length : Int))), (18, .d (iv s1))] (.cons hy6'.1 (.cons hy6'.2.1 (.cons (at_b0 eI_ok hy6'.2.2 (d := iv y6) (by kernel_rfl)) .nil))) (by kernel_rfl) (by kernel_rfl) ?_
    obtain ⟨v7, hv7, hM⟩ := bind_some' hM
    refine tr_sr hT hm [(3, .call [] [] [iv y6, iv 0, iv (IntKind.i64.wrap (a1 - 1))] [] (bv v7))] [2, 14, 16, 18, 34] [(2, .d (iv a1)), (14, .d (.sl a0.length 0 (a0.flatMap eI.b))), (16, .d (iv (a0.length : Int))), (18, .d (iv s1)), (34, .d (bv (!v7)))] (cc0 ok126 (impl_inRange_c y6 0 (IntKind.i64.wrap (a1 - 1)) _ hv7) (by kernel_rfl) .nil) (by kernel_rfl) (by kernel_rfl) ?_
    rcases Bool.eq_false_or_eq_true v7 with h8 | h8
    · have hM := ite_true' hM h8
      refine tr_condFe (e := !v7) (congrArg not h8) (by kernel_rfl) ?_
      refine tr_skip (b_n (q_n ?_))
      refine tr_r hT hm [] [2, 14, 16, 18] [(2, .d (iv a1)), (14, .d (.sl a0.length 0 (a0.flatMap eI.b))), (16, .d (iv (a0.length : Int))), (18, .d (iv (IntKind.i64.wrap (s1 + 1))))] .nil (by kernel_rfl) (by kernel_rfl) (l_n ?_)
      exact trl_start (ks := [2, 14, 16, 18]) (by kernel_rfl) (ih3 (IntKind.i64.wrap (s1 + 1)) hM)
    · have hM := ite_false' hM h8
      refine tr_condTe (e := !v7) (congrArg not h8) (by kernel_rfl) ?_
      refine tr_sr hT hm [] [8] [(8, .d (bv false))] .nil (by kernel_rfl) (by kernel_rfl) ?_
      refine tr_ret (b_r (q_r (l_r (b_r (q_r (rg_r ?_))))))
      obtain rfl := Option.some.inj hM
      exact retg (names := []) .nil (by kernel_rfl)
  · have hM := ite_false' hM h5
    refine tr_condFe (e := decide (s1 < (a0.length : Int))) h5 (by kernel_rfl) ?_
    refine tr_exit (q_x (l_x (b_h (q_n ?_))))
    refine tr_sr hT hm [] [8] [(8, .d (bv true))] .nil (by kernel_rfl) (by kernel_rfl) ?_
    refine tr_ret (rg_r ?_)
    obtain rfl := Option.some.inj hM
    exact retg (names := []) .nil (by kernel_rfl)
theorem ok130 : CallOk Try.prog 130 := callOk_of Try.func130 (by kernel_rfl) (by kernel_rfl)
theorem iC_ends_c (a0 : XCategory) (a1 : Int) (r : Xends) (hM : M.iC_ends a0 a1 = some r) :
    FnC Try.prog 130 [] [.pt (eXCategory.b a0) 0, iv a1] [] (.agg (eXends.o r)) := by
  refine fnc_startG (N := 20) (np := 500) hT Try.func130 rfl rfl (by kernel_rfl) ?_
  unfold M.iC_ends at hM
  refine tr_start (ks := [0, 2]) (st' := [(0, .d (.pt (eXCategory.b a0) 0)), (2, .d (iv a1))]) (by kernel_rfl) ?_
  refine tr_sr hT hm [] [0, 2, 8, 2009] [(0, .d (.pt (eXCategory.b a0) 0)), (2, .d (iv a1)), (8, .d (.rp 1004 0)), (2009, .r (.arr 1 [iv 0, iv 0] []))] .nil (by kernel_rfl) (by kernel_rfl) ?_
  obtain ⟨y1, hy1, hM⟩ := bind_some' hM
  have hy1' := idx_some hy1
  obtain ⟨y2, hy2, hM⟩ := bind_some' hM
  have hy2' := idx_some hy2
  refine tr_sr hT hm [(6, .val (iv y1)), (13, .val (iv y2))] [8, 2009] [(8, .d (.rp 1004 0)), (2009, .r (.arr 1 [iv y1, iv y2] []))] (.cons hy1'.1 (.cons hy1'.2.1 (.cons (at_b0 eI_ok hy1'.2.2 (d := iv y1) (by kernel_rfl)) (.cons hy2'.1 (.cons hy2'.2.1 (.cons (at_b0 eI_ok hy2'.2.2 (d := iv y2) (by kernel_rfl)) (.cons (Nat.le_of_ble_eq_true (n := 2) (m := 2) rfl) .nil))))))) (by kernel_rfl) (by kernel_rfl) ?_
  refine tr_ret (rg_r ?_)
  obtain rfl := Option.some.inj hM
  exact retg (names := []) .nil (by kernel_rfl)
end Go.Proofs.Ythafadgnjkmfkaa.WvB
