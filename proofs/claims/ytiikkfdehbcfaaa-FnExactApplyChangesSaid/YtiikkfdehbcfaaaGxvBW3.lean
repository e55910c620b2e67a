/- Walks. Printed by wip/gen. -/
import Derived.Test.YtiikkfdehbcfaaaGxvBW2
namespace Go.Proofs.Ytiikkfdehbcfaaa.WvB
open Go.Gx

theorem ok32 : CallOk Try.prog 32 := callOk_of Try.func32 (by kernel_rfl) (by kernel_rfl)
theorem laws_eqInt64S_c (a0 : List Int) (a1 : List Int) (r : Bool) (hM : M.laws_eqInt64S a0 a1 = some r) :
    FnC Try.prog 32 [] [.sl a0.length 0 (a0.flatMap eI.b), .sl a1.length 0 (a1.flatMap eI.b)] [] (bv r) := by
  refine fnc_startG (N := 26) (np := 500) hT Try.func32 rfl rfl (by kernel_rfl) ?_
  unfold M.laws_eqInt64S at hM
  refine tr_start (ks := [0, 2]) (st' := [(0, .d (.sl a0.length 0 (a0.flatMap eI.b))), (2, .d (.sl a1.length 0 (a1.flatMap eI.b)))]) (by kernel_rfl) ?_
  refine tr_sr hT hm [] [0, 2] [(0, .d (.sl a0.length 0 (a0.flatMap eI.b))), (2, .d (.sl a1.length 0 (a1.flatMap eI.b)))] .nil (by kernel_rfl) (by kernel_rfl) ?_
  refine tr_seq ?_
  refine tr_sr hT hm [] [0, 2, 20] [(0, .d (.sl a0.length 0 (a0.flatMap eI.b))), (2, .d (.sl a1.length 0 (a1.flatMap eI.b))), (20, .d (bv ((a0.length : Int) != (a1.length : Int))))] .nil (by kernel_rfl) (by kernel_rfl) ?_
  rcases Bool.eq_false_or_eq_true ((a0.length : Int) != (a1.length : Int)) with h1 | h1
  · have hM := ite_true' hM h1
    refine tr_condTe (e := (a0.length : Int) != (a1.length : Int)) h1 (by kernel_rfl) ?_
    refine tr_sr hT hm [] [8] [(8, .d (bv false))] .nil (by kernel_rfl) (by kernel_rfl) ?_
    refine tr_ret (q_r (rg_r ?_))
    obtain rfl := Option.some.inj hM
    exact retg (names := []) .nil (by kernel_rfl)
  · have hM := ite_false' hM h1
    refine tr_condFe (e := (a0.length : Int) != (a1.length : Int)) h1 (by kernel_rfl) ?_
    refine tr_skip (q_n ?_)
    refine tr_seq ?_
    refine tr_sr hT hm [] [0, 2, 10] [(0, .d (.sl a0.length 0 (a0.flatMap eI.b))), (2, .d (.sl a1.length 0 (a1.flatMap eI.b))), (10, .d (iv 0))] .nil (by kernel_rfl) (by kernel_rfl) ?_
    refine tr_block ?_
    refine tr_iterS (fun (s2 : Int) => [(0, .d (.sl a0.length 0 (a0.flatMap eI.b))), (2, .d (.sl a1.length 0 (a1.flatMap eI.b))), (10, .d (iv s2))]) 0 [0, 2, 10] (by kernel_rfl) hM ?_
    intro n5 next3 ih4 s2 hM
    refine tr_seq ?_
    refine tr_sr hT hm [] [0, 2, 10, 28] [(0, .d (.sl a0.length 0 (a0.flatMap eI.b))), (2, .d (.sl a1.length 0 (a1.flatMap eI.b))), (10, .d (iv s2)), (28, .d (bv (decide (s2 < (a0.length : Int)))))] .nil (by kernel_rfl) (by kernel_rfl) ?_
    rcases Bool.eq_false_or_eq_true (decide (s2 < (a0.length : Int))) with h6 | h6
    · have hM := ite_true' hM h6
      refine tr_condTe (e := decide (s2 < (a0.length : Int))) h6 (by kernel_rfl) ?_
      refine tr_skip (q_n ?_)
      refine tr_seq ?_
      refine tr_block ?_
      obtain ⟨y7, hy7, hM⟩ := bind_some' hM
      have hy7' := idx_some hy7
      obtain ⟨y8, hy8, hM⟩ := bind_some' hM
      have hy8' := idx_some hy8
      refine tr_sr hT hm [(3, .val (iv y7)), (7, .val (iv y8))] [0, 2, 10, 50] [(0, .d (.sl a0.length 0 (a0.flatMap eI.b))), (2, .d (.sl a1.length 0 (a1.flatMap eI.b))), (10, .d (iv s2)), (50, .d (bv (y7 != y8)))] (.cons hy7'.1 (.cons hy7'.2.1 (.cons (at_b0 eI_ok hy7'.2.2 (d := iv y7) (by kernel_rfl)) (.cons hy8'.1 (.cons hy8'.2.1 (.cons (at_b0 eI_ok hy8'.2.2 (d := iv y8) (by kernel_rfl)) .nil)))))) (by kernel_rfl) (by kernel_rfl) ?_
      rcases Bool.eq_false_or_eq_true (y7 != y8) with h9 | h9
      · have hM := ite_true' hM h9
        refine tr_condTe (e := y7 != y8) h9 (by kernel_rfl) ?_
        refine tr_sr hT hm [] [8] [(8, .d (bv false))] .nil (by kernel_rfl) (by kernel_rfl) ?_
        refine tr_ret (b_r (q_r (l_r (b_r (q_r (rg_r ?_))))))
        obtain rfl := Option.some.inj hM
        exact retg (names := []) .nil (by kernel_rfl)
      · have hM := ite_false' hM h9
        refine tr_condFe (e := y7 != y8) h9 (by kernel_rfl) ?_
        refine tr_skip (b_n (q_n ?_))
        refine tr_r hT hm [] [0, 2, 10] [(0, .d (.sl a0.length 0 (a0.flatMap eI.b))), (2, .d (.sl a1.length 0 (a1.flatMap eI.b))), (10, .d (iv (IntKind.i64.wrap (s2 + 1))))] .nil (by kernel_rfl) (by kernel_rfl) (l_n ?_)
        exact trl_start (ks := [0, 2, 10]) (by kernel_rfl) (ih4 (IntKind.i64.wrap (s2 + 1)) hM)
    · have hM := ite_false' hM h6
      refine tr_condFe (e := decide (s2 < (a0.length : Int))) h6 (by kernel_rfl) ?_
      refine tr_exit (q_x (l_x (b_h (q_n ?_))))
      refine tr_sr hT hm [] [8] [(8, .d (bv true))] .nil (by kernel_rfl) (by kernel_rfl) ?_
      refine tr_ret (rg_r ?_)
      obtain rfl := Option.some.inj hM
      exact retg (names := []) .nil (by kernel_rfl)

theorem ok33 : CallOk Try.prog 33 := callOk_of Try.func33 (by kernel_rfl) (by kernel_rfl)
theorem laws_eqInt64SS_c (a0 : List (List Int)) (a1 : List (List Int)) (r : Bool) (hM : M.laws_eqInt64SS a0 a1 = some r) :
    FnC Try.prog 33 [] [.sl a0.length 0 (a0.flatMap (eS eI).b), .sl a1.length 0 (a1.flatMap (eS eI).b)] [] (bv r) := by
  refine fnc_startG (N := 27) (np := 500) hT Try.func33 rfl rfl (by kernel_rfl) ?_
  unfold M.laws_eqInt64SS at hM
  refine tr_start (ks := [0, 2]) (st' := [(0, .d (.sl a0.length 0 (a0.flatMap (eS eI).b))), (2, .d (.sl a1.length 0 (a1.flatMap (eS eI).b)))]) (by kernel_rfl) ?_
  refine tr_sr hT hm [] [0, 2] [(0, .d (.sl a0.length 0 (a0.flatMap (eS eI).b))), (2, .d (.sl a1.length 0 (a1.flatMap (eS eI).b)))] .nil (by kernel_rfl) (by kernel_rfl) ?_
  refine tr_seq ?_
  refine tr_sr hT hm [] [0, 2, 20] [(0, .d (.sl a0.length 0 (a0.flatMap (eS eI).b))), (2, .d (.sl a1.length 0 (a1.flatMap (eS eI).b))), (20, .d (bv ((a0.length : Int) != (a1.length : Int))))] .nil (by kernel_rfl) (by kernel_rfl) ?_
  rcases Bool.eq_false_or_eq_true ((a0.length : Int) != (a1.length : Int)) with h1 | h1
  · have hM := ite_true' hM h1
    refine tr_condTe (e := (a0.length : Int) != (a1.length : Int)) h1 (by kernel_rfl) ?_
    refine tr_sr hT hm [] [8] [(8, .d (bv false))] .nil (by kernel_rfl) (by kernel_rfl) ?_
    refine tr_ret (q_r (rg_r ?_))
    obtain rfl := Option.some.inj hM
    exact retg (names := []) .nil (by kernel_rfl)
  · have hM := ite_false' hM h1
    refine tr_condFe (e := (a0.length : Int) != (a1.length : Int)) h1 (by kernel_rfl) ?_
    refine tr_skip (q_n ?_)
    refine tr_seq ?_
    refine tr_sr hT hm [] [0, 2, 10] [(0, .d (.sl a0.length 0 (a0.flatMap (eS eI).b))), (2, .d (.sl a1.length 0 (a1.flatMap (eS eI).b))), (10, .d (iv 0))] .nil (by kernel_rfl) (by kernel_rfl) ?_
    refine tr_block ?_
    refine tr_iterS (fun (s2 : Int) => [(0, .d (.sl a0.length 0 (a0.flatMap (eS eI).b))), (2, .d (.sl a1.length 0 (a1.flatMap (eS eI).b))), (10, .d (iv s2))]) 0 [0, 2, 10] (by kernel_rfl) hM ?_
    intro n5 next3 ih4 s2 hM
    refine tr_seq ?_
    refine tr_sr hT hm [] [0, 2, 10, 28] [(0, .d (.sl a0.length 0 (a0.flatMap (eS eI).b))), (2, .d (.sl a1.length 0 (a1.flatMap (eS eI).b))), (10, .d (iv s2)), (28, .d (bv (decide (s2 < (a0.length : Int)))))] .nil (by kernel_rfl) (by kernel_rfl) ?_
    rcases Bool.eq_false_or_eq_true (decide (s2 < (a0.length : Int))) with h6 | h6
    · have hM := ite_true' hM h6
      refine tr_condTe (e := decide (s2 < (a0.length : Int))) h6 (by kernel_rfl) ?_
      refine tr_skip (q_n ?_)
      refine tr_seq ?_
      refine tr_block ?_
      obtain ⟨y7, hy7, hM⟩ := bind_some' hM
      have hy7' := idx_some hy7
      obtain ⟨y8, hy8, hM⟩ := bind_some' hM
      have hy8' := idx_some hy8
      obtain ⟨v9, hv9, hM⟩ := bind_some' hM
      refine tr_sr hT hm [(3, .val (.sl y7.length 0 (y7.flatMap eI.b))), (7, .val (.sl y8.length 0 (y8.flatMap eI.b))), (8, .call [] [] [.sl y7.length 0 (y7.flatMap eI.b), .sl y8.length 0 (y8.flatMap eI.b)] [] (bv v9))] [0, 2, 10, 52] [(0, .d (.sl a0.length 0 (a0.flatMap (eS eI).b))), (2, .d (.sl a1.length 0 (a1.flatMap (eS eI).b))), (10, .d (iv s2)), (52, .d (bv (!v9)))] (.cons hy7'.1 (.cons hy7'.2.1 (.cons (at_b0 (eS_ok eI_ok) hy7'.2.2 (d := .sl y7.length 0 (y7.flatMap eI.b)) (by kernel_rfl)) (.cons hy8'.1 (.cons hy8'.2.1 (.cons (at_b0 (eS_ok eI_ok) hy8'.2.2 (d := .sl y8.length 0 (y8.flatMap eI.b)) (by kernel_rfl)) (cc0 ok32 (laws_eqInt64S_c y7 y8 _ hv9) (by kernel_rfl) .nil))))))) (by kernel_rfl) (by kernel_rfl) ?_
      rcases Bool.eq_false_or_eq_true v9 with h10 | h10
      · have hM := ite_true' hM h10
        refine tr_condFe (e := !v9) (congrArg not h10) (by kernel_rfl) ?_
        refine tr_skip (b_n (q_n ?_))
        refine tr_r hT hm [] [0, 2, 10] [(0, .d (.sl a0.length 0 (a0.flatMap (eS eI).b))), (2, .d (.sl a1.length 0 (a1.flatMap (eS eI).b))), (10, .d (iv (IntKind.i64.wrap (s2 + 1))))] .nil (by kernel_rfl) (by kernel_rfl) (l_n ?_)
        exact trl_start (ks := [0, 2, 10]) (by kernel_rfl) (ih4 (IntKind.i64.wrap (s2 + 1)) hM)
      · have hM := ite_false' hM h10
        refine tr_condTe (e := !v9) (congrArg not h10) (by kernel_rfl) ?_
        refine tr_sr hT hm [] [8] [(8, .d (bv false))] .nil (by kernel_rfl) (by kernel_rfl) ?_
        refine tr_ret (b_r (q_r (l_r (b_r (q_r (rg_r ?_))))))
        obtain rfl := Option.some.inj hM
        exact retg (names := []) .nil (by kernel_rfl)
    · have hM := ite_false' hM h6
      refine tr_condFe (e := decide (s2 < (a0.length : Int))) h6 (by kernel_rfl) ?_
      refine tr_exit (q_x (l_x (b_h (q_n ?_))))
      refine tr_sr hT hm [] [8] [(8, .d (bv true))] .nil (by kernel_rfl) (by kernel_rfl) ?_
      refine tr_ret (rg_r ?_)
      obtain rfl := Option.some.inj hM
      exact retg (names := []) .nil (by kernel_rfl)

theorem ok37 : CallOk Try.prog 37 := callOk_of Try.func37 (by kernel_rfl) (by kernel_rfl)
theorem laws_markInt64S_c (a0 : List Int) (a1 : Int) (r : Int × (List Int)) (hM : M.laws_markInt64S a0 a1 = some r) :
    FnC Try.prog 37 [(0, .arr 1 (a0.flatMap eI.o) [])] [.rs 0 0 a0.length, iv a1] [(0, .arr 1 (r.2.flatMap eI.o) [])] (iv r.1) := by
  refine fnc_startG (N := 19) (np := 500) hT Try.func37 rfl rfl (by kernel_rfl) ?_
  unfold M.laws_markInt64S at hM
  refine tr_start (ks := [0, 1, 2]) (st' := [(0, .d (.rs 0 0 a0.length)), (1, .r (.arr 1 (a0.flatMap eI.o) [])), (2, .d (iv a1))]) (by kernel_rfl) ?_
  refine tr_sr hT hm [] [0, 1, 2] [(0, .d (.rs 0 0 a0.length)), (1, .r (.arr 1 (a0.flatMap eI.o) [])), (2, .d (iv a1))] .nil (by kernel_rfl) (by kernel_rfl) ?_
  refine tr_seq ?_
  refine tr_sr hT hm [] [0, 1, 2, 10] [(0, .d (.rs 0 0 a0.length)), (1, .r (.arr 1 (a0.flatMap eI.o) [])), (2, .d (iv a1)), (10, .d (iv 0))] .nil (by kernel_rfl) (by kernel_rfl) ?_
  refine tr_block ?_
  refine tr_iterS (fun (s1 : (List Int) × Int × Int) => [(0, .d (.rs 0 0 s1.1.length)), (1, .r (.arr 1 (s1.1.flatMap eI.o) [])), (2, .d (iv s1.2.1)), (10, .d (iv s1.2.2))]) (a0, a1, 0) [0, 1, 2, 10] (by kernel_rfl) hM ?_
  intro n4 next2 ih3 s1 hM
  refine tr_seq ?_
  refine tr_sr hT hm [] [0, 1, 2, 10, 18] [(0, .d (.rs 0 0 s1.1.length)), (1, .r (.arr 1 (s1.1.flatMap eI.o) [])), (2, .d (iv s1.2.1)), (10, .d (iv s1.2.2)), (18, .d (bv (decide (s1.2.2 < (s1.1.length : Int)))))] .nil (by kernel_rfl) (by kernel_rfl) ?_
  rcases Bool.eq_false_or_eq_true (decide (s1.2.2 < (s1.1.length : Int))) with h5 | h5
  · have hM := ite_true' hM h5
    refine tr_condTe (e := decide (s1.2.2 < (s1.1.length : Int))) h5 (by kernel_rfl) ?_
    refine tr_skip (q_n ?_)
    refine tr_seq ?_
    refine tr_block ?_
    obtain ⟨y6, hy6, hM⟩ := bind_some' hM
    have hy6' := idx_some hy6
    refine tr_sr hT hm [] [0, 1, 2, 10] [(0, .d (.rs 0 0 s1.1.length)), (1, .r (.arr 1 ((s1.1.flatMap eI.o).take (0 + s1.2.2.toNat * 1) ++ [iv s1.2.1] ++ (s1.1.flatMap eI.o).drop (0 + s1.2.2.toNat * 1 + 1)) [])), (2, .d (iv s1.2.1)), (10, .d (iv s1.2.2))] (.cons hy6'.1 (.cons hy6'.2.1 (.cons (store_le eI_ok hy6'.2.2) .nil))) (by kernel_rfl) (by kernel_rfl) ?_
    refine Tr.by (imp_cvE (r := 0) (sz := 1) (refs := []) (set_flat eI_ok.lenO (y := s1.2.1) hy6'.2.2) (menO_flat eI_ok _) (by kernel_rfl)) ?_
    refine Tr.by (imp_cvD (k := 0) (congrArg (D.rs 0 0) (List.length_set.symm : s1.1.length = (s1.1.set s1.2.2.toNat s1.2.1).length)) (by kernel_rfl)) ?_
    refine tr_r hT hm [] [0, 1, 2, 10] [(0, .d (.rs 0 0 ((s1.1.set s1.2.2.toNat s1.2.1).length))), (1, .r (.arr 1 ((s1.1.set s1.2.2.toNat s1.2.1).flatMap eI.o) [])), (2, .d (iv (IntKind.i64.wrap (s1.2.1 + 1)))), (10, .d (iv s1.2.2))] .nil (by kernel_rfl) (by kernel_rfl) (b_n (q_n ?_))
    refine tr_r hT hm [] [0, 1, 2, 10] [(0, .d (.rs 0 0 ((s1.1.set s1.2.2.toNat s1.2.1).length))), (1, .r (.arr 1 ((s1.1.set s1.2.2.toNat s1.2.1).flatMap eI.o) [])), (2, .d (iv (IntKind.i64.wrap (s1.2.1 + 1)))), (10, .d (iv (IntKind.i64.wrap (s1.2.2 + 1))))] .nil (by kernel_rfl) (by kernel_rfl) (l_n ?_)
    exact trl_start (ks := [0, 1, 2, 10]) (by kernel_rfl) (ih3 (s1.1.set s1.2.2.toNat s1.2.1, IntKind.i64.wrap (s1.2.1 + 1), IntKind.i64.wrap (s1.2.2 + 1)) hM)
  · have hM := ite_false' hM h5
    refine tr_condFe (e := decide (s1.2.2 < (s1.1.length : Int))) h5 (by kernel_rfl) ?_
    refine tr_exit (q_x (l_x (b_h (q_n ?_))))
    refine tr_sr hT hm [] [1, 8] [(1, .r (.arr 1 (s1.1.flatMap eI.o) [])), (8, .d (iv s1.2.1))] .nil (by kernel_rfl) (by kernel_rfl) ?_
    refine tr_ret (rg_r ?_)
    obtain rfl := Option.some.inj hM
    exact retg (names := [0]) .nil (by kernel_rfl)

theorem ok38 : CallOk Try.prog 38 := callOk_of Try.func38 (by kernel_rfl) (by kernel_rfl)
theorem laws_markInt64SS_c (a0 : List (List Int)) (a1 : Int) (r : Int × (List (List Int))) (hM : M.laws_markInt64SS a0 a1 = some r) :
    FnC Try.prog 38 [(0, .arr 1 (a0.flatMap (eS eI).o) [])] [.rs 0 0 a0.length, iv a1] [(0, .arr 1 (r.2.flatMap (eS eI).o) [])] (iv r.1) := by
  refine fnc_startG (N := 19) (np := 500) hT Try.func38 rfl rfl (by kernel_rfl) ?_
  unfold M.laws_markInt64SS at hM
  refine tr_start (ks := [0, 1, 2]) (st' := [(0, .d (.rs 0 0 a0.length)), (1, .r (.arr 1 (a0.flatMap (eS eI).o) [])), (2, .d (iv a1))]) (by kernel_rfl) ?_
  refine tr_sr hT hm [] [0, 1, 2] [(0, .d (.rs 0 0 a0.length)), (1, .r (.arr 1 (a0.flatMap (eS eI).o) [])), (2, .d (iv a1))] .nil (by kernel_rfl) (by kernel_rfl) ?_
  refine tr_seq ?_
  refine tr_sr hT hm [] [0, 1, 2, 10] [(0, .d (.rs 0 0 a0.length)), (1, .r (.arr 1 (a0.flatMap (eS eI).o) [])), (2, .d (iv a1)), (10, .d (iv 0))] .nil (by kernel_rfl) (by kernel_rfl) ?_
  refine tr_block ?_
  refine tr_iterS (fun (s1 : (List (List Int)) × Int × Int) => [(0, .d (.rs 0 0 s1.1.length)), (1, .r (.arr 1 (s1.1.flatMap (eS eI).o) [])), (2, .d (iv s1.2.1)), (10, .d (iv s1.2.2))]) (a0, a1, 0) [0, 1, 2, 10] (by kernel_rfl) hM ?_
  intro n4 next2 ih3 s1 hM
  refine tr_seq ?_
  refine tr_sr hT hm [] [0, 1, 2, 10, 18] [(0, .d (.rs 0 0 s1.1.length)), (1, .r (.arr 1 (s1.1.flatMap (eS eI).o) [])), (2, .d (iv s1.2.1)), (10, .d (iv s1.2.2)), (18, .d (bv (decide (s1.2.2 < (s1.1.length : Int)))))] .nil (by kernel_rfl) (by kernel_rfl) ?_
  rcases Bool.eq_false_or_eq_true (decide (s1.2.2 < (s1.1.length : Int))) with h5 | h5
  · have hM := ite_true' hM h5
    refine tr_condTe (e := decide (s1.2.2 < (s1.1.length : Int))) h5 (by kernel_rfl) ?_
    refine tr_skip (q_n ?_)
    refine tr_seq ?_
    refine tr_block ?_
    obtain ⟨y6, hy6, hM⟩ := bind_some' hM
    have hy6' := idx_some hy6
    refine Tr.by (imp_rowOut (r := 0) (q := 700012) (i := s1.2.2) (xs := s1.1) (e := eI) (eS_ok eI_ok) hy6'.2.2 (by kernel_rfl) (by kernel_rfl)) ?_
    obtain ⟨v7, hv7, hM⟩ := bind_some' hM
    refine tr_r hT hm [(3, .val (.rs 700012 0 y6.length)), (5, .call [] [(0, 700012)] [.rs 0 0 y6.length, iv s1.2.1] [(0, .arr 1 (v7.2.flatMap eI.o) [])] (iv v7.1))] [0, 1, 2, 10, 1400025] [(0, .d (.rs 0 0 s1.1.length)), (1, .r (.arr 1 ((s1.1.flatMap (eS eI).o).set (0 + s1.2.2.toNat * 1) (.rs 700012 0 y6.length)) [700012])), (2, .d (iv v7.1)), (10, .d (iv s1.2.2)), (1400025, .r (.arr 1 (v7.2.flatMap eI.o) []))] (.cons hy6'.1 (.cons hy6'.2.1 (.cons (set_at (d := .rs 700012 0 y6.length) (lt_flat (eS_ok eI_ok) (by kernel_rfl) hy6'.2.2)) (cc (B := []) (ρ := [(0, 700012)]) (rB := []) ok37 (laws_markInt64S_c y6 s1.2.1 _ hv7) (.cons (.pass (.rs rfl)) (.cons (.same rfl) .nil)) (.inl rfl) .nil)))) (by kernel_rfl) (by kernel_rfl) (b_n (q_n ?_))
    refine Tr.by (imp_rowBack (r := 0) (q := 700012) (n := y6.length) (i := s1.2.2) (xs := s1.1) (e := eI) (x' := v7.2) eI_ok hy6'.2.2 (M.len_markInt64S hv7) (by kernel_rfl) (by kernel_rfl) (by kernel_rfl)) ?_
    refine Tr.by (imp_cvD (k := 0) (congrArg (D.rs 0 0) (List.length_set.symm : s1.1.length = (s1.1.set s1.2.2.toNat v7.2).length)) (by kernel_rfl)) ?_
    refine tr_r hT hm [] [0, 1, 2, 10] [(0, .d (.rs 0 0 ((s1.1.set s1.2.2.toNat v7.2).length))), (1, .r (.arr 1 ((s1.1.set s1.2.2.toNat v7.2).flatMap (eS eI).o) [])), (2, .d (iv v7.1)), (10, .d (iv (IntKind.i64.wrap (s1.2.2 + 1))))] .nil (by kernel_rfl) (by kernel_rfl) (l_n ?_)
    exact trl_start (ks := [0, 1, 2, 10]) (by kernel_rfl) (ih3 (s1.1.set s1.2.2.toNat v7.2, v7.1, IntKind.i64.wrap (s1.2.2 + 1)) hM)
  · have hM := ite_false' hM h5
    refine tr_condFe (e := decide (s1.2.2 < (s1.1.length : Int))) h5 (by kernel_rfl) ?_
    refine tr_exit (q_x (l_x (b_h (q_n ?_))))
    refine tr_sr hT hm [] [1, 8] [(1, .r (.arr 1 (s1.1.flatMap (eS eI).o) [])), (8, .d (iv s1.2.1))] .nil (by kernel_rfl) (by kernel_rfl) ?_
    refine tr_ret (rg_r ?_)
    obtain rfl := Option.some.inj hM
    exact retg (names := [0]) .nil (by kernel_rfl)

theorem ok40 : CallOk Try.prog 40 := callOk_of Try.func40 (by kernel_rfl) (by kernel_rfl)
theorem laws_heldInt64S_c (a0 : List Int) (a1 : Int) (r : Int) (hM : M.laws_heldInt64S a0 a1 = some r) :
    FnC Try.prog 40 [] [.sl a0.length 0 (a0.flatMap eI.b), iv a1] [] (iv r) := by
  refine fnc_startG (N := 21) (np := 500) hT Try.func40 rfl rfl (by kernel_rfl) ?_
  unfold M.laws_heldInt64S at hM
  refine tr_start (ks := [0, 2]) (st' := [(0, .d (.sl a0.length 0 (a0.flatMap eI.b))), (2, .d (iv a1))]) (by kernel_rfl) ?_
  refine tr_sr hT hm [] [0, 2] [(0, .d (.sl a0.length 0 (a0.flatMap eI.b))), (2, .d (iv a1))] .nil (by kernel_rfl) (by kernel_rfl) ?_
  refine tr_seq ?_
  refine tr_sr hT hm [] [0, 2, 10] [(0, .d (.sl a0.length 0 (a0.flatMap eI.b))), (2, .d (iv a1)), (10, .d (iv 0))] .nil (by kernel_rfl) (by kernel_rfl) ?_
  refine tr_block ?_
  refine tr_iterS (fun (s1 : Int × Int) => [(0, .d (.sl a0.length 0 (a0.flatMap eI.b))), (2, .d (iv s1.1)), (10, .d (iv s1.2))]) (a1, 0) [0, 2, 10] (by kernel_rfl) hM ?_
  intro n4 next2 ih3 s1 hM
  refine tr_seq ?_
  refine tr_sr hT hm [] [0, 2, 10, 18] [(0, .d (.sl a0.length 0 (a0.flatMap eI.b))), (2, .d (iv s1.1)), (10, .d (iv s1.2)), (18, .d (bv (decide (s1.2 < (a0.length : Int)))))] .nil (by kernel_rfl) (by kernel_rfl) ?_
  rcases Bool.eq_false_or_eq_true (decide (s1.2 < (a0.length : Int))) with h5 | h5
  · have hM := ite_true' hM h5
    refine tr_condTe (e := decide (s1.2 < (a0.length : Int))) h5 (by kernel_rfl) ?_
    refine tr_skip (q_n ?_)
    refine tr_seq ?_
    refine tr_block ?_
    refine tr_seq ?_
    obtain ⟨y6, hy6, hM⟩ := bind_some' hM
    have hy6' := idx_some hy6
    refine tr_sr hT hm [(3, .val (iv y6))] [0, 2, 10, 34] [(0, .d (.sl a0.length 0 (a0.flatMap eI.b))), (2, .d (iv s1.1)), (10, .d (iv s1.2)), (34, .d (bv (y6 != s1.1)))] (.cons hy6'.1 (.cons hy6'.2.1 (.cons (at_b0 eI_ok hy6'.2.2 (d := iv y6) (by kernel_rfl)) .nil))) (by kernel_rfl) (by kernel_rfl) ?_
    rcases Bool.eq_false_or_eq_true (y6 != s1.1) with h7 | h7
    · have hM := ite_true' hM h7
      refine tr_condTe (e := y6 != s1.1) h7 (by kernel_rfl) ?_
      refine tr_sr hT hm [] [8] [(8, .d (iv (-1)))] .nil (by kernel_rfl) (by kernel_rfl) ?_
      refine tr_ret (q_r (b_r (q_r (l_r (b_r (q_r (rg_r ?_)))))))
      obtain rfl := Option.some.inj hM
      exact retg (names := []) .nil (by kernel_rfl)
    · have hM := ite_false' hM h7
      refine tr_condFe (e := y6 != s1.1) h7 (by kernel_rfl) ?_
      refine tr_skip (q_n ?_)
      refine tr_r hT hm [] [0, 2, 10] [(0, .d (.sl a0.length 0 (a0.flatMap eI.b))), (2, .d (iv (IntKind.i64.wrap (s1.1 + 1)))), (10, .d (iv s1.2))] .nil (by kernel_rfl) (by kernel_rfl) (b_n (q_n ?_))
      refine tr_r hT hm [] [0, 2, 10] [(0, .d (.sl a0.length 0 (a0.flatMap eI.b))), (2, .d (iv (IntKind.i64.wrap (s1.1 + 1)))), (10, .d (iv (IntKind.i64.wrap (s1.2 + 1))))] .nil (by kernel_rfl) (by kernel_rfl) (l_n ?_)
      exact trl_start (ks := [0, 2, 10]) (by kernel_rfl) (ih3 (IntKind.i64.wrap (s1.1 + 1), IntKind.i64.wrap (s1.2 + 1)) hM)
  · have hM := ite_false' hM h5
    refine tr_condFe (e := decide (s1.2 < (a0.length : Int))) h5 (by kernel_rfl) ?_
    refine tr_exit (q_x (l_x (b_h (q_n ?_))))
    refine tr_sr hT hm [] [8] [(8, .d (iv s1.1))] .nil (by kernel_rfl) (by kernel_rfl) ?_
    refine tr_ret (rg_r ?_)
    obtain rfl := Option.some.inj hM
    exact retg (names := []) .nil (by kernel_rfl)

theorem ok41 : CallOk Try.prog 41 := callOk_of Try.func41 (by kernel_rfl) (by kernel_rfl)
theorem laws_heldInt64SS_c (a0 : List (List Int)) (a1 : Int) (r : Int) (hM : M.laws_heldInt64SS a0 a1 = some r) :
    FnC Try.prog 41 [] [.sl a0.length 0 (a0.flatMap (eS eI).b), iv a1] [] (iv r) := by
  refine fnc_startG (N := 21) (np := 500) hT Try.func41 rfl rfl (by kernel_rfl) ?_
  unfold M.laws_heldInt64SS at hM
  refine tr_start (ks := [0, 2]) (st' := [(0, .d (.sl a0.length 0 (a0.flatMap (eS eI).b))), (2, .d (iv a1))]) (by kernel_rfl) ?_
  refine tr_sr hT hm [] [0, 2] [(0, .d (.sl a0.length 0 (a0.flatMap (eS eI).b))), (2, .d (iv a1))] .nil (by kernel_rfl) (by kernel_rfl) ?_
  refine tr_seq ?_
  refine tr_sr hT hm [] [0, 2, 10] [(0, .d (.sl a0.length 0 (a0.flatMap (eS eI).b))), (2, .d (iv a1)), (10, .d (iv 0))] .nil (by kernel_rfl) (by kernel_rfl) ?_
  refine tr_block ?_
  refine tr_iterS (fun (s1 : Int × Int) => [(0, .d (.sl a0.length 0 (a0.flatMap (eS eI).b))), (2, .d (iv s1.1)), (10, .d (iv s1.2))]) (a1, 0) [0, 2, 10] (by kernel_rfl) hM ?_
  intro n4 next2 ih3 s1 hM
  refine tr_seq ?_
  refine tr_sr hT hm [] [0, 2, 10, 18] [(0, .d (.sl a0.length 0 (a0.flatMap (eS eI).b))), (2, .d (iv s1.1)), (10, .d (iv s1.2)), (18, .d (bv (decide (s1.2 < (a0.length : Int)))))] .nil (by kernel_rfl) (by kernel_rfl) ?_
  rcases Bool.eq_false_or_eq_true (decide (s1.2 < (a0.length : Int))) with h5 | h5
  · have hM := ite_true' hM h5
    refine tr_condTe (e := decide (s1.2 < (a0.length : Int))) h5 (by kernel_rfl) ?_
    refine tr_skip (q_n ?_)
    refine tr_seq ?_
    refine tr_block ?_
    obtain ⟨y6, hy6, hM⟩ := bind_some' hM
    have hy6' := idx_some hy6
    obtain ⟨v7, hv7, hM⟩ := bind_some' hM
    refine tr_sr hT hm [(3, .val (.sl y6.length 0 (y6.flatMap eI.b))), (5, .call [] [] [.sl y6.length 0 (y6.flatMap eI.b), iv s1.1] [] (iv v7))] [0, 2, 10] [(0, .d (.sl a0.length 0 (a0.flatMap (eS eI).b))), (2, .d (iv v7)), (10, .d (iv s1.2))] (.cons hy6'.1 (.cons hy6'.2.1 (.cons (at_b0 (eS_ok eI_ok) hy6'.2.2 (d := .sl y6.length 0 (y6.flatMap eI.b)) (by kernel_rfl)) (cc0 ok40 (laws_heldInt64S_c y6 s1.1 _ hv7) (by kernel_rfl) .nil)))) (by kernel_rfl) (by kernel_rfl) ?_
    refine tr_sr hT hm [] [0, 2, 10, 38] [(0, .d (.sl a0.length 0 (a0.flatMap (eS eI).b))), (2, .d (iv v7)), (10, .d (iv s1.2)), (38, .d (bv (decide (v7 < 0))))] .nil (by kernel_rfl) (by kernel_rfl) ?_
    rcases Bool.eq_false_or_eq_true (decide (v7 < 0)) with h8 | h8
    · have hM := ite_true' hM h8
      refine tr_condTe (e := decide (v7 < 0)) h8 (by kernel_rfl) ?_
      refine tr_sr hT hm [] [8] [(8, .d (iv (-1)))] .nil (by kernel_rfl) (by kernel_rfl) ?_
      refine tr_ret (b_r (q_r (l_r (b_r (q_r (rg_r ?_))))))
      obtain rfl := Option.some.inj hM
      exact retg (names := []) .nil (by kernel_rfl)
    · have hM := ite_false' hM h8
      refine tr_condFe (e := decide (v7 < 0)) h8 (by kernel_rfl) ?_
      refine tr_skip (b_n (q_n ?_))
      refine tr_r hT hm [] [0, 2, 10] [(0, .d (.sl a0.length 0 (a0.flatMap (eS eI).b))), (2, .d (iv v7)), (10, .d (iv (IntKind.i64.wrap (s1.2 + 1))))] .nil (by kernel_rfl) (by kernel_rfl) (l_n ?_)
      exact trl_start (ks := [0, 2, 10]) (by kernel_rfl) (ih3 (v7, IntKind.i64.wrap (s1.2 + 1)) hM)
  · have hM := ite_false' hM h5
    refine tr_condFe (e := decide (s1.2 < (a0.length : Int))) h5 (by kernel_rfl) ?_
    refine tr_exit (q_x (l_x (b_h (q_n ?_))))
    refine tr_sr hT hm [] [8] [(8, .d (iv s1.1))] .nil (by kernel_rfl) (by kernel_rfl) ?_
    refine tr_ret (rg_r ?_)
    obtain rfl := Option.some.inj hM
    exact retg (names := []) .nil (by kernel_rfl)

end Go.Proofs.Ytiikkfdehbcfaaa.WvB
