/- Walks. Printed by wip/gen. -/
import Derived.Test.YtknmijgiefkijaaDoorGxdAW
namespace Go.Proofs.YtknmijgiefkijaaDoor.WdA
open Go.Gx

theorem ok9 : CallOk Tryd.prog 9 := callOk_of Tryd.func9 (by kernel_rfl) (by kernel_rfl)
theorem laws_szInt64S_c (a0 : List Int) (a1 : Int) (r : Int) (hM : M.laws_szInt64S a0 a1 = some r) :
    FnC Tryd.prog 9 [] [.sl a0.length 0 (a0.flatMap eI.b), iv a1] [] (iv r) := by
  refine fnc_startG (N := 12) (np := 500) hT Tryd.func9 rfl rfl (by kernel_rfl) ?_
  unfold M.laws_szInt64S at hM
  refine tr_start (ks := [0, 2]) (st' := [(0, .d (.sl a0.length 0 (a0.flatMap eI.b))), (2, .d (iv a1))]) (by kernel_rfl) ?_
  refine tr_sr hT hm [] [0, 2] [(0, .d (.sl a0.length 0 (a0.flatMap eI.b))), (2, .d (iv a1))] .nil (by kernel_rfl) (by kernel_rfl) ?_
  refine tr_sr hT hm [] [2] [(2, .d (iv (IntKind.i64.wrap (a1 - (a0.length : Int)))))] .nil (by kernel_rfl) (by kernel_rfl) ?_
  refine tr_seq ?_
  refine tr_sr hT hm [] [2, 20] [(2, .d (iv (IntKind.i64.wrap (a1 - (a0.length : Int))))), (20, .d (bv (decide ((IntKind.i64.wrap (a1 - (a0.length : Int))) < 0))))] .nil (by kernel_rfl) (by kernel_rfl) ?_
  rcases Bool.eq_false_or_eq_true (decide ((IntKind.i64.wrap (a1 - (a0.length : Int))) < 0)) with h1 | h1
  · have hM := ite_true' hM h1
    refine tr_condTe (e := decide ((IntKind.i64.wrap (a1 - (a0.length : Int))) < 0)) h1 (by kernel_rfl) ?_
    refine tr_sr hT hm [] [8] [(8, .d (iv (-1)))] .nil (by kernel_rfl) (by kernel_rfl) ?_
    refine tr_ret (q_r (rg_r ?_))
    obtain rfl := Option.some.inj hM
    exact retg (names := []) .nil (by kernel_rfl)
  · have hM := ite_false' hM h1
    refine tr_condFe (e := decide ((IntKind.i64.wrap (a1 - (a0.length : Int))) < 0)) h1 (by kernel_rfl) ?_
    refine tr_skip (q_n ?_)
    refine tr_sr hT hm [] [8] [(8, .d (iv (IntKind.i64.wrap (a1 - (a0.length : Int)))))] .nil (by kernel_rfl) (by kernel_rfl) ?_
    refine tr_ret (rg_r ?_)
    obtain rfl := Option.some.inj hM
    exact retg (names := []) .nil (by kernel_rfl)

theorem ok19 : CallOk Tryd.prog 19 := callOk_of Tryd.func19 (by kernel_rfl) (by kernel_rfl)
theorem laws_szPath_c (a0 : XPath) (a1 : Int) (r : Int) (hM : M.laws_szPath a0 a1 = some r) :
    FnC Tryd.prog 19 [] [.agg (eXPath.b a0), iv a1] [] (iv r) := by
  refine fnc_startG (N := 12) (np := 500) hT Tryd.func19 rfl rfl (by kernel_rfl) ?_
  unfold M.laws_szPath at hM
  refine tr_start (ks := [0, 2]) (st' := [(0, .d (.agg (eXPath.b a0))), (2, .d (iv a1))]) (by kernel_rfl) ?_
  refine tr_sr hT hm [] [2, 4, 2005] [(2, .d (iv a1)), (4, .d (.rp 1002 0)), bxB 2005 (eXPath.b a0)] .nil (by kernel_rfl) (by kernel_rfl) ?_
  obtain ⟨v1, hv1, hM⟩ := bind_some' hM
  refine tr_sr hT hm [(3, .call [] [] [.sl a0.Edges.length 0 (a0.Edges.flatMap eI.b), iv a1] [] (iv v1))] [2] [(2, .d (iv v1))] (cc0 ok9 (laws_szInt64S_c a0.Edges a1 _ hv1) (by kernel_rfl) .nil) (by kernel_rfl) (by kernel_rfl) ?_
  refine tr_seq ?_
  refine tr_sr hT hm [] [2, 20] [(2, .d (iv v1)), (20, .d (bv (decide (v1 < 0))))] .nil (by kernel_rfl) (by kernel_rfl) ?_
  rcases Bool.eq_false_or_eq_true (decide (v1 < 0)) with h2 | h2
  · have hM := ite_true' hM h2
    refine tr_condTe (e := decide (v1 < 0)) h2 (by kernel_rfl) ?_
    refine tr_sr hT hm [] [8] [(8, .d (iv (-1)))] .nil (by kernel_rfl) (by kernel_rfl) ?_
    refine tr_ret (q_r (rg_r ?_))
    obtain rfl := Option.some.inj hM
    exact retg (names := []) .nil (by kernel_rfl)
  · have hM := ite_false' hM h2
    refine tr_condFe (e := decide (v1 < 0)) h2 (by kernel_rfl) ?_
    refine tr_skip (q_n ?_)
    refine tr_sr hT hm [] [8] [(8, .d (iv v1))] .nil (by kernel_rfl) (by kernel_rfl) ?_
    refine tr_ret (rg_r ?_)
    obtain rfl := Option.some.inj hM
    exact retg (names := []) .nil (by kernel_rfl)

theorem ok10 : CallOk Tryd.prog 10 := callOk_of Tryd.func10 (by kernel_rfl) (by kernel_rfl)
theorem laws_szPathS_c (a0 : List XPath) (a1 : Int) (r : Int) (hM : M.laws_szPathS a0 a1 = some r) :
    FnC Tryd.prog 10 [] [.sl a0.length 0 (a0.flatMap eXPath.b), iv a1] [] (iv r) := by
  refine fnc_startG (N := 27) (np := 500) hT Tryd.func10 rfl rfl (by kernel_rfl) ?_
  unfold M.laws_szPathS at hM
  refine tr_start (ks := [0, 2]) (st' := [(0, .d (.sl a0.length 0 (a0.flatMap eXPath.b))), (2, .d (iv a1))]) (by kernel_rfl) ?_
  refine tr_sr hT hm [] [0, 2] [(0, .d (.sl a0.length 0 (a0.flatMap eXPath.b))), (2, .d (iv a1))] .nil (by kernel_rfl) (by kernel_rfl) ?_
  refine tr_sr hT hm [] [0, 2] [(0, .d (.sl a0.length 0 (a0.flatMap eXPath.b))), (2, .d (iv (IntKind.i64.wrap (a1 - (a0.length : Int)))))] .nil (by kernel_rfl) (by kernel_rfl) ?_
  refine tr_seq ?_
  refine tr_sr hT hm [] [0, 2, 22] [(0, .d (.sl a0.length 0 (a0.flatMap eXPath.b))), (2, .d (iv (IntKind.i64.wrap (a1 - (a0.length : Int))))), (22, .d (bv (decide ((IntKind.i64.wrap (a1 - (a0.length : Int))) < 0))))] .nil (by kernel_rfl) (by kernel_rfl) ?_
  rcases Bool.eq_false_or_eq_true (decide ((IntKind.i64.wrap (a1 - (a0.length : Int))) < 0)) with h1 | h1
  · have hM := ite_true' hM h1
    refine tr_condTe (e := decide ((IntKind.i64.wrap (a1 - (a0.length : Int))) < 0)) h1 (by kernel_rfl) ?_
    refine tr_sr hT hm [] [8] [(8, .d (iv (-1)))] .nil (by kernel_rfl) (by kernel_rfl) ?_
    refine tr_ret (q_r (rg_r ?_))
    obtain rfl := Option.some.inj hM
    exact retg (names := []) .nil (by kernel_rfl)
  · have hM := ite_false' hM h1
    refine tr_condFe (e := decide ((IntKind.i64.wrap (a1 - (a0.length : Int))) < 0)) h1 (by kernel_rfl) ?_
    refine tr_skip (q_n ?_)
    refine tr_seq ?_
    refine tr_sr hT hm [] [0, 2, 10] [(0, .d (.sl a0.length 0 (a0.flatMap eXPath.b))), (2, .d (iv (IntKind.i64.wrap (a1 - (a0.length : Int))))), (10, .d (iv 0))] .nil (by kernel_rfl) (by kernel_rfl) ?_
    refine tr_block ?_
    refine tr_iterS (fun (s2 : Int × Int) => [(0, .d (.sl a0.length 0 (a0.flatMap eXPath.b))), (2, .d (iv s2.1)), (10, .d (iv s2.2))]) (IntKind.i64.wrap (a1 - (a0.length : Int)), 0) [0, 2, 10] (by kernel_rfl) hM ?_
    intro n5 next3 ih4 s2 hM
    refine tr_seq ?_
    refine tr_sr hT hm [] [0, 2, 10, 30] [(0, .d (.sl a0.length 0 (a0.flatMap eXPath.b))), (2, .d (iv s2.1)), (10, .d (iv s2.2)), (30, .d (bv (decide (s2.2 < (a0.length : Int)))))] .nil (by kernel_rfl) (by kernel_rfl) ?_
    rcases Bool.eq_false_or_eq_true (decide (s2.2 < (a0.length : Int))) with h6 | h6
    · have hM := ite_true' hM h6
      refine tr_condTe (e := decide (s2.2 < (a0.length : Int))) h6 (by kernel_rfl) ?_
      refine tr_skip (q_n ?_)
      refine tr_seq ?_
      refine tr_block ?_
      obtain ⟨y7, hy7, hM⟩ := bind_some' hM
      have hy7' := idx_some hy7
      obtain ⟨v8, hv8, hM⟩ := bind_some' hM
      refine tr_sr hT hm [(3, .val (.agg [iv y7.Start, .sl y7.Edges.length 0 (y7.Edges.flatMap eI.b)])), (5, .call [] [] [.agg (eXPath.b y7), iv s2.1] [] (iv v8))] [0, 2, 10] [(0, .d (.sl a0.length 0 (a0.flatMap eXPath.b))), (2, .d (iv v8)), (10, .d (iv s2.2))] (.cons hy7'.1 (.cons hy7'.2.1 (.cons (sub_b eXPath_ok hy7'.2.2) (cc0 ok19 (laws_szPath_c y7 s2.1 _ hv8) (by kernel_rfl) .nil)))) (by kernel_rfl) (by kernel_rfl) ?_
      refine tr_sr hT hm [] [0, 2, 10, 50] [(0, .d (.sl a0.length 0 (a0.flatMap eXPath.b))), (2, .d (iv v8)), (10, .d (iv s2.2)), (50, .d (bv (decide (v8 < 0))))] .nil (by kernel_rfl) (by kernel_rfl) ?_
      rcases Bool.eq_false_or_eq_true (decide (v8 < 0)) with h9 | h9
      · have hM := ite_true' hM h9
        refine tr_condTe (e := decide (v8 < 0)) h9 (by kernel_rfl) ?_
        refine tr_sr hT hm [] [8] [(8, .d (iv (-1)))] .nil (by kernel_rfl) (by kernel_rfl) ?_
        refine tr_ret (b_r (q_r (l_r (b_r (q_r (rg_r ?_))))))
        obtain rfl := Option.some.inj hM
        exact retg (names := []) .nil (by kernel_rfl)
      · have hM := ite_false' hM h9
        refine tr_condFe (e := decide (v8 < 0)) h9 (by kernel_rfl) ?_
        refine tr_skip (b_n (q_n ?_))
        refine tr_r hT hm [] [0, 2, 10] [(0, .d (.sl a0.length 0 (a0.flatMap eXPath.b))), (2, .d (iv v8)), (10, .d (iv (IntKind.i64.wrap (s2.2 + 1))))] .nil (by kernel_rfl) (by kernel_rfl) (l_n ?_)
        exact trl_start (ks := [0, 2, 10]) (by kernel_rfl) (ih4 (v8, IntKind.i64.wrap (s2.2 + 1)) hM)
    · have hM := ite_false' hM h6
      refine tr_condFe (e := decide (s2.2 < (a0.length : Int))) h6 (by kernel_rfl) ?_
      refine tr_exit (q_x (l_x (b_h (q_n ?_))))
      refine tr_sr hT hm [] [8] [(8, .d (iv s2.1))] .nil (by kernel_rfl) (by kernel_rfl) ?_
      refine tr_ret (rg_r ?_)
      obtain rfl := Option.some.inj hM
      exact retg (names := []) .nil (by kernel_rfl)

theorem ok4 : CallOk Tryd.prog 4 := callOk_of Tryd.func4 (by kernel_rfl) (by kernel_rfl)
theorem laws_szSchema_c (a0 : XSchema) (a1 : Int) (r : Int) (hM : M.laws_szSchema a0 a1 = some r) :
    FnC Tryd.prog 4 [] [.agg (eXSchema.b a0), iv a1] [] (iv r) := by
  refine fnc_startG (N := 30) (np := 500) hT Tryd.func4 rfl rfl (by kernel_rfl) ?_
  unfold M.laws_szSchema at hM
  refine tr_start (ks := [0, 2]) (st' := [(0, .d (.agg (eXSchema.b a0))), (2, .d (iv a1))]) (by kernel_rfl) ?_
  refine tr_sr hT hm [] [2, 4, 2005] [(2, .d (iv a1)), (4, .d (.rp 1002 0)), bxB 2005 (eXSchema.b a0)] .nil (by kernel_rfl) (by kernel_rfl) ?_
  obtain ⟨v1, hv1, hM⟩ := bind_some' hM
  refine tr_sr hT hm [(3, .call [] [] [.sl a0.From.length 0 (a0.From.flatMap eI.b), iv a1] [] (iv v1))] [2, 4, 2005] [(2, .d (iv v1)), (4, .d (.rp 1002 0)), bxB 2005 (eXSchema.b a0)] (cc0 ok9 (laws_szInt64S_c a0.From a1 _ hv1) (by kernel_rfl) .nil) (by kernel_rfl) (by kernel_rfl) ?_
  refine tr_seq ?_
  refine tr_sr hT hm [] [2, 4, 20, 2005] [(2, .d (iv v1)), (4, .d (.rp 1002 0)), (20, .d (bv (decide (v1 < 0)))), bxB 2005 (eXSchema.b a0)] .nil (by kernel_rfl) (by kernel_rfl) ?_
  rcases Bool.eq_false_or_eq_true (decide (v1 < 0)) with h2 | h2
  · have hM := ite_true' hM h2
    refine tr_condTe (e := decide (v1 < 0)) h2 (by kernel_rfl) ?_
    refine tr_sr hT hm [] [8] [(8, .d (iv (-1)))] .nil (by kernel_rfl) (by kernel_rfl) ?_
    refine tr_ret (q_r (rg_r ?_))
    obtain rfl := Option.some.inj hM
    exact retg (names := []) .nil (by kernel_rfl)
  · have hM := ite_false' hM h2
    refine tr_condFe (e := decide (v1 < 0)) h2 (by kernel_rfl) ?_
    refine tr_skip (q_n ?_)
    obtain ⟨v3, hv3, hM⟩ := bind_some' hM
    refine tr_sr hT hm [(3, .call [] [] [.sl a0.To.length 0 (a0.To.flatMap eI.b), iv v1] [] (iv v3))] [2, 4, 2005] [(2, .d (iv v3)), (4, .d (.rp 1002 0)), bxB 2005 (eXSchema.b a0)] (cc0 ok9 (laws_szInt64S_c a0.To v1 _ hv3) (by kernel_rfl) .nil) (by kernel_rfl) (by kernel_rfl) ?_
    refine tr_seq ?_
    refine tr_sr hT hm [] [2, 4, 32, 2005] [(2, .d (iv v3)), (4, .d (.rp 1002 0)), (32, .d (bv (decide (v3 < 0)))), bxB 2005 (eXSchema.b a0)] .nil (by kernel_rfl) (by kernel_rfl) ?_
    rcases Bool.eq_false_or_eq_true (decide (v3 < 0)) with h4 | h4
    · have hM := ite_true' hM h4
      refine tr_condTe (e := decide (v3 < 0)) h4 (by kernel_rfl) ?_
      refine tr_sr hT hm [] [8] [(8, .d (iv (-1)))] .nil (by kernel_rfl) (by kernel_rfl) ?_
      refine tr_ret (q_r (rg_r ?_))
      obtain rfl := Option.some.inj hM
      exact retg (names := []) .nil (by kernel_rfl)
    · have hM := ite_false' hM h4
      refine tr_condFe (e := decide (v3 < 0)) h4 (by kernel_rfl) ?_
      refine tr_skip (q_n ?_)
      obtain ⟨v5, hv5, hM⟩ := bind_some' hM
      refine tr_sr hT hm [(3, .call [] [] [.sl a0.Left.length 0 (a0.Left.flatMap eXPath.b), iv v3] [] (iv v5))] [2, 4, 2005] [(2, .d (iv v5)), (4, .d (.rp 1002 0)), bxB 2005 (eXSchema.b a0)] (cc0 ok10 (laws_szPathS_c a0.Left v3 _ hv5) (by kernel_rfl) .nil) (by kernel_rfl) (by kernel_rfl) ?_
      refine tr_seq ?_
      refine tr_sr hT hm [] [2, 4, 44, 2005] [(2, .d (iv v5)), (4, .d (.rp 1002 0)), (44, .d (bv (decide (v5 < 0)))), bxB 2005 (eXSchema.b a0)] .nil (by kernel_rfl) (by kernel_rfl) ?_
      rcases Bool.eq_false_or_eq_true (decide (v5 < 0)) with h6 | h6
      · have hM := ite_true' hM h6
        refine tr_condTe (e := decide (v5 < 0)) h6 (by kernel_rfl) ?_
        refine tr_sr hT hm [] [8] [(8, .d (iv (-1)))] .nil (by kernel_rfl) (by kernel_rfl) ?_
        refine tr_ret (q_r (rg_r ?_))
        obtain rfl := Option.some.inj hM
        exact retg (names := []) .nil (by kernel_rfl)
      · have hM := ite_false' hM h6
        refine tr_condFe (e := decide (v5 < 0)) h6 (by kernel_rfl) ?_
        refine tr_skip (q_n ?_)
        obtain ⟨v7, hv7, hM⟩ := bind_some' hM
        refine tr_sr hT hm [(3, .call [] [] [.sl a0.Right.length 0 (a0.Right.flatMap eXPath.b), iv v5] [] (iv v7))] [2] [(2, .d (iv v7))] (cc0 ok10 (laws_szPathS_c a0.Right v5 _ hv7) (by kernel_rfl) .nil) (by kernel_rfl) (by kernel_rfl) ?_
        refine tr_seq ?_
        refine tr_sr hT hm [] [2, 56] [(2, .d (iv v7)), (56, .d (bv (decide (v7 < 0))))] .nil (by kernel_rfl) (by kernel_rfl) ?_
        rcases Bool.eq_false_or_eq_true (decide (v7 < 0)) with h8 | h8
        · have hM := ite_true' hM h8
          refine tr_condTe (e := decide (v7 < 0)) h8 (by kernel_rfl) ?_
          refine tr_sr hT hm [] [8] [(8, .d (iv (-1)))] .nil (by kernel_rfl) (by kernel_rfl) ?_
          refine tr_ret (q_r (rg_r ?_))
          obtain rfl := Option.some.inj hM
          exact retg (names := []) .nil (by kernel_rfl)
        · have hM := ite_false' hM h8
          refine tr_condFe (e := decide (v7 < 0)) h8 (by kernel_rfl) ?_
          refine tr_skip (q_n ?_)
          refine tr_sr hT hm [] [8] [(8, .d (iv v7))] .nil (by kernel_rfl) (by kernel_rfl) ?_
          refine tr_ret (rg_r ?_)
          obtain rfl := Option.some.inj hM
          exact retg (names := []) .nil (by kernel_rfl)

theorem ok20 : CallOk Tryd.prog 20 := callOk_of Tryd.func20 (by kernel_rfl) (by kernel_rfl)
theorem spec_l01In_c (a0 : Int) (a1 : Int) (a2 : Int) (r : Bool) (hM : M.spec_l01In a0 a1 a2 = some r) :
    FnC Tryd.prog 20 [] [iv a0, iv a1, iv a2] [] (bv r) := by
  refine fnc_startG (N := 15) (np := 500) hT Tryd.func20 rfl rfl (by kernel_rfl) ?_
  unfold M.spec_l01In at hM
  refine tr_start (ks := [0, 2, 4]) (st' := [(0, .d (iv a0)), (2, .d (iv a1)), (4, .d (iv a2))]) (by kernel_rfl) ?_
  refine tr_sr hT hm [] [0, 2, 4] [(0, .d (iv a0)), (2, .d (iv a1)), (4, .d (iv a2))] .nil (by kernel_rfl) (by kernel_rfl) ?_
  rcases Bool.eq_false_or_eq_true (decide (a0 ≥ a1)) with h1 | h1
  · have hM := ite_true' hM h1
    refine tr_sr hT hm [(3, .val (bv true))] [12] [(12, .d (bv (decide (a0 ≤ a2))))] (.cons (congrArg (fun b => bv b) h1) .nil) (by kernel_rfl) (by kernel_rfl) ?_
    refine tr_ret (rg_r ?_)
    obtain rfl := Option.some.inj hM
    exact retg (names := []) .nil (by kernel_rfl)
  · have hM := ite_false' hM h1
    refine tr_sr hT hm [(3, .val (bv false))] [12] [(12, .d (bv false))] (.cons (congrArg (fun b => bv b) h1) .nil) (by kernel_rfl) (by kernel_rfl) ?_
    refine tr_ret (rg_r ?_)
    obtain rfl := Option.some.inj hM
    exact retg (names := []) .nil (by kernel_rfl)

theorem ok21 : CallOk Tryd.prog 21 := callOk_of Tryd.func21 (by kernel_rfl) (by kernel_rfl)
theorem spec_l01Map_c (a0 : Int) (a1 : List Int) (r : Bool) (hM : M.spec_l01Map a0 a1 = some r) :
    FnC Tryd.prog 21 [] [iv a0, .sl a1.length 0 (a1.flatMap eI.b)] [] (bv r) := by
  refine fnc_startG (N := 25) (np := 500) hT Tryd.func21 rfl rfl (by kernel_rfl) ?_
  unfold M.spec_l01Map at hM
  refine tr_start (ks := [0, 2]) (st' := [(0, .d (iv a0)), (2, .d (.sl a1.length 0 (a1.flatMap eI.b)))]) (by kernel_rfl) ?_
  refine tr_sr hT hm [] [0, 2] [(0, .d (iv a0)), (2, .d (.sl a1.length 0 (a1.flatMap eI.b)))] .nil (by kernel_rfl) (by kernel_rfl) ?_
  refine tr_seq ?_
  refine tr_sr hT hm [] [0, 2, 10] [(0, .d (iv a0)), (2, .d (.sl a1.length 0 (a1.flatMap eI.b))), (10, .d (iv 0))] .nil (by kernel_rfl) (by kernel_rfl) ?_
  refine tr_block ?_
  refine tr_iterS (fun (s1 : Int) => [(0, .d (iv a0)), (2, .d (.sl a1.length 0 (a1.flatMap eI.b))), (10, .d (iv s1))]) 0 [0, 2, 10] (by kernel_rfl) hM ?_
  intro n4 next2 ih3 s1 hM
  refine tr_seq ?_
  refine tr_sr hT hm [] [0, 2, 10, 18] [(0, .d (iv a0)), (2, .d (.sl a1.length 0 (a1.flatMap eI.b))), (10, .d (iv s1)), (18, .d (bv (decide (s1 < (a1.length : Int)))))] .nil (by kernel_rfl) (by kernel_rfl) ?_
  rcases Bool.eq_false_or_eq_true (decide (s1 < (a1.length : Int))) with h5 | h5
  · have hM := ite_true' hM h5
    refine tr_condTe (e := decide (s1 < (a1.length : Int))) h5 (by kernel_rfl) ?_
    refine tr_skip (q_n ?_)
    refine tr_seq ?_
    refine tr_block ?_
    obtain ⟨y6, hy6, hM⟩ := bind_some' hM
    have hy6' := idx_some hy6
    rcases Bool.eq_false_or_eq_true (decide (y6 < 0)) with h7 | h7
    · have hM := ite_true' hM h7
      refine tr_sr hT hm [(3, .val (iv y6)), (5, .val (bv true))] [0, 2, 10, 48] [(0, .d (iv a0)), (2, .d (.sl a1.length 0 (a1.flatMap eI.b))), (10, .d (iv s1)), (48, .d (bv true))] (.cons hy6'.1 (.cons hy6'.2.1 (.cons (at_b0 eI_ok hy6'.2.2 (d := iv y6) (by kernel_rfl)) (.cons (congrArg (fun b => bv b) h7) .nil)))) (by kernel_rfl) (by kernel_rfl) ?_
      refine tr_condT (by kernel_rfl) ?_
      refine tr_sr hT hm [] [8] [(8, .d (bv false))] .nil (by kernel_rfl) (by kernel_rfl) ?_
      refine tr_ret (b_r (q_r (l_r (b_r (q_r (rg_r ?_))))))
      obtain rfl := Option.some.inj hM
      exact retg (names := []) .nil (by kernel_rfl)
    · have hM := ite_false' hM h7
      refine tr_sr hT hm [(3, .val (iv y6)), (5, .val (bv false)), (9, .val (iv y6))] [0, 2, 10, 48] [(0, .d (iv a0)), (2, .d (.sl a1.length 0 (a1.flatMap eI.b))), (10, .d (iv s1)), (48, .d (bv (decide (y6 ≥ a0))))] (.cons hy6'.1 (.cons hy6'.2.1 (.cons (at_b0 eI_ok hy6'.2.2 (d := iv y6) (by kernel_rfl)) (.cons (congrArg (fun b => bv b) h7) (.cons hy6'.1 (.cons hy6'.2.1 (.cons (at_b0 eI_ok hy6'.2.2 (d := iv y6) (by kernel_rfl)) .nil))))))) (by kernel_rfl) (by kernel_rfl) ?_
      rcases Bool.eq_false_or_eq_true (decide (y6 ≥ a0)) with h8 | h8
      · have hM := ite_true' hM h8
        refine tr_condTe (e := decide (y6 ≥ a0)) h8 (by kernel_rfl) ?_
        refine tr_sr hT hm [] [8] [(8, .d (bv false))] .nil (by kernel_rfl) (by kernel_rfl) ?_
        refine tr_ret (b_r (q_r (l_r (b_r (q_r (rg_r ?_))))))
        obtain rfl := Option.some.inj hM
        exact retg (names := []) .nil (by kernel_rfl)
      · have hM := ite_false' hM h8
        refine tr_condFe (e := decide (y6 ≥ a0)) h8 (by kernel_rfl) ?_
        refine tr_skip (b_n (q_n ?_))
        refine tr_r hT hm [] [0, 2, 10] [(0, .d (iv a0)), (2, .d (.sl a1.length 0 (a1.flatMap eI.b))), (10, .d (iv (IntKind.i64.wrap (s1 + 1))))] .nil (by kernel_rfl) (by kernel_rfl) (l_n ?_)
        exact trl_start (ks := [0, 2, 10]) (by kernel_rfl) (ih3 (IntKind.i64.wrap (s1 + 1)) hM)
  · have hM := ite_false' hM h5
    refine tr_condFe (e := decide (s1 < (a1.length : Int))) h5 (by kernel_rfl) ?_
    refine tr_exit (q_x (l_x (b_h (q_n ?_))))
    refine tr_sr hT hm [] [8] [(8, .d (bv true))] .nil (by kernel_rfl) (by kernel_rfl) ?_
    refine tr_ret (rg_r ?_)
    obtain rfl := Option.some.inj hM
    exact retg (names := []) .nil (by kernel_rfl)

theorem ok22 : CallOk Tryd.prog 22 := callOk_of Tryd.func22 (by kernel_rfl) (by kernel_rfl)
theorem spec_l36Path_c (a0 : XSchema) (a1 : XPath) (r : Bool) (hM : M.spec_l36Path a0 a1 = some r) :
    FnC Tryd.prog 22 [] [.agg (eXSchema.b a0), .agg (eXPath.b a1)] [] (bv r) := by
  refine fnc_startG (N := 58) (np := 500) hT Tryd.func22 rfl rfl (by kernel_rfl) ?_
  unfold M.spec_l36Path at hM
  refine tr_start (ks := [0, 2]) (st' := [(0, .d (.agg (eXSchema.b a0))), (2, .d (.agg (eXPath.b a1)))]) (by kernel_rfl) ?_
  refine tr_sr hT hm [] [4, 6, 2005, 2007] [(4, .d (.rp 1002 0)), (6, .d (.rp 1003 0)), bxB 2005 (eXSchema.b a0), bxB 2007 (eXPath.b a1)] .nil (by kernel_rfl) (by kernel_rfl) ?_
  refine tr_seq ?_
  obtain ⟨v1, hv1, hM⟩ := bind_some' hM
  rcases Bool.eq_false_or_eq_true v1 with h2 | h2
  · have hM := ite_true' hM h2
    rcases Bool.eq_false_or_eq_true (decide ((a1.Edges.length : Int) > 6)) with h3 | h3
    · have hM := ite_true' hM h3
      refine tr_sr hT hm [(5, .call [] [] [iv a1.Start, iv 0, iv (IntKind.i64.wrap (a0.Nodes - 1))] [] (bv v1)), (7, .val (bv false)), (13, .val (bv true))] [4, 6, 56, 2005, 2007] [(4, .d (.rp 1002 0)), (6, .d (.rp 1003 0)), (56, .d (bv true)), bxB 2005 (eXSchema.b a0), bxB 2007 (eXPath.b a1)] (cc0 ok20 (spec_l01In_c a1.Start 0 (IntKind.i64.wrap (a0.Nodes - 1)) _ hv1) (by kernel_rfl) (.cons (congrArg (fun b => bv b) (congrArg not h2)) (.cons (congrArg (fun b => bv b) h3) .nil))) (by kernel_rfl) (by kernel_rfl) ?_
      refine tr_condT (by kernel_rfl) ?_
      refine tr_sr hT hm [] [8] [(8, .d (bv false))] .nil (by kernel_rfl) (by kernel_rfl) ?_
      refine tr_ret (q_r (rg_r ?_))
      obtain rfl := Option.some.inj hM
      exact retg (names := []) .nil (by kernel_rfl)
    · have hM := ite_false' hM h3
      obtain ⟨v4, hv4, hM⟩ := bind_some' hM
      refine tr_sr hT hm [(5, .call [] [] [iv a1.Start, iv 0, iv (IntKind.i64.wrap (a0.Nodes - 1))] [] (bv v1)), (7, .val (bv false)), (13, .val (bv false)), (19, .call [] [] [iv (a0.From.length : Int), .sl a1.Edges.length 0 (a1.Edges.flatMap eI.b)] [] (bv v4))] [4, 6, 56, 2005, 2007] [(4, .d (.rp 1002 0)), (6, .d (.rp 1003 0)), (56, .d (bv (!v4))), bxB 2005 (eXSchema.b a0), bxB 2007 (eXPath.b a1)] (cc0 ok20 (spec_l01In_c a1.Start 0 (IntKind.i64.wrap (a0.Nodes - 1)) _ hv1) (by kernel_rfl) (.cons (congrArg (fun b => bv b) (congrArg not h2)) (.cons (congrArg (fun b => bv b) h3) (cc0 ok21 (spec_l01Map_c (a0.From.length : Int) a1.Edges _ hv4) (by kernel_rfl) .nil)))) (by kernel_rfl) (by kernel_rfl) ?_
      rcases Bool.eq_false_or_eq_true v4 with h5 | h5
      · have hM := ite_true' hM h5
        refine tr_condFe (e := !v4) (congrArg not h5) (by kernel_rfl) ?_
        refine tr_skip (q_n ?_)
        refine tr_sr hT hm [] [4, 6, 10, 2005, 2007] [(4, .d (.rp 1002 0)), (6, .d (.rp 1003 0)), (10, .d (iv a1.Start)), bxB 2005 (eXSchema.b a0), bxB 2007 (eXPath.b a1)] .nil (by kernel_rfl) (by kernel_rfl) ?_
        refine tr_seq ?_
        refine tr_sr hT hm [] [4, 6, 10, 12, 2005, 2007] [(4, .d (.rp 1002 0)), (6, .d (.rp 1003 0)), (10, .d (iv a1.Start)), (12, .d (iv 0)), bxB 2005 (eXSchema.b a0), bxB 2007 (eXPath.b a1)] .nil (by kernel_rfl) (by kernel_rfl) ?_
        refine tr_block ?_
        refine tr_iterS (fun (s6 : Int × Int) => [(4, .d (.rp 1002 0)), (6, .d (.rp 1003 0)), (10, .d (iv s6.1)), (12, .d (iv s6.2)), bxB 2005 (eXSchema.b a0), bxB 2007 (eXPath.b a1)]) (a1.Start, 0) [4, 6, 10, 12, 2005, 2007] (by kernel_rfl) hM ?_
        intro n9 next7 ih8 s6 hM
        refine tr_seq ?_
        refine tr_sr hT hm [] [4, 6, 10, 12, 70, 2005, 2007] [(4, .d (.rp 1002 0)), (6, .d (.rp 1003 0)), (10, .d (iv s6.1)), (12, .d (iv s6.2)), (70, .d (bv (decide (s6.2 < (a1.Edges.length : Int))))), bxB 2005 (eXSchema.b a0), bxB 2007 (eXPath.b a1)] .nil (by kernel_rfl) (by kernel_rfl) ?_
        rcases Bool.eq_false_or_eq_true (decide (s6.2 < (a1.Edges.length : Int))) with h10 | h10
        · have hM := ite_true' hM h10
          refine tr_condTe (e := decide (s6.2 < (a1.Edges.length : Int))) h10 (by kernel_rfl) ?_
          refine tr_skip (q_n ?_)
          refine tr_seq ?_
          refine tr_block ?_
          refine tr_seq ?_
          obtain ⟨y11, hy11, hM⟩ := bind_some' hM
          have hy11' := idx_some hy11
          obtain ⟨y12, hy12, hM⟩ := bind_some' hM
          have hy12' := idx_some hy12
          refine tr_sr hT hm [(6, .val (iv y11)), (8, .val (iv y12))] [4, 6, 12, 96, 2005, 2007] [(4, .d (.rp 1002 0)), (6, .d (.rp 1003 0)), (12, .d (iv s6.2)), (96, .d (bv (y12 != s6.1))), bxB 2005 (eXSchema.b a0), bxB 2007 (eXPath.b a1)] (.cons hy11'.1 (.cons hy11'.2.1 (.cons (at_b0 eI_ok hy11'.2.2 (d := iv y11) (by kernel_rfl)) (.cons hy12'.1 (.cons hy12'.2.1 (.cons (at_b0 eI_ok hy12'.2.2 (d := iv y12) (by kernel_rfl)) .nil)))))) (by kernel_rfl) (by kernel_rfl) ?_
          rcases Bool.eq_false_or_eq_true (y12 != s6.1) with h13 | h13
          · have hM := ite_true' hM h13
            refine tr_condTe (e := y12 != s6.1) h13 (by kernel_rfl) ?_
            refine tr_sr hT hm [] [8] [(8, .d (bv false))] .nil (by kernel_rfl) (by kernel_rfl) ?_
            refine tr_ret (q_r (b_r (q_r (l_r (b_r (q_r (rg_r ?_)))))))
            obtain rfl := Option.some.inj hM
            exact retg (names := []) .nil (by kernel_rfl)
          · have hM := ite_false' hM h13
            refine tr_condFe (e := y12 != s6.1) h13 (by kernel_rfl) ?_
            refine tr_skip (q_n ?_)
            obtain ⟨y14, hy14, hM⟩ := bind_some' hM
            have hy14' := idx_some hy14
            refine tr_r hT hm [(6, .val (iv y11)), (8, .val (iv y14))] [4, 6, 10, 12, 2005, 2007] [(4, .d (.rp 1002 0)), (6, .d (.rp 1003 0)), (10, .d (iv y14)), (12, .d (iv s6.2)), bxB 2005 (eXSchema.b a0), bxB 2007 (eXPath.b a1)] (.cons hy11'.1 (.cons hy11'.2.1 (.cons (at_b0 eI_ok hy11'.2.2 (d := iv y11) (by kernel_rfl)) (.cons hy14'.1 (.cons hy14'.2.1 (.cons (at_b0 eI_ok hy14'.2.2 (d := iv y14) (by kernel_rfl)) .nil)))))) (by kernel_rfl) (by kernel_rfl) (b_n (q_n ?_))
            refine tr_r hT hm [] [4, 6, 10, 12, 2005, 2007] [(4, .d (.rp 1002 0)), (6, .d (.rp 1003 0)), (10, .d (iv y14)), (12, .d (iv (IntKind.i64.wrap (s6.2 + 1)))), bxB 2005 (eXSchema.b a0), bxB 2007 (eXPath.b a1)] .nil (by kernel_rfl) (by kernel_rfl) (l_n ?_)
            exact trl_start (ks := [4, 6, 10, 12, 2005, 2007]) (by kernel_rfl) (ih8 (y14, IntKind.i64.wrap (s6.2 + 1)) hM)
        · have hM := ite_false' hM h10
          refine tr_condFe (e := decide (s6.2 < (a1.Edges.length : Int))) h10 (by kernel_rfl) ?_
          refine tr_exit (q_x (l_x (b_h (q_n ?_))))
          refine tr_sr hT hm [] [8] [(8, .d (bv true))] .nil (by kernel_rfl) (by kernel_rfl) ?_
          refine tr_ret (rg_r ?_)
          obtain rfl := Option.some.inj hM
          exact retg (names := []) .nil (by kernel_rfl)
      · have hM := ite_false' hM h5
        refine tr_condTe (e := !v4) (congrArg not h5) (by kernel_rfl) ?_
        refine tr_sr hT hm [] [8] [(8, .d (bv false))] .nil (by kernel_rfl) (by kernel_rfl) ?_
        refine tr_ret (q_r (rg_r ?_))
        obtain rfl := Option.some.inj hM
        exact retg (names := []) .nil (by kernel_rfl)
  · have hM := ite_false' hM h2
    refine tr_sr hT hm [(5, .call [] [] [iv a1.Start, iv 0, iv (IntKind.i64.wrap (a0.Nodes - 1))] [] (bv v1)), (7, .val (bv true))] [4, 6, 56, 2005, 2007] [(4, .d (.rp 1002 0)), (6, .d (.rp 1003 0)), (56, .d (bv true)), bxB 2005 (eXSchema.b a0), bxB 2007 (eXPath.b a1)] (cc0 ok20 (spec_l01In_c a1.Start 0 (IntKind.i64.wrap (a0.Nodes - 1)) _ hv1) (by kernel_rfl) (.cons (congrArg (fun b => bv b) (congrArg not h2)) .nil)) (by kernel_rfl) (by kernel_rfl) ?_
    refine tr_condT (by kernel_rfl) ?_
    refine tr_sr hT hm [] [8] [(8, .d (bv false))] .nil (by kernel_rfl) (by kernel_rfl) ?_
    refine tr_ret (q_r (rg_r ?_))
    obtain rfl := Option.some.inj hM
    exact retg (names := []) .nil (by kernel_rfl)

theorem ok23 : CallOk Tryd.prog 23 := callOk_of Tryd.func23 (by kernel_rfl) (by kernel_rfl)
theorem spec_l36End_c (a0 : XSchema) (a1 : XPath) (r : Int) (hM : M.spec_l36End a0 a1 = some r) :
    FnC Tryd.prog 23 [] [.agg (eXSchema.b a0), .agg (eXPath.b a1)] [] (iv r) := by
  refine fnc_startG (N := 23) (np := 500) hT Tryd.func23 rfl rfl (by kernel_rfl) ?_
  unfold M.spec_l36End at hM
  refine tr_start (ks := [0, 2]) (st' := [(0, .d (.agg (eXSchema.b a0))), (2, .d (.agg (eXPath.b a1)))]) (by kernel_rfl) ?_
  refine tr_sr hT hm [] [4, 6, 2005, 2007] [(4, .d (.rp 1002 0)), (6, .d (.rp 1003 0)), bxB 2005 (eXSchema.b a0), bxB 2007 (eXPath.b a1)] .nil (by kernel_rfl) (by kernel_rfl) ?_
  refine tr_seq ?_
  refine tr_sr hT hm [] [4, 6, 16, 2005, 2007] [(4, .d (.rp 1002 0)), (6, .d (.rp 1003 0)), (16, .d (bv ((a1.Edges.length : Int) == 0))), bxB 2005 (eXSchema.b a0), bxB 2007 (eXPath.b a1)] .nil (by kernel_rfl) (by kernel_rfl) ?_
  rcases Bool.eq_false_or_eq_true ((a1.Edges.length : Int) == 0) with h1 | h1
  · have hM := ite_true' hM h1
    refine tr_condTe (e := (a1.Edges.length : Int) == 0) h1 (by kernel_rfl) ?_
    refine tr_sr hT hm [] [8] [(8, .d (iv a1.Start))] .nil (by kernel_rfl) (by kernel_rfl) ?_
    refine tr_ret (q_r (rg_r ?_))
    obtain rfl := Option.some.inj hM
    exact retg (names := []) .nil (by kernel_rfl)
  · have hM := ite_false' hM h1
    refine tr_condFe (e := (a1.Edges.length : Int) == 0) h1 (by kernel_rfl) ?_
    refine tr_skip (q_n ?_)
    obtain ⟨y2, hy2, hM⟩ := bind_some' hM
    have hy2' := idx_some hy2
    obtain ⟨y3, hy3, hM⟩ := bind_some' hM
    have hy3' := idx_some hy3
    refine tr_sr hT hm [(9, .val (iv y2)), (11, .val (iv y3))] [8] [(8, .d (iv y3))] (.cons hy2'.1 (.cons hy2'.2.1 (.cons (at_b0 eI_ok hy2'.2.2 (d := iv y2) (by kernel_rfl)) (.cons hy3'.1 (.cons hy3'.2.1 (.cons (at_b0 eI_ok hy3'.2.2 (d := iv y3) (by kernel_rfl)) .nil)))))) (by kernel_rfl) (by kernel_rfl) ?_
    refine tr_ret (rg_r ?_)
    obtain rfl := Option.some.inj hM
    exact retg (names := []) .nil (by kernel_rfl)

theorem ok11 : CallOk Tryd.prog 11 := callOk_of Tryd.func11 (by kernel_rfl) (by kernel_rfl)
theorem spec_IsSchema_c (a0 : XSchema) (r : Bool) (hM : M.spec_IsSchema a0 = some r) :
    FnC Tryd.prog 11 [] [.agg (eXSchema.b a0)] [] (bv r) := by
  refine fnc_startG (N := 99) (np := 500) hT Tryd.func11 rfl rfl (by kernel_rfl) ?_
  unfold M.spec_IsSchema at hM
  refine tr_start (ks := [0]) (st' := [(0, .d (.agg (eXSchema.b a0)))]) (by kernel_rfl) ?_
  refine tr_sr hT hm [] [2, 2003] [(2, .d (.rp 1001 0)), bxB 2003 (eXSchema.b a0)] .nil (by kernel_rfl) (by kernel_rfl) ?_
  refine tr_seq ?_
  obtain ⟨v1, hv1, hM⟩ := bind_some' hM
  rcases Bool.eq_false_or_eq_true v1 with h2 | h2
  · have hM := ite_true' hM h2
    rcases Bool.eq_false_or_eq_true (decide ((a0.From.length : Int) > 8)) with h3 | h3
    · have hM := ite_true' hM h3
      refine tr_sr hT hm [(2, .call [] [] [iv a0.Nodes, iv 0, iv 8] [] (bv v1)), (4, .val (bv false)), (10, .val (bv true))] [2, 110, 2003] [(2, .d (.rp 1001 0)), (110, .d (bv true)), bxB 2003 (eXSchema.b a0)] (cc0 ok20 (spec_l01In_c a0.Nodes 0 8 _ hv1) (by kernel_rfl) (.cons (congrArg (fun b => bv b) (congrArg not h2)) (.cons (congrArg (fun b => bv b) h3) .nil))) (by kernel_rfl) (by kernel_rfl) ?_
      refine tr_condT (by kernel_rfl) ?_
      refine tr_sr hT hm [] [4] [(4, .d (bv false))] .nil (by kernel_rfl) (by kernel_rfl) ?_
      refine tr_ret (q_r (rg_r ?_))
      obtain rfl := Option.some.inj hM
      exact retg (names := []) .nil (by kernel_rfl)
    · have hM := ite_false' hM h3
      rcases Bool.eq_false_or_eq_true ((a0.To.length : Int) != (a0.From.length : Int)) with h4 | h4
      · have hM := ite_true' hM h4
        refine tr_sr hT hm [(2, .call [] [] [iv a0.Nodes, iv 0, iv 8] [] (bv v1)), (4, .val (bv false)), (10, .val (bv false)), (19, .val (bv true))] [2, 110, 2003] [(2, .d (.rp 1001 0)), (110, .d (bv true)), bxB 2003 (eXSchema.b a0)] (cc0 ok20 (spec_l01In_c a0.Nodes 0 8 _ hv1) (by kernel_rfl) (.cons (congrArg (fun b => bv b) (congrArg not h2)) (.cons (congrArg (fun b => bv b) h3) (.cons (congrArg (fun b => bv b) h4) .nil)))) (by kernel_rfl) (by kernel_rfl) ?_
        refine tr_condT (by kernel_rfl) ?_
        refine tr_sr hT hm [] [4] [(4, .d (bv false))] .nil (by kernel_rfl) (by kernel_rfl) ?_
        refine tr_ret (q_r (rg_r ?_))
        obtain rfl := Option.some.inj hM
        exact retg (names := []) .nil (by kernel_rfl)
      · have hM := ite_false' hM h4
        obtain ⟨v5, hv5, hM⟩ := bind_some' hM
        rcases Bool.eq_false_or_eq_true v5 with h6 | h6
        · have hM := ite_true' hM h6
          obtain ⟨v7, hv7, hM⟩ := bind_some' hM
          rcases Bool.eq_false_or_eq_true v7 with h8 | h8
          · have hM := ite_true' hM h8
            rcases Bool.eq_false_or_eq_true (decide ((a0.Left.length : Int) > 8)) with h9 | h9
            · have hM := ite_true' hM h9
              refine tr_sr hT hm [(2, .call [] [] [iv a0.Nodes, iv 0, iv 8] [] (bv v1)), (4, .val (bv false)), (10, .val (bv false)), (19, .val (bv false)), (24, .call [] [] [iv a0.Nodes, .sl a0.From.length 0 (a0.From.flatMap eI.b)] [] (bv v5)), (27, .val (bv false)), (32, .call [] [] [iv a0.Nodes, .sl a0.To.length 0 (a0.To.flatMap eI.b)] [] (bv v7)), (35, .val (bv false)), (41, .val (bv true))] [2, 110, 2003] [(2, .d (.rp 1001 0)), (110, .d (bv true)), bxB 2003 (eXSchema.b a0)] (cc0 ok20 (spec_l01In_c a0.Nodes 0 8 _ hv1) (by kernel_rfl) (.cons (congrArg (fun b => bv b) (congrArg not h2)) (.cons (congrArg (fun b => bv b) h3) (.cons (congrArg (fun b => bv b) h4) (cc0 ok21 (spec_l01Map_c a0.Nodes a0.From _ hv5) (by kernel_rfl) (.cons (congrArg (fun b => bv b) (congrArg not h6)) (cc0 ok21 (spec_l01Map_c a0.Nodes a0.To _ hv7) (by kernel_rfl) (.cons (congrArg (fun b => bv b) (congrArg not h8)) (.cons (congrArg (fun b => bv b) h9) .nil))))))))) (by kernel_rfl) (by kernel_rfl) ?_
              refine tr_condT (by kernel_rfl) ?_
              refine tr_sr hT hm [] [4] [(4, .d (bv false))] .nil (by kernel_rfl) (by kernel_rfl) ?_
              refine tr_ret (q_r (rg_r ?_))
              obtain rfl := Option.some.inj hM
              exact retg (names := []) .nil (by kernel_rfl)
            · have hM := ite_false' hM h9
              refine tr_sr hT hm [(2, .call [] [] [iv a0.Nodes, iv 0, iv 8] [] (bv v1)), (4, .val (bv false)), (10, .val (bv false)), (19, .val (bv false)), (24, .call [] [] [iv a0.Nodes, .sl a0.From.length 0 (a0.From.flatMap eI.b)] [] (bv v5)), (27, .val (bv false)), (32, .call [] [] [iv a0.Nodes, .sl a0.To.length 0 (a0.To.flatMap eI.b)] [] (bv v7)), (35, .val (bv false)), (41, .val (bv false))] [2, 110, 2003] [(2, .d (.rp 1001 0)), (110, .d (bv ((a0.Right.length : Int) != (a0.Left.length : Int)))), bxB 2003 (eXSchema.b a0)] (cc0 ok20 (spec_l01In_c a0.Nodes 0 8 _ hv1) (by kernel_rfl) (.cons (congrArg (fun b => bv b) (congrArg not h2)) (.cons (congrArg (fun b => bv b) h3) (.cons (congrArg (fun b => bv b) h4) (cc0 ok21 (spec_l01Map_c a0.Nodes a0.From _ hv5) (by kernel_rfl) (.cons (congrArg (fun b => bv b) (congrArg not h6)) (cc0 ok21 (spec_l01Map_c a0.Nodes a0.To _ hv7) (by kernel_rfl) (.cons (congrArg (fun b => bv b) (congrArg not h8)) (.cons (congrArg (fun b => bv b) h9) .nil))))))))) (by kernel_rfl) (by kernel_rfl) ?_
              rcases Bool.eq_false_or_eq_true ((a0.Right.length : Int) != (a0.Left.length : Int)) with h10 | h10
              · have hM := ite_true' hM h10
                refine tr_condTe (e := (a0.Right.length : Int) != (a0.Left.length : Int)) h10 (by kernel_rfl) ?_
                refine tr_sr hT hm [] [4] [(4, .d (bv false))] .nil (by kernel_rfl) (by kernel_rfl) ?_
                refine tr_ret (q_r (rg_r ?_))
                obtain rfl := Option.some.inj hM
                exact retg (names := []) .nil (by kernel_rfl)
              · have hM := ite_false' hM h10
                refine tr_condFe (e := (a0.Right.length : Int) != (a0.Left.length : Int)) h10 (by kernel_rfl) ?_
                refine tr_skip (q_n ?_)
                refine tr_seq ?_
                refine tr_sr hT hm [] [2, 6, 2003] [(2, .d (.rp 1001 0)), (6, .d (iv 0)), bxB 2003 (eXSchema.b a0)] .nil (by kernel_rfl) (by kernel_rfl) ?_
                refine tr_block ?_
                refine tr_iterS (fun (s11 : Int) => [(2, .d (.rp 1001 0)), (6, .d (iv s11)), bxB 2003 (eXSchema.b a0)]) 0 [2, 6, 2003] (by kernel_rfl) hM ?_
                intro n14 next12 ih13 s11 hM
                refine tr_seq ?_
                refine tr_sr hT hm [] [2, 6, 120, 2003] [(2, .d (.rp 1001 0)), (6, .d (iv s11)), (120, .d (bv (decide (s11 < (a0.Left.length : Int))))), bxB 2003 (eXSchema.b a0)] .nil (by kernel_rfl) (by kernel_rfl) ?_
                rcases Bool.eq_false_or_eq_true (decide (s11 < (a0.Left.length : Int))) with h15 | h15
                · have hM := ite_true' hM h15
                  refine tr_condTe (e := decide (s11 < (a0.Left.length : Int))) h15 (by kernel_rfl) ?_
                  refine tr_skip (q_n ?_)
                  refine tr_seq ?_
                  refine tr_block ?_
                  obtain ⟨y16, hy16, hM⟩ := bind_some' hM
                  have hy16' := idx_some hy16
                  obtain ⟨y17, hy17, hM⟩ := bind_some' hM
                  have hy17' := idx_some hy17
                  refine tr_sr hT hm [(4, .val (.agg [iv y16.Start, .sl y16.Edges.length 0 (y16.Edges.flatMap eI.b)])), (9, .val (.agg [iv y17.Start, .sl y17.Edges.length 0 (y17.Edges.flatMap eI.b)]))] [2, 6, 8, 10, 2003, 2009, 2011] [(2, .d (.rp 1001 0)), (6, .d (iv s11)), (8, .d (.rp 1004 0)), (10, .d (.rp 1005 0)), bxB 2003 (eXSchema.b a0), bxB 2009 (eXPath.b y16), bxB 2011 (eXPath.b y17)] (.cons hy16'.1 (.cons hy16'.2.1 (.cons (sub_b eXPath_ok hy16'.2.2) (.cons hy17'.1 (.cons hy17'.2.1 (.cons (sub_b eXPath_ok hy17'.2.2) (.cons (Nat.le_of_ble_eq_true (n := 2) (m := 2) rfl) (.cons (Nat.le_of_ble_eq_true (n := 2) (m := 2) rfl) .nil)))))))) (by kernel_rfl) (by kernel_rfl) ?_
                  obtain ⟨v18, hv18, hM⟩ := bind_some' hM
                  rcases Bool.eq_false_or_eq_true v18 with h19 | h19
                  · have hM := ite_true' hM h19
                    obtain ⟨v20, hv20, hM⟩ := bind_some' hM
                    rcases Bool.eq_false_or_eq_true v20 with h21 | h21
                    · have hM := ite_true' hM h21
                      rcases Bool.eq_false_or_eq_true (y16.Start != y17.Start) with h22 | h22
                      · have hM := ite_true' hM h22
                        refine tr_sr hT hm [(2, .call [] [] [.agg (eXSchema.b a0), .agg (eXPath.b y16)] [] (bv v18)), (4, .val (bv false)), (7, .call [] [] [.agg (eXSchema.b a0), .agg (eXPath.b y17)] [] (bv v20)), (10, .val (bv false)), (17, .val (bv true))] [2, 6, 196, 2003] [(2, .d (.rp 1001 0)), (6, .d (iv s11)), (196, .d (bv true)), bxB 2003 (eXSchema.b a0)] (cc0 ok22 (spec_l36Path_c a0 y16 _ hv18) (by kernel_rfl) (.cons (congrArg (fun b => bv b) (congrArg not h19)) (cc0 ok22 (spec_l36Path_c a0 y17 _ hv20) (by kernel_rfl) (.cons (congrArg (fun b => bv b) (congrArg not h21)) (.cons (congrArg (fun b => bv b) h22) .nil))))) (by kernel_rfl) (by kernel_rfl) ?_
                        refine tr_condT (by kernel_rfl) ?_
                        refine tr_sr hT hm [] [4] [(4, .d (bv false))] .nil (by kernel_rfl) (by kernel_rfl) ?_
                        refine tr_ret (b_r (q_r (l_r (b_r (q_r (rg_r ?_))))))
                        obtain rfl := Option.some.inj hM
                        exact retg (names := []) .nil (by kernel_rfl)
                      · have hM := ite_false' hM h22
                        obtain ⟨v23, hv23, hM⟩ := bind_some' hM
                        obtain ⟨v24, hv24, hM⟩ := bind_some' hM
                        refine tr_sr hT hm [(2, .call [] [] [.agg (eXSchema.b a0), .agg (eXPath.b y16)] [] (bv v18)), (4, .val (bv false)), (7, .call [] [] [.agg (eXSchema.b a0), .agg (eXPath.b y17)] [] (bv v20)), (10, .val (bv false)), (17, .val (bv false)), (20, .call [] [] [.agg (eXSchema.b a0), .agg (eXPath.b y16)] [] (iv v23)), (23, .call [] [] [.agg (eXSchema.b a0), .agg (eXPath.b y17)] [] (iv v24))] [2, 6, 196, 2003] [(2, .d (.rp 1001 0)), (6, .d (iv s11)), (196, .d (bv (v23 != v24))), bxB 2003 (eXSchema.b a0)] (cc0 ok22 (spec_l36Path_c a0 y16 _ hv18) (by kernel_rfl) (.cons (congrArg (fun b => bv b) (congrArg not h19)) (cc0 ok22 (spec_l36Path_c a0 y17 _ hv20) (by kernel_rfl) (.cons (congrArg (fun b => bv b) (congrArg not h21)) (.cons (congrArg (fun b => bv b) h22) (cc0 ok23 (spec_l36End_c a0 y16 _ hv23) (by kernel_rfl) (cc0 ok23 (spec_l36End_c a0 y17 _ hv24) (by kernel_rfl) .nil))))))) (by kernel_rfl) (by kernel_rfl) ?_
                        rcases Bool.eq_false_or_eq_true (v23 != v24) with h25 | h25
                        · have hM := ite_true' hM h25
                          refine tr_condTe (e := v23 != v24) h25 (by kernel_rfl) ?_
                          refine tr_sr hT hm [] [4] [(4, .d (bv false))] .nil (by kernel_rfl) (by kernel_rfl) ?_
                          refine tr_ret (b_r (q_r (l_r (b_r (q_r (rg_r ?_))))))
                          obtain rfl := Option.some.inj hM
                          exact retg (names := []) .nil (by kernel_rfl)
                        · have hM := ite_false' hM h25
                          refine tr_condFe (e := v23 != v24) h25 (by kernel_rfl) ?_
                          refine tr_skip (b_n (q_n ?_))
                          refine tr_r hT hm [] [2, 6, 2003] [(2, .d (.rp 1001 0)), (6, .d (iv (IntKind.i64.wrap (s11 + 1)))), bxB 2003 (eXSchema.b a0)] .nil (by kernel_rfl) (by kernel_rfl) (l_n ?_)
                          exact trl_start (ks := [2, 6, 2003]) (by kernel_rfl) (ih13 (IntKind.i64.wrap (s11 + 1)) hM)
                    · have hM := ite_false' hM h21
                      refine tr_sr hT hm [(2, .call [] [] [.agg (eXSchema.b a0), .agg (eXPath.b y16)] [] (bv v18)), (4, .val (bv false)), (7, .call [] [] [.agg (eXSchema.b a0), .agg (eXPath.b y17)] [] (bv v20)), (10, .val (bv true))] [2, 6, 196, 2003] [(2, .d (.rp 1001 0)), (6, .d (iv s11)), (196, .d (bv true)), bxB 2003 (eXSchema.b a0)] (cc0 ok22 (spec_l36Path_c a0 y16 _ hv18) (by kernel_rfl) (.cons (congrArg (fun b => bv b) (congrArg not h19)) (cc0 ok22 (spec_l36Path_c a0 y17 _ hv20) (by kernel_rfl) (.cons (congrArg (fun b => bv b) (congrArg not h21)) .nil)))) (by kernel_rfl) (by kernel_rfl) ?_
                      refine tr_condT (by kernel_rfl) ?_
                      refine tr_sr hT hm [] [4] [(4, .d (bv false))] .nil (by kernel_rfl) (by kernel_rfl) ?_
                      refine tr_ret (b_r (q_r (l_r (b_r (q_r (rg_r ?_))))))
                      obtain rfl := Option.some.inj hM
                      exact retg (names := []) .nil (by kernel_rfl)
                  · have hM := ite_false' hM h19
                    refine tr_sr hT hm [(2, .call [] [] [.agg (eXSchema.b a0), .agg (eXPath.b y16)] [] (bv v18)), (4, .val (bv true))] [2, 6, 196, 2003] [(2, .d (.rp 1001 0)), (6, .d (iv s11)), (196, .d (bv true)), bxB 2003 (eXSchema.b a0)] (cc0 ok22 (spec_l36Path_c a0 y16 _ hv18) (by kernel_rfl) (.cons (congrArg (fun b => bv b) (congrArg not h19)) .nil)) (by kernel_rfl) (by kernel_rfl) ?_
                    refine tr_condT (by kernel_rfl) ?_
                    refine tr_sr hT hm [] [4] [(4, .d (bv false))] .nil (by kernel_rfl) (by kernel_rfl) ?_
                    refine tr_ret (b_r (q_r (l_r (b_r (q_r (rg_r ?_))))))
                    obtain rfl := Option.some.inj hM
                    exact retg (names := []) .nil (by kernel_rfl)
                · have hM := ite_false' hM h15
                  refine tr_condFe (e := decide (s11 < (a0.Left.length : Int))) h15 (by kernel_rfl) ?_
                  refine tr_exit (q_x (l_x (b_h (q_n ?_))))
                  refine tr_sr hT hm [] [4] [(4, .d (bv true))] .nil (by kernel_rfl) (by kernel_rfl) ?_
                  refine tr_ret (rg_r ?_)
                  obtain rfl := Option.some.inj hM
                  exact retg (names := []) .nil (by kernel_rfl)
          · have hM := ite_false' hM h8
            refine tr_sr hT hm [(2, .call [] [] [iv a0.Nodes, iv 0, iv 8] [] (bv v1)), (4, .val (bv false)), (10, .val (bv false)), (19, .val (bv false)), (24, .call [] [] [iv a0.Nodes, .sl a0.From.length 0 (a0.From.flatMap eI.b)] [] (bv v5)), (27, .val (bv false)), (32, .call [] [] [iv a0.Nodes, .sl a0.To.length 0 (a0.To.flatMap eI.b)] [] (bv v7)), (35, .val (bv true))] [2, 110, 2003] [(2, .d (.rp 1001 0)), (110, .d (bv true)), bxB 2003 (eXSchema.b a0)] (cc0 ok20 (spec_l01In_c a0.Nodes 0 8 _ hv1) (by kernel_rfl) (.cons (congrArg (fun b => bv b) (congrArg not h2)) (.cons (congrArg (fun b => bv b) h3) (.cons (congrArg (fun b => bv b) h4) (cc0 ok21 (spec_l01Map_c a0.Nodes a0.From _ hv5) (by kernel_rfl) (.cons (congrArg (fun b => bv b) (congrArg not h6)) (cc0 ok21 (spec_l01Map_c a0.Nodes a0.To _ hv7) (by kernel_rfl) (.cons (congrArg (fun b => bv b) (congrArg not h8)) .nil)))))))) (by kernel_rfl) (by kernel_rfl) ?_
            refine tr_condT (by kernel_rfl) ?_
            refine tr_sr hT hm [] [4] [(4, .d (bv false))] .nil (by kernel_rfl) (by kernel_rfl) ?_
            refine tr_ret (q_r (rg_r ?_))
            obtain rfl := Option.some.inj hM
            exact retg (names := []) .nil (by kernel_rfl)
        · have hM := ite_false' hM h6
          refine tr_sr hT hm [(2, .call [] [] [iv a0.Nodes, iv 0, iv 8] [] (bv v1)), (4, .val (bv false)), (10, .val (bv false)), (19, .val (bv false)), (24, .call [] [] [iv a0.Nodes, .sl a0.From.length 0 (a0.From.flatMap eI.b)] [] (bv v5)), (27, .val (bv true))] [2, 110, 2003] [(2, .d (.rp 1001 0)), (110, .d (bv true)), bxB 2003 (eXSchema.b a0)] (cc0 ok20 (spec_l01In_c a0.Nodes 0 8 _ hv1) (by kernel_rfl) (.cons (congrArg (fun b => bv b) (congrArg not h2)) (.cons (congrArg (fun b => bv b) h3) (.cons (congrArg (fun b => bv b) h4) (cc0 ok21 (spec_l01Map_c a0.Nodes a0.From _ hv5) (by kernel_rfl) (.cons (congrArg (fun b => bv b) (congrArg not h6)) .nil)))))) (by kernel_rfl) (by kernel_rfl) ?_
          refine tr_condT (by kernel_rfl) ?_
          refine tr_sr hT hm [] [4] [(4, .d (bv false))] .nil (by kernel_rfl) (by kernel_rfl) ?_
          refine tr_ret (q_r (rg_r ?_))
          obtain rfl := Option.some.inj hM
          exact retg (names := []) .nil (by kernel_rfl)
  · have hM := ite_false' hM h2
    refine tr_sr hT hm [(2, .call [] [] [iv a0.Nodes, iv 0, iv 8] [] (bv v1)), (4, .val (bv true))] [2, 110, 2003] [(2, .d (.rp 1001 0)), (110, .d (bv true)), bxB 2003 (eXSchema.b a0)] (cc0 ok20 (spec_l01In_c a0.Nodes 0 8 _ hv1) (by kernel_rfl) (.cons (congrArg (fun b => bv b) (congrArg not h2)) .nil)) (by kernel_rfl) (by kernel_rfl) ?_
    refine tr_condT (by kernel_rfl) ?_
    refine tr_sr hT hm [] [4] [(4, .d (bv false))] .nil (by kernel_rfl) (by kernel_rfl) ?_
    refine tr_ret (q_r (rg_r ?_))
    obtain rfl := Option.some.inj hM
    exact retg (names := []) .nil (by kernel_rfl)

theorem ok13 : CallOk Tryd.prog 13 := callOk_of Tryd.func13 (by kernel_rfl) (by kernel_rfl)
theorem laws_toInt64S_c (a0 : List Int) (r : (List Int)) (hM : M.laws_toInt64S a0 = some r) :
    FnC Tryd.prog 13 [] [.sl a0.length 0 (a0.flatMap eI.b)] [] (.fr 1 r.length (r.flatMap eI.o)) := by
  refine fnc_startG (N := 22) (np := 500) hT Tryd.func13 rfl rfl (by kernel_rfl) ?_
  unfold M.laws_toInt64S at hM
  refine tr_start (ks := [0]) (st' := [(0, .d (.sl a0.length 0 (a0.flatMap eI.b)))]) (by kernel_rfl) ?_
  refine tr_sr hT hm [] [0] [(0, .d (.sl a0.length 0 (a0.flatMap eI.b)))] .nil (by kernel_rfl) (by kernel_rfl) ?_
  obtain ⟨h1, hM⟩ := chk_some hM
  refine tr_sr hT hm [] [0, 6, 2015] [(0, .d (.sl a0.length 0 (a0.flatMap eI.b))), (6, .d (.rs 1007 0 ((a0.length : Int).toNat))), (2015, .r (.arr 1 (repl (a0.length : Int).toNat [.int .i64 0]) []))] (.cons h1.1 (.cons (Int.le_refl (a0.length : Int)) (.cons h1.2 .nil))) (by kernel_rfl) (by kernel_rfl) ?_
  refine Tr.by (imp_cvE (r := 1007) (sz := 1) (refs := []) (repl_flat (f := eI.o) (zs := [.int .i64 0]) (z := (0 : Int)) rfl (a0.length : Int).toNat) (menO_flat eI_ok _) (by kernel_rfl)) ?_
  refine Tr.by (imp_cvD (k := 6) (congrArg (D.rs 1007 0) (List.length_replicate.symm : (a0.length : Int).toNat = (List.replicate (a0.length : Int).toNat (0 : Int)).length)) (by kernel_rfl)) ?_
  refine tr_seq ?_
  refine tr_sr hT hm [] [0, 6, 8, 2015] [(0, .d (.sl a0.length 0 (a0.flatMap eI.b))), (6, .d (.rs 1007 0 ((List.replicate (a0.length : Int).toNat (0 : Int)).length))), (8, .d (iv 0)), (2015, .r (.arr 1 ((List.replicate (a0.length : Int).toNat (0 : Int)).flatMap eI.o) []))] .nil (by kernel_rfl) (by kernel_rfl) ?_
  refine tr_block ?_
  refine tr_iterS (fun (s2 : (List Int) × Int) => [(0, .d (.sl a0.length 0 (a0.flatMap eI.b))), (6, .d (.rs 1007 0 s2.1.length)), (8, .d (iv s2.2)), (2015, .r (.arr 1 (s2.1.flatMap eI.o) []))]) ((List.replicate (a0.length : Int).toNat (0 : Int)), 0) [0, 6, 8, 2015] (by kernel_rfl) hM ?_
  intro n5 next3 ih4 s2 hM
  refine tr_seq ?_
  refine tr_sr hT hm [] [0, 6, 8, 22, 2015] [(0, .d (.sl a0.length 0 (a0.flatMap eI.b))), (6, .d (.rs 1007 0 s2.1.length)), (8, .d (iv s2.2)), (22, .d (bv (decide (s2.2 < (a0.length : Int))))), (2015, .r (.arr 1 (s2.1.flatMap eI.o) []))] .nil (by kernel_rfl) (by kernel_rfl) ?_
  rcases Bool.eq_false_or_eq_true (decide (s2.2 < (a0.length : Int))) with h6 | h6
  · have hM := ite_true' hM h6
    refine tr_condTe (e := decide (s2.2 < (a0.length : Int))) h6 (by kernel_rfl) ?_
    refine tr_skip (q_n ?_)
    refine tr_seq ?_
    refine tr_block ?_
    obtain ⟨y7, hy7, hM⟩ := bind_some' hM
    have hy7' := idx_some hy7
    obtain ⟨y8, hy8, hM⟩ := bind_some' hM
    have hy8' := idx_some hy8
    refine tr_r hT hm [(5, .val (iv y7))] [0, 6, 8, 2015] [(0, .d (.sl a0.length 0 (a0.flatMap eI.b))), (6, .d (.rs 1007 0 s2.1.length)), (8, .d (iv s2.2)), (2015, .r (.arr 1 ((s2.1.flatMap eI.o).take (0 + s2.2.toNat * 1) ++ [iv y7] ++ (s2.1.flatMap eI.o).drop (0 + s2.2.toNat * 1 + 1)) []))] (.cons hy7'.1 (.cons hy7'.2.1 (.cons (at_b0 eI_ok hy7'.2.2 (d := iv y7) (by kernel_rfl)) (.cons hy8'.1 (.cons hy8'.2.1 (.cons (store_le eI_ok hy8'.2.2) .nil)))))) (by kernel_rfl) (by kernel_rfl) (b_n (q_n ?_))
    refine Tr.by (imp_cvE (r := 1007) (sz := 1) (refs := []) (set_flat eI_ok.lenO (y := y7) hy8'.2.2) (menO_flat eI_ok _) (by kernel_rfl)) ?_
    refine Tr.by (imp_cvD (k := 6) (congrArg (D.rs 1007 0) (List.length_set.symm : s2.1.length = (s2.1.set s2.2.toNat y7).length)) (by kernel_rfl)) ?_
    refine tr_r hT hm [] [0, 6, 8, 2015] [(0, .d (.sl a0.length 0 (a0.flatMap eI.b))), (6, .d (.rs 1007 0 ((s2.1.set s2.2.toNat y7).length))), (8, .d (iv (IntKind.i64.wrap (s2.2 + 1)))), (2015, .r (.arr 1 ((s2.1.set s2.2.toNat y7).flatMap eI.o) []))] .nil (by kernel_rfl) (by kernel_rfl) (l_n ?_)
    exact trl_start (ks := [0, 6, 8, 2015]) (by kernel_rfl) (ih4 (s2.1.set s2.2.toNat y7, IntKind.i64.wrap (s2.2 + 1)) hM)
  · have hM := ite_false' hM h6
    refine tr_condFe (e := decide (s2.2 < (a0.length : Int))) h6 (by kernel_rfl) ?_
    refine tr_exit (q_x (l_x (b_h (q_n ?_))))
    refine tr_sr hT hm [] [4, 2015] [(4, .d (.rs 1007 0 s2.1.length)), (2015, .r (.arr 1 (s2.1.flatMap eI.o) []))] .nil (by kernel_rfl) (by kernel_rfl) ?_
    refine tr_ret (rg_r ?_)
    obtain rfl := Option.some.inj hM
    exact retg (names := []) (.cons (lenO_flat eI_ok s2.1) .nil) (by kernel_rfl)

theorem ok26 : CallOk Tryd.prog 26 := callOk_of Tryd.func26 (by kernel_rfl) (by kernel_rfl)
theorem laws_toPath_c (a0 : XPath) (r : XPath) (hM : M.laws_toPath a0 = some r) :
    FnC Tryd.prog 26 [] [.agg (eXPath.b a0)] [] (.agg (eXPath.o r)) := by
  refine fnc_startG (N := 12) (np := 500) hT Tryd.func26 rfl rfl (by kernel_rfl) ?_
  unfold M.laws_toPath at hM
  refine tr_start (ks := [0]) (st' := [(0, .d (.agg (eXPath.b a0)))]) (by kernel_rfl) ?_
  refine tr_sr hT hm [] [2, 4, 2003, 2005] [(2, .d (.rp 1001 0)), (4, .d (.rp 1002 0)), bxB 2003 (eXPath.b a0), (2005, .r (.arr 1 [iv 0, nilv] []))] .nil (by kernel_rfl) (by kernel_rfl) ?_
  refine tr_sr hT hm [] [2, 4, 6, 2003, 2005, 2007] [(2, .d (.rp 1001 0)), (4, .d (.rp 1002 0)), (6, .d (.rp 1003 0)), bxB 2003 (eXPath.b a0), (2005, .r (.arr 1 [iv 0, nilv] [])), (2007, .r (.arr 1 [iv 0, nilv] []))] .nil (by kernel_rfl) (by kernel_rfl) ?_
  refine tr_sr hT hm [] [2, 4, 6, 2003, 2005, 2007] [(2, .d (.rp 1001 0)), (4, .d (.rp 1002 0)), (6, .d (.rp 1003 0)), bxB 2003 (eXPath.b a0), (2005, .r (.arr 1 [iv 0, nilv] [])), (2007, .r (.arr 1 [iv a0.Start, nilv] []))] (.cons (Nat.le_of_ble_eq_true (n := 1) (m := 2) rfl) .nil) (by kernel_rfl) (by kernel_rfl) ?_
  obtain ⟨v1, hv1, hM⟩ := bind_some' hM
  refine tr_sr hT hm [(2, .call [] [] [.sl a0.Edges.length 0 (a0.Edges.flatMap eI.b)] [] (.fr 1 v1.length (v1.flatMap eI.o)))] [4, 6, 2005, 2007, 22001] [(4, .d (.rp 1002 0)), (6, .d (.rp 1003 0)), (2005, .r (.arr 1 [iv 0, nilv] [])), (2007, .r (.arr 1 [iv a0.Start, .rs 11000 0 v1.length] [11000])), (22001, .r (.arr 1 (v1.flatMap eI.o) []))] (cc0 ok13 (laws_toInt64S_c a0.Edges _ hv1) (by kernel_rfl) (.cons (Nat.le_of_ble_eq_true (n := 2) (m := 2) rfl) .nil)) (by kernel_rfl) (by kernel_rfl) ?_
  refine tr_sr hT hm [] [4, 2005, 22001] [(4, .d (.rp 1002 0)), (2005, .r (.arr 1 [iv a0.Start, .rs 11000 0 v1.length] [11000])), (22001, .r (.arr 1 (v1.flatMap eI.o) []))] (.cons (Nat.le_of_ble_eq_true (n := 2) (m := 2) rfl) .nil) (by kernel_rfl) (by kernel_rfl) ?_
  refine tr_ret (rg_r ?_)
  obtain rfl := Option.some.inj hM
  exact retg (names := []) (.cons (lenO_flat eI_ok v1) .nil) (by kernel_rfl)

theorem ok14 : CallOk Tryd.prog 14 := callOk_of Tryd.func14 (by kernel_rfl) (by kernel_rfl)
theorem laws_toPathS_c (a0 : List XPath) (r : (List XPath)) (hM : M.laws_toPathS a0 = some r) :
    FnC Tryd.prog 14 [] [.sl a0.length 0 (a0.flatMap eXPath.b)] [] (.fr 2 r.length (r.flatMap eXPath.o)) := by
  refine fnc_startG (N := 23) (np := 500) hT Tryd.func14 rfl rfl (by kernel_rfl) ?_
  unfold M.laws_toPathS at hM
  refine tr_start (ks := [0]) (st' := [(0, .d (.sl a0.length 0 (a0.flatMap eXPath.b)))]) (by kernel_rfl) ?_
  refine tr_sr hT hm [] [0] [(0, .d (.sl a0.length 0 (a0.flatMap eXPath.b)))] .nil (by kernel_rfl) (by kernel_rfl) ?_
  obtain ⟨h1, hM⟩ := chk_some hM
  refine tr_sr hT hm [] [0, 6, 2015] [(0, .d (.sl a0.length 0 (a0.flatMap eXPath.b))), (6, .d (.rs 1007 0 ((a0.length : Int).toNat))), (2015, .r (.arr 2 (repl (a0.length : Int).toNat [.int .i64 0, .slice .none 0 0]) []))] (.cons h1.1 (.cons (Int.le_refl (a0.length : Int)) (.cons h1.2 .nil))) (by kernel_rfl) (by kernel_rfl) ?_
  refine Tr.by (imp_cvL (r := 1007) (sz := 2) (refs := []) (subl_repl (f := eXPath.o) (zs := [.int .i64 0, .slice .none 0 0]) (z := (⟨0, []⟩ : XPath)) (.cons (.refl _) (.cons Sub.nil_fr .nil)) (a0.length : Int).toNat) (repl_hl (by kernel_rfl)) (menO_flat eXPath_ok _) (by kernel_rfl)) ?_
  refine Tr.by (imp_cvD (k := 6) (congrArg (D.rs 1007 0) (List.length_replicate.symm : (a0.length : Int).toNat = (List.replicate (a0.length : Int).toNat (⟨0, []⟩ : XPath)).length)) (by kernel_rfl)) ?_
  refine tr_seq ?_
  refine tr_sr hT hm [] [0, 6, 8, 2015] [(0, .d (.sl a0.length 0 (a0.flatMap eXPath.b))), (6, .d (.rs 1007 0 ((List.replicate (a0.length : Int).toNat (⟨0, []⟩ : XPath)).length))), (8, .d (iv 0)), (2015, .r (.arr 2 ((List.replicate (a0.length : Int).toNat (⟨0, []⟩ : XPath)).flatMap eXPath.o) []))] .nil (by kernel_rfl) (by kernel_rfl) ?_
  refine tr_block ?_
  refine tr_iterS (fun (s2 : (List XPath) × Int) => [(0, .d (.sl a0.length 0 (a0.flatMap eXPath.b))), (6, .d (.rs 1007 0 s2.1.length)), (8, .d (iv s2.2)), (2015, .r (.arr 2 (s2.1.flatMap eXPath.o) []))]) ((List.replicate (a0.length : Int).toNat (⟨0, []⟩ : XPath)), 0) [0, 6, 8, 2015] (by kernel_rfl) hM ?_
  intro n5 next3 ih4 s2 hM
  refine tr_seq ?_
  refine tr_sr hT hm [] [0, 6, 8, 22, 2015] [(0, .d (.sl a0.length 0 (a0.flatMap eXPath.b))), (6, .d (.rs 1007 0 s2.1.length)), (8, .d (iv s2.2)), (22, .d (bv (decide (s2.2 < (a0.length : Int))))), (2015, .r (.arr 2 (s2.1.flatMap eXPath.o) []))] .nil (by kernel_rfl) (by kernel_rfl) ?_
  rcases Bool.eq_false_or_eq_true (decide (s2.2 < (a0.length : Int))) with h6 | h6
  · have hM := ite_true' hM h6
    refine tr_condTe (e := decide (s2.2 < (a0.length : Int))) h6 (by kernel_rfl) ?_
    refine tr_skip (q_n ?_)
    refine tr_seq ?_
    refine tr_block ?_
    obtain ⟨y7, hy7, hM⟩ := bind_some' hM
    have hy7' := idx_some hy7
    obtain ⟨v8, hv8, hM⟩ := bind_some' hM
    obtain ⟨y9, hy9, hM⟩ := bind_some' hM
    have hy9' := idx_some hy9
    refine tr_r hT hm [(5, .val (.agg [iv y7.Start, .sl y7.Edges.length 0 (y7.Edges.flatMap eI.b)])), (6, .call [] [] [.agg (eXPath.b y7)] [] (.agg (eXPath.o v8)))] [0, 6, 8, 2015, 44003] [(0, .d (.sl a0.length 0 (a0.flatMap eXPath.b))), (6, .d (.rs 1007 0 s2.1.length)), (8, .d (iv s2.2)), (2015, .r (.arr 2 ((s2.1.flatMap eXPath.o).take (0 + s2.2.toNat * 2) ++ [iv v8.Start, .rs 22001 0 v8.Edges.length] ++ (s2.1.flatMap eXPath.o).drop (0 + s2.2.toNat * 2 + 2)) [22001])), (44003, .r (.arr 1 (v8.Edges.flatMap eI.o) []))] (.cons hy7'.1 (.cons hy7'.2.1 (.cons (sub_b eXPath_ok hy7'.2.2) (cc0 ok26 (laws_toPath_c y7 _ hv8) (by kernel_rfl) (.cons hy9'.1 (.cons hy9'.2.1 (.cons (store_le eXPath_ok hy9'.2.2) .nil))))))) (by kernel_rfl) (by kernel_rfl) (b_n (q_n ?_))
    refine Tr.by (imp_dem (r := 1007) (q := 22001) (sz := 2) (n := v8.Edges.length) (j := 1) (pre := (s2.1.flatMap eXPath.o).take (0 + s2.2.toNat * 2)) (l := [iv v8.Start, .rs 22001 0 v8.Edges.length]) (post := (s2.1.flatMap eXPath.o).drop (0 + s2.2.toNat * 2 + 2)) (refs := [22001]) (refs' := []) (menO_take eXPath_ok _ _) (menO_drop eXPath_ok _ _) (lenO_flat eI_ok v8.Edges) (by kernel_rfl) (by kernel_rfl) (by kernel_rfl) (by kernel_rfl) (by kernel_rfl)) ?_
    refine Tr.by (imp_cvE (r := 1007) (sz := 2) (refs := []) (set_flat eXPath_ok.lenO (y := v8) hy9'.2.2) (menO_flat eXPath_ok _) (by kernel_rfl)) ?_
    refine Tr.by (imp_cvD (k := 6) (congrArg (D.rs 1007 0) (List.length_set.symm : s2.1.length = (s2.1.set s2.2.toNat v8).length)) (by kernel_rfl)) ?_
    refine tr_r hT hm [] [0, 6, 8, 2015] [(0, .d (.sl a0.length 0 (a0.flatMap eXPath.b))), (6, .d (.rs 1007 0 ((s2.1.set s2.2.toNat v8).length))), (8, .d (iv (IntKind.i64.wrap (s2.2 + 1)))), (2015, .r (.arr 2 ((s2.1.set s2.2.toNat v8).flatMap eXPath.o) []))] .nil (by kernel_rfl) (by kernel_rfl) (l_n ?_)
    exact trl_start (ks := [0, 6, 8, 2015]) (by kernel_rfl) (ih4 (s2.1.set s2.2.toNat v8, IntKind.i64.wrap (s2.2 + 1)) hM)
  · have hM := ite_false' hM h6
    refine tr_condFe (e := decide (s2.2 < (a0.length : Int))) h6 (by kernel_rfl) ?_
    refine tr_exit (q_x (l_x (b_h (q_n ?_))))
    refine tr_sr hT hm [] [4, 2015] [(4, .d (.rs 1007 0 s2.1.length)), (2015, .r (.arr 2 (s2.1.flatMap eXPath.o) []))] .nil (by kernel_rfl) (by kernel_rfl) ?_
    refine tr_ret (rg_r ?_)
    obtain rfl := Option.some.inj hM
    exact retg (names := []) (.cons (lenO_flat eXPath_ok s2.1) .nil) (by kernel_rfl)

theorem ok6 : CallOk Tryd.prog 6 := callOk_of Tryd.func6 (by kernel_rfl) (by kernel_rfl)
theorem laws_toSchema_c (a0 : XSchema) (r : XSchema) (hM : M.laws_toSchema a0 = some r) :
    FnC Tryd.prog 6 [] [.agg (eXSchema.b a0)] [] (.agg (eXSchema.o r)) := by
  refine fnc_startG (N := 24) (np := 500) hT Tryd.func6 rfl rfl (by kernel_rfl) ?_
  unfold M.laws_toSchema at hM
  refine tr_start (ks := [0]) (st' := [(0, .d (.agg (eXSchema.b a0)))]) (by kernel_rfl) ?_
  refine tr_sr hT hm [] [2, 4, 2003, 2005] [(2, .d (.rp 1001 0)), (4, .d (.rp 1002 0)), bxB 2003 (eXSchema.b a0), (2005, .r (.arr 1 [iv 0, nilv, nilv, nilv, nilv] []))] .nil (by kernel_rfl) (by kernel_rfl) ?_
  refine tr_sr hT hm [] [2, 4, 6, 2003, 2005, 2007] [(2, .d (.rp 1001 0)), (4, .d (.rp 1002 0)), (6, .d (.rp 1003 0)), bxB 2003 (eXSchema.b a0), (2005, .r (.arr 1 [iv 0, nilv, nilv, nilv, nilv] [])), (2007, .r (.arr 1 [iv 0, nilv, nilv, nilv, nilv] []))] .nil (by kernel_rfl) (by kernel_rfl) ?_
  refine tr_sr hT hm [] [2, 4, 6, 2003, 2005, 2007] [(2, .d (.rp 1001 0)), (4, .d (.rp 1002 0)), (6, .d (.rp 1003 0)), bxB 2003 (eXSchema.b a0), (2005, .r (.arr 1 [iv 0, nilv, nilv, nilv, nilv] [])), (2007, .r (.arr 1 [iv a0.Nodes, nilv, nilv, nilv, nilv] []))] (.cons (Nat.le_of_ble_eq_true (n := 1) (m := 5) rfl) .nil) (by kernel_rfl) (by kernel_rfl) ?_
  obtain ⟨v1, hv1, hM⟩ := bind_some' hM
  refine tr_sr hT hm [(2, .call [] [] [.sl a0.From.length 0 (a0.From.flatMap eI.b)] [] (.fr 1 v1.length (v1.flatMap eI.o)))] [2, 4, 6, 2003, 2005, 2007, 22001] [(2, .d (.rp 1001 0)), (4, .d (.rp 1002 0)), (6, .d (.rp 1003 0)), bxB 2003 (eXSchema.b a0), (2005, .r (.arr 1 [iv 0, nilv, nilv, nilv, nilv] [])), (2007, .r (.arr 1 [iv a0.Nodes, .rs 11000 0 v1.length, nilv, nilv, nilv] [11000])), (22001, .r (.arr 1 (v1.flatMap eI.o) []))] (cc0 ok13 (laws_toInt64S_c a0.From _ hv1) (by kernel_rfl) (.cons (Nat.le_of_ble_eq_true (n := 2) (m := 5) rfl) .nil)) (by kernel_rfl) (by kernel_rfl) ?_
  obtain ⟨v2, hv2, hM⟩ := bind_some' hM
  refine tr_sr hT hm [(2, .call [] [] [.sl a0.To.length 0 (a0.To.flatMap eI.b)] [] (.fr 1 v2.length (v2.flatMap eI.o)))] [2, 4, 6, 2003, 2005, 2007, 22001, 30001] [(2, .d (.rp 1001 0)), (4, .d (.rp 1002 0)), (6, .d (.rp 1003 0)), bxB 2003 (eXSchema.b a0), (2005, .r (.arr 1 [iv 0, nilv, nilv, nilv, nilv] [])), (2007, .r (.arr 1 [iv a0.Nodes, .rs 11000 0 v1.length, .rs 15000 0 v2.length, nilv, nilv] [11000, 15000])), (22001, .r (.arr 1 (v1.flatMap eI.o) [])), (30001, .r (.arr 1 (v2.flatMap eI.o) []))] (cc0 ok13 (laws_toInt64S_c a0.To _ hv2) (by kernel_rfl) (.cons (Nat.le_of_ble_eq_true (n := 3) (m := 5) rfl) .nil)) (by kernel_rfl) (by kernel_rfl) ?_
  obtain ⟨v3, hv3, hM⟩ := bind_some' hM
  refine tr_sr hT hm [(2, .call [] [] [.sl a0.Left.length 0 (a0.Left.flatMap eXPath.b)] [] (.fr 2 v3.length (v3.flatMap eXPath.o)))] [2, 4, 6, 2003, 2005, 2007, 22001, 30001, 38001] [(2, .d (.rp 1001 0)), (4, .d (.rp 1002 0)), (6, .d (.rp 1003 0)), bxB 2003 (eXSchema.b a0), (2005, .r (.arr 1 [iv 0, nilv, nilv, nilv, nilv] [])), (2007, .r (.arr 1 [iv a0.Nodes, .rs 11000 0 v1.length, .rs 15000 0 v2.length, .rs 19000 0 v3.length, nilv] [11000, 15000, 19000])), (22001, .r (.arr 1 (v1.flatMap eI.o) [])), (30001, .r (.arr 1 (v2.flatMap eI.o) [])), (38001, .r (.arr 2 (v3.flatMap eXPath.o) []))] (cc0 ok14 (laws_toPathS_c a0.Left _ hv3) (by kernel_rfl) (.cons (Nat.le_of_ble_eq_true (n := 4) (m := 5) rfl) .nil)) (by kernel_rfl) (by kernel_rfl) ?_
  obtain ⟨v4, hv4, hM⟩ := bind_some' hM
  refine tr_sr hT hm [(2, .call [] [] [.sl a0.Right.length 0 (a0.Right.flatMap eXPath.b)] [] (.fr 2 v4.length (v4.flatMap eXPath.o)))] [4, 6, 2005, 2007, 22001, 30001, 38001, 46001] [(4, .d (.rp 1002 0)), (6, .d (.rp 1003 0)), (2005, .r (.arr 1 [iv 0, nilv, nilv, nilv, nilv] [])), (2007, .r (.arr 1 [iv a0.Nodes, .rs 11000 0 v1.length, .rs 15000 0 v2.length, .rs 19000 0 v3.length, .rs 23000 0 v4.length] [11000, 15000, 19000, 23000])), (22001, .r (.arr 1 (v1.flatMap eI.o) [])), (30001, .r (.arr 1 (v2.flatMap eI.o) [])), (38001, .r (.arr 2 (v3.flatMap eXPath.o) [])), (46001, .r (.arr 2 (v4.flatMap eXPath.o) []))] (cc0 ok14 (laws_toPathS_c a0.Right _ hv4) (by kernel_rfl) (.cons (Nat.le_of_ble_eq_true (n := 5) (m := 5) rfl) .nil)) (by kernel_rfl) (by kernel_rfl) ?_
  refine tr_sr hT hm [] [4, 2005, 22001, 30001, 38001, 46001] [(4, .d (.rp 1002 0)), (2005, .r (.arr 1 [iv a0.Nodes, .rs 11000 0 v1.length, .rs 15000 0 v2.length, .rs 19000 0 v3.length, .rs 23000 0 v4.length] [11000, 15000, 19000, 23000])), (22001, .r (.arr 1 (v1.flatMap eI.o) [])), (30001, .r (.arr 1 (v2.flatMap eI.o) [])), (38001, .r (.arr 2 (v3.flatMap eXPath.o) [])), (46001, .r (.arr 2 (v4.flatMap eXPath.o) []))] (.cons (Nat.le_of_ble_eq_true (n := 5) (m := 5) rfl) .nil) (by kernel_rfl) (by kernel_rfl) ?_
  refine tr_ret (rg_r ?_)
  obtain rfl := Option.some.inj hM
  exact retg (names := []) (.cons (lenO_flat eI_ok v1) (.cons (lenO_flat eI_ok v2) (.cons (lenO_flat eXPath_ok v3) (.cons (lenO_flat eXPath_ok v4) .nil)))) (by kernel_rfl)

theorem ok27 : CallOk Tryd.prog 27 := callOk_of Tryd.func27 (by kernel_rfl) (by kernel_rfl)
theorem impl_inRange_c (a0 : Int) (a1 : Int) (a2 : Int) (r : Bool) (hM : M.impl_inRange a0 a1 a2 = some r) :
    FnC Tryd.prog 27 [] [iv a0, iv a1, iv a2] [] (bv r) := by
  refine fnc_startG (N := 15) (np := 500) hT Tryd.func27 rfl rfl (by kernel_rfl) ?_
  unfold M.impl_inRange at hM
  refine tr_start (ks := [0, 2, 4]) (st' := [(0, .d (iv a0)), (2, .d (iv a1)), (4, .d (iv a2))]) (by kernel_rfl) ?_
  refine tr_sr hT hm [] [0, 2, 4] [(0, .d (iv a0)), (2, .d (iv a1)), (4, .d (iv a2))] .nil (by kernel_rfl) (by kernel_rfl) ?_
  rcases Bool.eq_false_or_eq_true (decide (a0 ≥ a1)) with h1 | h1
  · have hM := ite_true' hM h1
    refine tr_sr hT hm [(3, .val (bv true))] [12] [(12, .d (bv (decide (a0 ≤ a2))))] (.cons (congrArg (fun b => bv b) h1) .nil) (by kernel_rfl) (by kernel_rfl) ?_
    refine tr_ret (rg_r ?_)
    obtain rfl := Option.some.inj hM
    exact retg (names := []) .nil (by kernel_rfl)
  · have hM := ite_false' hM h1
    refine tr_sr hT hm [(3, .val (bv false))] [12] [(12, .d (bv false))] (.cons (congrArg (fun b => bv b) h1) .nil) (by kernel_rfl) (by kernel_rfl) ?_
    refine tr_ret (rg_r ?_)
    obtain rfl := Option.some.inj hM
    exact retg (names := []) .nil (by kernel_rfl)

theorem ok28 : CallOk Tryd.prog 28 := callOk_of Tryd.func28 (by kernel_rfl) (by kernel_rfl)
theorem impl_within_c (a0 : List Int) (a1 : Int) (r : Bool) (hM : M.impl_within a0 a1 = some r) :
    FnC Tryd.prog 28 [] [.sl a0.length 0 (a0.flatMap eI.b), iv a1] [] (bv r) := by
  refine fnc_startG (N := 19) (np := 500) hT Tryd.func28 rfl rfl (by kernel_rfl) ?_
  unfold M.impl_within at hM
  refine tr_start (ks := [0, 2]) (st' := [(0, .d (.sl a0.length 0 (a0.flatMap eI.b))), (2, .d (iv a1))]) (by kernel_rfl) ?_
  refine tr_sr hT hm [] [0, 2] [(0, .d (.sl a0.length 0 (a0.flatMap eI.b))), (2, .d (iv a1))] .nil (by kernel_rfl) (by kernel_rfl) ?_
  refine tr_seq ?_
  refine tr_sr hT hm [] [2, 14, 16, 18] [(2, .d (iv a1)), (14, .d (.sl a0.length 0 (a0.flatMap eI.b))), (16, .d (iv (a0.length : Int))), (18, .d (iv 0))] .nil (by kernel_rfl) (by kernel_rfl) ?_
  refine tr_block ?_
  refine tr_iterS (fun (s1 : Int) => [(2, .d (iv a1)), (14, .d (.sl a0.length 0 (a0.flatMap eI.b))), (16, .d (iv (a0.length : Int))), (18, .d (iv s1))]) 0 [2, 14, 16, 18] (by kernel_rfl) hM ?_
  intro n4 next2 ih3 s1 hM
  refine tr_sr hT hm [] [2, 14, 16, 18, 20] [(2, .d (iv a1)), (14, .d (.sl a0.length 0 (a0.flatMap eI.b))), (16, .d (iv (a0.length : Int))), (18, .d (iv s1)), (20, .d (bv (decide (s1 < (a0.length : Int)))))] .nil (by kernel_rfl) (by kernel_rfl) ?_
  refine tr_seq ?_
  rcases Bool.eq_false_or_eq_true (decide (s1 < (a0.length : Int))) with h5 | h5
  · have hM := ite_true' hM h5
    refine tr_condTe (e := decide (s1 < (a0.length : Int))) h5 (by kernel_rfl) ?_
    refine tr_skip (q_n ?_)
    refine tr_seq ?_
    refine tr_block ?_
    obtain ⟨y6, hy6, hM⟩ := bind_some' hM
    have hy6' := idx_some hy6
    refine tr_sr hT hm [(1, .val (iv y6))] [2, 12, 14, 16, 18] [(2, .d (iv a1)), (12, .d (iv y6)), (14, .d (.sl a0.length 0 (a0.flatMap eI.b))), (16, .d (iv (a0.length : Int))), (18, .d (iv s1))] (.cons hy6'.1 (.cons hy6'.2.1 (.cons (at_b0 eI_ok hy6'.2.2 (d := iv y6) (by kernel_rfl)) .nil))) (by kernel_rfl) (by kernel_rfl) ?_
    obtain ⟨v7, hv7, hM⟩ := bind_some' hM
    refine tr_sr hT hm [(3, .call [] [] [iv y6, iv 0, iv (IntKind.i64.wrap (a1 - 1))] [] (bv v7))] [2, 14, 16, 18, 34] [(2, .d (iv a1)), (14, .d (.sl a0.length 0 (a0.flatMap eI.b))), (16, .d (iv (a0.length : Int))), (18, .d (iv s1)), (34, .d (bv (!v7)))] (cc0 ok27 (impl_inRange_c y6 0 (IntKind.i64.wrap (a1 - 1)) _ hv7) (by kernel_rfl) .nil) (by kernel_rfl) (by kernel_rfl) ?_
    rcases Bool.eq_false_or_eq_true v7 with h8 | h8
    · have hM := ite_true' hM h8
      refine tr_condFe (e := !v7) (congrArg not h8) (by kernel_rfl) ?_
      refine tr_skip (b_n (q_n ?_))
      refine tr_r hT hm [] [2, 14, 16, 18] [(2, .d (iv a1)), (14, .d (.sl a0.length 0 (a0.flatMap eI.b))), (16, .d (iv (a0.length : Int))), (18, .d (iv (IntKind.i64.wrap (s1 + 1))))] .nil (by kernel_rfl) (by kernel_rfl) (l_n ?_)
      exact trl_start (ks := [2, 14, 16, 18]) (by kernel_rfl) (ih3 (IntKind.i64.wrap (s1 + 1)) hM)
    · have hM := ite_false' hM h8
      refine tr_condTe (e := !v7) (congrArg not h8) (by kernel_rfl) ?_
      refine tr_sr hT hm [] [8] [(8, .d (bv false))] .nil (by kernel_rfl) (by kernel_rfl) ?_
      refine tr_ret (b_r (q_r (l_r (b_r (q_r (rg_r ?_))))))
      obtain rfl := Option.some.inj hM
      exact retg (names := []) .nil (by kernel_rfl)
  · have hM := ite_false' hM h5
    refine tr_condFe (e := decide (s1 < (a0.length : Int))) h5 (by kernel_rfl) ?_
    refine tr_exit (q_x (l_x (b_h (q_n ?_))))
    refine tr_sr hT hm [] [8] [(8, .d (bv true))] .nil (by kernel_rfl) (by kernel_rfl) ?_
    refine tr_ret (rg_r ?_)
    obtain rfl := Option.some.inj hM
    exact retg (names := []) .nil (by kernel_rfl)

theorem ok32 : CallOk Tryd.prog 32 := callOk_of Tryd.func32 (by kernel_rfl) (by kernel_rfl)
theorem impl_Schema_follow_c (a0 : XSchema) (a1 : Int) (a2 : List Int) (r : Int × Bool) (hM : M.impl_Schema_follow a0 a1 a2 = some r) :
    FnC Tryd.prog 32 [] [.pt (eXSchema.b a0) 0, iv a1, .sl a2.length 0 (a2.flatMap eI.b)] [] (.tup [iv r.1, bv r.2]) := by
  refine fnc_startG (N := 45) (np := 500) hT Tryd.func32 rfl rfl (by kernel_rfl) ?_
  unfold M.impl_Schema_follow at hM
  refine tr_start (ks := [0, 2, 4]) (st' := [(0, .d (.pt (eXSchema.b a0) 0)), (2, .d (iv a1)), (4, .d (.sl a2.length 0 (a2.flatMap eI.b)))]) (by kernel_rfl) ?_
  refine tr_sr hT hm [] [0, 2, 4] [(0, .d (.pt (eXSchema.b a0) 0)), (2, .d (iv a1)), (4, .d (.sl a2.length 0 (a2.flatMap eI.b)))] .nil (by kernel_rfl) (by kernel_rfl) ?_
  refine tr_seq ?_
  refine tr_sr hT hm [] [0, 2, 20, 22, 24] [(0, .d (.pt (eXSchema.b a0) 0)), (2, .d (iv a1)), (20, .d (.sl a2.length 0 (a2.flatMap eI.b))), (22, .d (iv (a2.length : Int))), (24, .d (iv 0))] .nil (by kernel_rfl) (by kernel_rfl) ?_
  refine tr_block ?_
  refine tr_iterS (fun (s1 : Int × Int) => [(0, .d (.pt (eXSchema.b a0) 0)), (2, .d (iv s1.1)), (20, .d (.sl a2.length 0 (a2.flatMap eI.b))), (22, .d (iv (a2.length : Int))), (24, .d (iv s1.2))]) (a1, 0) [0, 2, 20, 22, 24] (by kernel_rfl) hM ?_
  intro n4 next2 ih3 s1 hM
  refine tr_sr hT hm [] [0, 2, 20, 22, 24, 26] [(0, .d (.pt (eXSchema.b a0) 0)), (2, .d (iv s1.1)), (20, .d (.sl a2.length 0 (a2.flatMap eI.b))), (22, .d (iv (a2.length : Int))), (24, .d (iv s1.2)), (26, .d (bv (decide (s1.2 < (a2.length : Int)))))] .nil (by kernel_rfl) (by kernel_rfl) ?_
  refine tr_seq ?_
  rcases Bool.eq_false_or_eq_true (decide (s1.2 < (a2.length : Int))) with h5 | h5
  · have hM := ite_true' hM h5
    refine tr_condTe (e := decide (s1.2 < (a2.length : Int))) h5 (by kernel_rfl) ?_
    refine tr_skip (q_n ?_)
    refine tr_seq ?_
    refine tr_block ?_
    obtain ⟨y6, hy6, hM⟩ := bind_some' hM
    have hy6' := idx_some hy6
    refine tr_sr hT hm [(1, .val (iv y6))] [0, 2, 18, 20, 22, 24] [(0, .d (.pt (eXSchema.b a0) 0)), (2, .d (iv s1.1)), (18, .d (iv y6)), (20, .d (.sl a2.length 0 (a2.flatMap eI.b))), (22, .d (iv (a2.length : Int))), (24, .d (iv s1.2))] (.cons hy6'.1 (.cons hy6'.2.1 (.cons (at_b0 eI_ok hy6'.2.2 (d := iv y6) (by kernel_rfl)) .nil))) (by kernel_rfl) (by kernel_rfl) ?_
    refine tr_seq ?_
    obtain ⟨v7, hv7, hM⟩ := bind_some' hM
    rcases Bool.eq_false_or_eq_true v7 with h8 | h8
    · have hM := ite_true' hM h8
      obtain ⟨y9, hy9, hM⟩ := bind_some' hM
      have hy9' := idx_some hy9
      refine tr_sr hT hm [(7, .call [] [] [iv y6, iv 0, iv (IntKind.i64.wrap ((a0.From.length : Int) - 1))] [] (bv v7)), (9, .val (bv false)), (16, .val (iv y9))] [0, 18, 20, 22, 24, 70] [(0, .d (.pt (eXSchema.b a0) 0)), (18, .d (iv y6)), (20, .d (.sl a2.length 0 (a2.flatMap eI.b))), (22, .d (iv (a2.length : Int))), (24, .d (iv s1.2)), (70, .d (bv (y9 != s1.1)))] (cc0 ok27 (impl_inRange_c y6 0 (IntKind.i64.wrap ((a0.From.length : Int) - 1)) _ hv7) (by kernel_rfl) (.cons (congrArg (fun b => bv b) (congrArg not h8)) (.cons hy9'.1 (.cons hy9'.2.1 (.cons (at_b0 eI_ok hy9'.2.2 (d := iv y9) (by kernel_rfl)) .nil))))) (by kernel_rfl) (by kernel_rfl) ?_
      rcases Bool.eq_false_or_eq_true (y9 != s1.1) with h10 | h10
      · have hM := ite_true' hM h10
        refine tr_condTe (e := y9 != s1.1) h10 (by kernel_rfl) ?_
        refine tr_sr hT hm [] [12, 14] [(12, .d (iv 0)), (14, .d (bv false))] .nil (by kernel_rfl) (by kernel_rfl) ?_
        refine tr_ret (q_r (b_r (q_r (l_r (b_r (q_r (rg_r ?_)))))))
        obtain rfl := Option.some.inj hM
        exact retg (names := []) .nil (by kernel_rfl)
      · have hM := ite_false' hM h10
        refine tr_condFe (e := y9 != s1.1) h10 (by kernel_rfl) ?_
        refine tr_skip (q_n ?_)
        obtain ⟨y11, hy11, hM⟩ := bind_some' hM
        have hy11' := idx_some hy11
        refine tr_r hT hm [(6, .val (iv y11))] [0, 2, 20, 22, 24] [(0, .d (.pt (eXSchema.b a0) 0)), (2, .d (iv y11)), (20, .d (.sl a2.length 0 (a2.flatMap eI.b))), (22, .d (iv (a2.length : Int))), (24, .d (iv s1.2))] (.cons hy11'.1 (.cons hy11'.2.1 (.cons (at_b0 eI_ok hy11'.2.2 (d := iv y11) (by kernel_rfl)) .nil))) (by kernel_rfl) (by kernel_rfl) (b_n (q_n ?_))
        refine tr_r hT hm [] [0, 2, 20, 22, 24] [(0, .d (.pt (eXSchema.b a0) 0)), (2, .d (iv y11)), (20, .d (.sl a2.length 0 (a2.flatMap eI.b))), (22, .d (iv (a2.length : Int))), (24, .d (iv (IntKind.i64.wrap (s1.2 + 1))))] .nil (by kernel_rfl) (by kernel_rfl) (l_n ?_)
        exact trl_start (ks := [0, 2, 20, 22, 24]) (by kernel_rfl) (ih3 (y11, IntKind.i64.wrap (s1.2 + 1)) hM)
    · have hM := ite_false' hM h8
      refine tr_sr hT hm [(7, .call [] [] [iv y6, iv 0, iv (IntKind.i64.wrap ((a0.From.length : Int) - 1))] [] (bv v7)), (9, .val (bv true))] [0, 18, 20, 22, 24, 70] [(0, .d (.pt (eXSchema.b a0) 0)), (18, .d (iv y6)), (20, .d (.sl a2.length 0 (a2.flatMap eI.b))), (22, .d (iv (a2.length : Int))), (24, .d (iv s1.2)), (70, .d (bv true))] (cc0 ok27 (impl_inRange_c y6 0 (IntKind.i64.wrap ((a0.From.length : Int) - 1)) _ hv7) (by kernel_rfl) (.cons (congrArg (fun b => bv b) (congrArg not h8)) .nil)) (by kernel_rfl) (by kernel_rfl) ?_
      refine tr_condT (by kernel_rfl) ?_
      refine tr_sr hT hm [] [12, 14] [(12, .d (iv 0)), (14, .d (bv false))] .nil (by kernel_rfl) (by kernel_rfl) ?_
      refine tr_ret (q_r (b_r (q_r (l_r (b_r (q_r (rg_r ?_)))))))
      obtain rfl := Option.some.inj hM
      exact retg (names := []) .nil (by kernel_rfl)
  · have hM := ite_false' hM h5
    refine tr_condFe (e := decide (s1.2 < (a2.length : Int))) h5 (by kernel_rfl) ?_
    refine tr_exit (q_x (l_x (b_h (q_n ?_))))
    refine tr_sr hT hm [] [12, 14] [(12, .d (iv s1.1)), (14, .d (bv true))] .nil (by kernel_rfl) (by kernel_rfl) ?_
    refine tr_ret (rg_r ?_)
    obtain rfl := Option.some.inj hM
    exact retg (names := []) .nil (by kernel_rfl)

theorem ok29 : CallOk Tryd.prog 29 := callOk_of Tryd.func29 (by kernel_rfl) (by kernel_rfl)
theorem impl_Schema_end_c (a0 : XSchema) (a1 : XPath) (r : Int × Bool) (hM : M.impl_Schema_end a0 a1 = some r) :
    FnC Tryd.prog 29 [] [.pt (eXSchema.b a0) 0, .agg (eXPath.b a1)] [] (.tup [iv r.1, bv r.2]) := by
  refine fnc_startG (N := 29) (np := 500) hT Tryd.func29 rfl rfl (by kernel_rfl) ?_
  unfold M.impl_Schema_end at hM
  refine tr_start (ks := [0, 2]) (st' := [(0, .d (.pt (eXSchema.b a0) 0)), (2, .d (.agg (eXPath.b a1)))]) (by kernel_rfl) ?_
  refine tr_sr hT hm [] [0, 6, 2007] [(0, .d (.pt (eXSchema.b a0) 0)), (6, .d (.rp 1003 0)), bxB 2007 (eXPath.b a1)] .nil (by kernel_rfl) (by kernel_rfl) ?_
  refine tr_seq ?_
  obtain ⟨v1, hv1, hM⟩ := bind_some' hM
  rcases Bool.eq_false_or_eq_true v1 with h2 | h2
  · have hM := ite_true' hM h2
    refine tr_sr hT hm [(7, .call [] [] [iv a1.Start, iv 0, iv (IntKind.i64.wrap (a0.Nodes - 1))] [] (bv v1)), (9, .val (bv false))] [0, 6, 40, 2007] [(0, .d (.pt (eXSchema.b a0) 0)), (6, .d (.rp 1003 0)), (40, .d (bv (decide ((a1.Edges.length : Int) > 6)))), bxB 2007 (eXPath.b a1)] (cc0 ok27 (impl_inRange_c a1.Start 0 (IntKind.i64.wrap (a0.Nodes - 1)) _ hv1) (by kernel_rfl) (.cons (congrArg (fun b => bv b) (congrArg not h2)) .nil)) (by kernel_rfl) (by kernel_rfl) ?_
    rcases Bool.eq_false_or_eq_true (decide ((a1.Edges.length : Int) > 6)) with h3 | h3
    · have hM := ite_true' hM h3
      refine tr_condTe (e := decide ((a1.Edges.length : Int) > 6)) h3 (by kernel_rfl) ?_
      refine tr_sr hT hm [] [8, 10] [(8, .d (iv 0)), (10, .d (bv false))] .nil (by kernel_rfl) (by kernel_rfl) ?_
      refine tr_ret (q_r (rg_r ?_))
      obtain rfl := Option.some.inj hM
      exact retg (names := []) .nil (by kernel_rfl)
    · have hM := ite_false' hM h3
      refine tr_condFe (e := decide ((a1.Edges.length : Int) > 6)) h3 (by kernel_rfl) ?_
      refine tr_skip (q_n ?_)
      obtain ⟨v4, hv4, hM⟩ := bind_some' hM
      refine tr_sr hT hm [(5, .call [] [] [.pt (eXSchema.b a0) 0, iv a1.Start, .sl a1.Edges.length 0 (a1.Edges.flatMap eI.b)] [] (.tup [iv v4.1, bv v4.2]))] [8, 10] [(8, .d (iv v4.1)), (10, .d (bv v4.2))] (cc0 ok32 (impl_Schema_follow_c a0 a1.Start a1.Edges _ hv4) (by kernel_rfl) .nil) (by kernel_rfl) (by kernel_rfl) ?_
      refine tr_ret (rg_r ?_)
      obtain rfl := Option.some.inj hM
      exact retg (names := []) .nil (by kernel_rfl)
  · have hM := ite_false' hM h2
    refine tr_sr hT hm [(7, .call [] [] [iv a1.Start, iv 0, iv (IntKind.i64.wrap (a0.Nodes - 1))] [] (bv v1)), (9, .val (bv true))] [0, 6, 40, 2007] [(0, .d (.pt (eXSchema.b a0) 0)), (6, .d (.rp 1003 0)), (40, .d (bv true)), bxB 2007 (eXPath.b a1)] (cc0 ok27 (impl_inRange_c a1.Start 0 (IntKind.i64.wrap (a0.Nodes - 1)) _ hv1) (by kernel_rfl) (.cons (congrArg (fun b => bv b) (congrArg not h2)) .nil)) (by kernel_rfl) (by kernel_rfl) ?_
    refine tr_condT (by kernel_rfl) ?_
    refine tr_sr hT hm [] [8, 10] [(8, .d (iv 0)), (10, .d (bv false))] .nil (by kernel_rfl) (by kernel_rfl) ?_
    refine tr_ret (q_r (rg_r ?_))
    obtain rfl := Option.some.inj hM
    exact retg (names := []) .nil (by kernel_rfl)

end Go.Proofs.YtknmijgiefkijaaDoor.WdA
