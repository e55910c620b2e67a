/- Walks. Printed by wip/gen. -/
import Derived.Test.YtggojehmbpbefaaGxL8W
namespace Go.Proofs.Ytggojehmbpbefaa.L8
open Go.Gx Go.Proofs.Ytggojehmbpbefaa.L6

theorem ok41 : CallOk Try.prog 41 := callOk_of Try.func41 (by kernel_rfl) (by kernel_rfl)
theorem laws_szTransformation_c (a0 : XTransformation) (a1 : Int) (r : Int) (hM : M.laws_szTransformation a0 a1 = some r) :
    FnC Try.prog 41 [] [.agg (eXTransformation.b a0), iv a1] [] (iv r) := by
  refine fnc_startG (N := 24) (np := 500) hT Try.func41 rfl rfl (by kernel_rfl) ?_
  unfold M.laws_szTransformation at hM
  refine tr_start (ks := [0, 2]) (st' := [(0, .d (.agg (eXTransformation.b a0))), (2, .d (iv a1))]) (by kernel_rfl) ?_
  refine tr_sr hT hm [] [2, 4, 2005] [(2, .d (iv a1)), (4, .d (.rp 1002 0)), bxB 2005 (eXTransformation.b a0)] .nil (by kernel_rfl) (by kernel_rfl) ?_
  obtain ⟨v1, hv1, hM⟩ := bind_some' hM
  refine tr_sr hT hm [(3, .call [] [] [.agg [iv a0.Source.Source.Objects, .sl a0.Source.Source.From.length 0 (a0.Source.Source.From.flatMap eI.b), .sl a0.Source.Source.To.length 0 (a0.Source.Source.To.flatMap eI.b), .sl a0.Source.Source.Identity.length 0 (a0.Source.Source.Identity.flatMap eI.b), .sl a0.Source.Source.Composites.length 0 (a0.Source.Source.Composites.flatMap (eS eI).b), iv a0.Source.Target.Objects, .sl a0.Source.Target.From.length 0 (a0.Source.Target.From.flatMap eI.b), .sl a0.Source.Target.To.length 0 (a0.Source.Target.To.flatMap eI.b), .sl a0.Source.Target.Identity.length 0 (a0.Source.Target.Identity.flatMap eI.b), .sl a0.Source.Target.Composites.length 0 (a0.Source.Target.Composites.flatMap (eS eI).b), .sl a0.Source.Objects.length 0 (a0.Source.Objects.flatMap eI.b), .sl a0.Source.Arrows.length 0 (a0.Source.Arrows.flatMap eI.b)], iv a1] [] (iv v1))] [2, 4, 2005] [(2, .d (iv v1)), (4, .d (.rp 1002 0)), bxB 2005 (eXTransformation.b a0)] (cc0 ok14 (laws_szFunctor_c a0.Source a1 _ hv1) (by kernel_rfl) .nil) (by kernel_rfl) (by kernel_rfl) ?_
  refine tr_seq ?_
  refine tr_sr hT hm [] [2, 4, 20, 2005] [(2, .d (iv v1)), (4, .d (.rp 1002 0)), (20, .d (bv (decide (v1 < 0)))), bxB 2005 (eXTransformation.b a0)] .nil (by kernel_rfl) (by kernel_rfl) ?_
  rcases Bool.eq_false_or_eq_true (decide (v1 < 0)) with h2 | h2
  · have hM := ite_true' hM h2
    refine tr_condTe (e := decide (v1 < 0)) h2 (by kernel_rfl) ?_
    refine tr_sr hT hm [] [8] [(8, .d (iv (-1)))] .nil (by kernel_rfl) (by kernel_rfl) ?_
    refine tr_ret (q_r (rg_r ?_))
    obtain rfl := Option.some.inj hM
    exact retg (names := []) .nil (by kernel_rfl)
  · have hM := ite_false' hM h2
    refine tr_condFe (e := decide (v1 < 0)) h2 (by kernel_rfl) ?_
    refine tr_skip (q_n ?_)
    obtain ⟨v3, hv3, hM⟩ := bind_some' hM
    refine tr_sr hT hm [(3, .call [] [] [.agg [iv a0.Target.Source.Objects, .sl a0.Target.Source.From.length 0 (a0.Target.Source.From.flatMap eI.b), .sl a0.Target.Source.To.length 0 (a0.Target.Source.To.flatMap eI.b), .sl a0.Target.Source.Identity.length 0 (a0.Target.Source.Identity.flatMap eI.b), .sl a0.Target.Source.Composites.length 0 (a0.Target.Source.Composites.flatMap (eS eI).b), iv a0.Target.Target.Objects, .sl a0.Target.Target.From.length 0 (a0.Target.Target.From.flatMap eI.b), .sl a0.Target.Target.To.length 0 (a0.Target.Target.To.flatMap eI.b), .sl a0.Target.Target.Identity.length 0 (a0.Target.Target.Identity.flatMap eI.b), .sl a0.Target.Target.Composites.length 0 (a0.Target.Target.Composites.flatMap (eS eI).b), .sl a0.Target.Objects.length 0 (a0.Target.Objects.flatMap eI.b), .sl a0.Target.Arrows.length 0 (a0.Target.Arrows.flatMap eI.b)], iv v1] [] (iv v3))] [2, 4, 2005] [(2, .d (iv v3)), (4, .d (.rp 1002 0)), bxB 2005 (eXTransformation.b a0)] (cc0 ok14 (laws_szFunctor_c a0.Target v1 _ hv3) (by kernel_rfl) .nil) (by kernel_rfl) (by kernel_rfl) ?_
    refine tr_seq ?_
    refine tr_sr hT hm [] [2, 4, 32, 2005] [(2, .d (iv v3)), (4, .d (.rp 1002 0)), (32, .d (bv (decide (v3 < 0)))), bxB 2005 (eXTransformation.b a0)] .nil (by kernel_rfl) (by kernel_rfl) ?_
    rcases Bool.eq_false_or_eq_true (decide (v3 < 0)) with h4 | h4
    · have hM := ite_true' hM h4
      refine tr_condTe (e := decide (v3 < 0)) h4 (by kernel_rfl) ?_
      refine tr_sr hT hm [] [8] [(8, .d (iv (-1)))] .nil (by kernel_rfl) (by kernel_rfl) ?_
      refine tr_ret (q_r (rg_r ?_))
      obtain rfl := Option.some.inj hM
      exact retg (names := []) .nil (by kernel_rfl)
    · have hM := ite_false' hM h4
      refine tr_condFe (e := decide (v3 < 0)) h4 (by kernel_rfl) ?_
      refine tr_skip (q_n ?_)
      obtain ⟨v5, hv5, hM⟩ := bind_some' hM
      refine tr_sr hT hm [(3, .call [] [] [.sl a0.Components.length 0 (a0.Components.flatMap eI.b), iv v3] [] (iv v5))] [2] [(2, .d (iv v5))] (cc0 ok80 (laws_szInt64S_c a0.Components v3 _ hv5) (by kernel_rfl) .nil) (by kernel_rfl) (by kernel_rfl) ?_
      refine tr_seq ?_
      refine tr_sr hT hm [] [2, 44] [(2, .d (iv v5)), (44, .d (bv (decide (v5 < 0))))] .nil (by kernel_rfl) (by kernel_rfl) ?_
      rcases Bool.eq_false_or_eq_true (decide (v5 < 0)) with h6 | h6
      · have hM := ite_true' hM h6
        refine tr_condTe (e := decide (v5 < 0)) h6 (by kernel_rfl) ?_
        refine tr_sr hT hm [] [8] [(8, .d (iv (-1)))] .nil (by kernel_rfl) (by kernel_rfl) ?_
        refine tr_ret (q_r (rg_r ?_))
        obtain rfl := Option.some.inj hM
        exact retg (names := []) .nil (by kernel_rfl)
      · have hM := ite_false' hM h6
        refine tr_condFe (e := decide (v5 < 0)) h6 (by kernel_rfl) ?_
        refine tr_skip (q_n ?_)
        refine tr_sr hT hm [] [8] [(8, .d (iv v5))] .nil (by kernel_rfl) (by kernel_rfl) ?_
        refine tr_ret (rg_r ?_)
        obtain rfl := Option.some.inj hM
        exact retg (names := []) .nil (by kernel_rfl)

theorem ok172 : CallOk Try.prog 172 := callOk_of Try.func172 (by kernel_rfl) (by kernel_rfl)
theorem spec_l01Same_c (a0 : List Int) (a1 : List Int) (r : Bool) (hM : M.spec_l01Same a0 a1 = some r) :
    FnC Try.prog 172 [] [.sl a0.length 0 (a0.flatMap eI.b), .sl a1.length 0 (a1.flatMap eI.b)] [] (bv r) := by
  refine fnc_startG (N := 26) (np := 500) hT Try.func172 rfl rfl (by kernel_rfl) ?_
  unfold M.spec_l01Same at hM
  refine tr_start (ks := [0, 2]) (st' := [(0, .d (.sl a0.length 0 (a0.flatMap eI.b))), (2, .d (.sl a1.length 0 (a1.flatMap eI.b)))]) (by kernel_rfl) ?_
  refine tr_sr hT hm [] [0, 2] [(0, .d (.sl a0.length 0 (a0.flatMap eI.b))), (2, .d (.sl a1.length 0 (a1.flatMap eI.b)))] .nil (by kernel_rfl) (by kernel_rfl) ?_
  refine tr_seq ?_
  refine tr_sr hT hm [] [0, 2, 20] [(0, .d (.sl a0.length 0 (a0.flatMap eI.b))), (2, .d (.sl a1.length 0 (a1.flatMap eI.b))), (20, .d (bv ((a0.length : Int) != (a1.length : Int))))] .nil (by kernel_rfl) (by kernel_rfl) ?_
  rcases Bool.eq_false_or_eq_true ((a0.length : Int) != (a1.length : Int)) with h1 | h1
  · have hM := ite_true' hM h1
    refine tr_condTe (e := (a0.length : Int) != (a1.length : Int)) h1 (by kernel_rfl) ?_
    refine tr_sr hT hm [] [8] [(8, .d (bv false))] .nil (by kernel_rfl) (by kernel_rfl) ?_
    refine tr_ret (q_r (rg_r ?_))
    obtain rfl := Option.some.inj hM
    exact retg (names := []) .nil (by kernel_rfl)
  · have hM := ite_false' hM h1
    refine tr_condFe (e := (a0.length : Int) != (a1.length : Int)) h1 (by kernel_rfl) ?_
    refine tr_skip (q_n ?_)
    refine tr_seq ?_
    refine tr_sr hT hm [] [0, 2, 10] [(0, .d (.sl a0.length 0 (a0.flatMap eI.b))), (2, .d (.sl a1.length 0 (a1.flatMap eI.b))), (10, .d (iv 0))] .nil (by kernel_rfl) (by kernel_rfl) ?_
    refine tr_block ?_
    refine tr_iterS (fun (s2 : Int) => [(0, .d (.sl a0.length 0 (a0.flatMap eI.b))), (2, .d (.sl a1.length 0 (a1.flatMap eI.b))), (10, .d (iv s2))]) 0 [0, 2, 10] (by kernel_rfl) hM ?_
    intro n5 next3 ih4 s2 hM
    refine tr_seq ?_
    refine tr_sr hT hm [] [0, 2, 10, 28] [(0, .d (.sl a0.length 0 (a0.flatMap eI.b))), (2, .d (.sl a1.length 0 (a1.flatMap eI.b))), (10, .d (iv s2)), (28, .d (bv (decide (s2 < (a0.length : Int)))))] .nil (by kernel_rfl) (by kernel_rfl) ?_
    rcases Bool.eq_false_or_eq_true (decide (s2 < (a0.length : Int))) with h6 | h6
    · have hM := ite_true' hM h6
      refine tr_condTe (e := decide (s2 < (a0.length : Int))) h6 (by kernel_rfl) ?_
      refine tr_skip (q_n ?_)
      refine tr_seq ?_
      refine tr_block ?_
      obtain ⟨y7, hy7, hM⟩ := bind_some' hM
      have hy7' := idx_some hy7
      obtain ⟨y8, hy8, hM⟩ := bind_some' hM
      have hy8' := idx_some hy8
      refine tr_sr hT hm [(3, .val (iv y7)), (7, .val (iv y8))] [0, 2, 10, 50] [(0, .d (.sl a0.length 0 (a0.flatMap eI.b))), (2, .d (.sl a1.length 0 (a1.flatMap eI.b))), (10, .d (iv s2)), (50, .d (bv (y7 != y8)))] (.cons hy7'.1 (.cons hy7'.2.1 (.cons (at_b0 eI_ok hy7'.2.2 (d := iv y7) (by kernel_rfl)) (.cons hy8'.1 (.cons hy8'.2.1 (.cons (at_b0 eI_ok hy8'.2.2 (d := iv y8) (by kernel_rfl)) .nil)))))) (by kernel_rfl) (by kernel_rfl) ?_
      rcases Bool.eq_false_or_eq_true (y7 != y8) with h9 | h9
      · have hM := ite_true' hM h9
        refine tr_condTe (e := y7 != y8) h9 (by kernel_rfl) ?_
        refine tr_sr hT hm [] [8] [(8, .d (bv false))] .nil (by kernel_rfl) (by kernel_rfl) ?_
        refine tr_ret (b_r (q_r (l_r (b_r (q_r (rg_r ?_))))))
        obtain rfl := Option.some.inj hM
        exact retg (names := []) .nil (by kernel_rfl)
      · have hM := ite_false' hM h9
        refine tr_condFe (e := y7 != y8) h9 (by kernel_rfl) ?_
        refine tr_skip (b_n (q_n ?_))
        refine tr_r hT hm [] [0, 2, 10] [(0, .d (.sl a0.length 0 (a0.flatMap eI.b))), (2, .d (.sl a1.length 0 (a1.flatMap eI.b))), (10, .d (iv (IntKind.i64.wrap (s2 + 1))))] .nil (by kernel_rfl) (by kernel_rfl) (l_n ?_)
        exact trl_start (ks := [0, 2, 10]) (by kernel_rfl) (ih4 (IntKind.i64.wrap (s2 + 1)) hM)
    · have hM := ite_false' hM h6
      refine tr_condFe (e := decide (s2 < (a0.length : Int))) h6 (by kernel_rfl) ?_
      refine tr_exit (q_x (l_x (b_h (q_n ?_))))
      refine tr_sr hT hm [] [8] [(8, .d (bv true))] .nil (by kernel_rfl) (by kernel_rfl) ?_
      refine tr_ret (rg_r ?_)
      obtain rfl := Option.some.inj hM
      exact retg (names := []) .nil (by kernel_rfl)

theorem ok173 : CallOk Try.prog 173 := callOk_of Try.func173 (by kernel_rfl) (by kernel_rfl)
theorem spec_l01Same2_c (a0 : List (List Int)) (a1 : List (List Int)) (r : Bool) (hM : M.spec_l01Same2 a0 a1 = some r) :
    FnC Try.prog 173 [] [.sl a0.length 0 (a0.flatMap (eS eI).b), .sl a1.length 0 (a1.flatMap (eS eI).b)] [] (bv r) := by
  refine fnc_startG (N := 27) (np := 500) hT Try.func173 rfl rfl (by kernel_rfl) ?_
  unfold M.spec_l01Same2 at hM
  refine tr_start (ks := [0, 2]) (st' := [(0, .d (.sl a0.length 0 (a0.flatMap (eS eI).b))), (2, .d (.sl a1.length 0 (a1.flatMap (eS eI).b)))]) (by kernel_rfl) ?_
  refine tr_sr hT hm [] [0, 2] [(0, .d (.sl a0.length 0 (a0.flatMap (eS eI).b))), (2, .d (.sl a1.length 0 (a1.flatMap (eS eI).b)))] .nil (by kernel_rfl) (by kernel_rfl) ?_
  refine tr_seq ?_
  refine tr_sr hT hm [] [0, 2, 20] [(0, .d (.sl a0.length 0 (a0.flatMap (eS eI).b))), (2, .d (.sl a1.length 0 (a1.flatMap (eS eI).b))), (20, .d (bv ((a0.length : Int) != (a1.length : Int))))] .nil (by kernel_rfl) (by kernel_rfl) ?_
  rcases Bool.eq_false_or_eq_true ((a0.length : Int) != (a1.length : Int)) with h1 | h1
  · have hM := ite_true' hM h1
    refine tr_condTe (e := (a0.length : Int) != (a1.length : Int)) h1 (by kernel_rfl) ?_
    refine tr_sr hT hm [] [8] [(8, .d (bv false))] .nil (by kernel_rfl) (by kernel_rfl) ?_
    refine tr_ret (q_r (rg_r ?_))
    obtain rfl := Option.some.inj hM
    exact retg (names := []) .nil (by kernel_rfl)
  · have hM := ite_false' hM h1
    refine tr_condFe (e := (a0.length : Int) != (a1.length : Int)) h1 (by kernel_rfl) ?_
    refine tr_skip (q_n ?_)
    refine tr_seq ?_
    refine tr_sr hT hm [] [0, 2, 10] [(0, .d (.sl a0.length 0 (a0.flatMap (eS eI).b))), (2, .d (.sl a1.length 0 (a1.flatMap (eS eI).b))), (10, .d (iv 0))] .nil (by kernel_rfl) (by kernel_rfl) ?_
    refine tr_block ?_
    refine tr_iterS (fun (s2 : Int) => [(0, .d (.sl a0.length 0 (a0.flatMap (eS eI).b))), (2, .d (.sl a1.length 0 (a1.flatMap (eS eI).b))), (10, .d (iv s2))]) 0 [0, 2, 10] (by kernel_rfl) hM ?_
    intro n5 next3 ih4 s2 hM
    refine tr_seq ?_
    refine tr_sr hT hm [] [0, 2, 10, 28] [(0, .d (.sl a0.length 0 (a0.flatMap (eS eI).b))), (2, .d (.sl a1.length 0 (a1.flatMap (eS eI).b))), (10, .d (iv s2)), (28, .d (bv (decide (s2 < (a0.length : Int)))))] .nil (by kernel_rfl) (by kernel_rfl) ?_
    rcases Bool.eq_false_or_eq_true (decide (s2 < (a0.length : Int))) with h6 | h6
    · have hM := ite_true' hM h6
      refine tr_condTe (e := decide (s2 < (a0.length : Int))) h6 (by kernel_rfl) ?_
      refine tr_skip (q_n ?_)
      refine tr_seq ?_
      refine tr_block ?_
      obtain ⟨y7, hy7, hM⟩ := bind_some' hM
      have hy7' := idx_some hy7
      obtain ⟨y8, hy8, hM⟩ := bind_some' hM
      have hy8' := idx_some hy8
      obtain ⟨v9, hv9, hM⟩ := bind_some' hM
      refine tr_sr hT hm [(3, .val (.sl y7.length 0 (y7.flatMap eI.b))), (7, .val (.sl y8.length 0 (y8.flatMap eI.b))), (8, .call [] [] [.sl y7.length 0 (y7.flatMap eI.b), .sl y8.length 0 (y8.flatMap eI.b)] [] (bv v9))] [0, 2, 10, 52] [(0, .d (.sl a0.length 0 (a0.flatMap (eS eI).b))), (2, .d (.sl a1.length 0 (a1.flatMap (eS eI).b))), (10, .d (iv s2)), (52, .d (bv (!v9)))] (.cons hy7'.1 (.cons hy7'.2.1 (.cons (at_b0 (eS_ok eI_ok) hy7'.2.2 (d := .sl y7.length 0 (y7.flatMap eI.b)) (by kernel_rfl)) (.cons hy8'.1 (.cons hy8'.2.1 (.cons (at_b0 (eS_ok eI_ok) hy8'.2.2 (d := .sl y8.length 0 (y8.flatMap eI.b)) (by kernel_rfl)) (cc0 ok172 (spec_l01Same_c y7 y8 _ hv9) (by kernel_rfl) .nil))))))) (by kernel_rfl) (by kernel_rfl) ?_
      rcases Bool.eq_false_or_eq_true v9 with h10 | h10
      · have hM := ite_true' hM h10
        refine tr_condFe (e := !v9) (congrArg not h10) (by kernel_rfl) ?_
        refine tr_skip (b_n (q_n ?_))
        refine tr_r hT hm [] [0, 2, 10] [(0, .d (.sl a0.length 0 (a0.flatMap (eS eI).b))), (2, .d (.sl a1.length 0 (a1.flatMap (eS eI).b))), (10, .d (iv (IntKind.i64.wrap (s2 + 1))))] .nil (by kernel_rfl) (by kernel_rfl) (l_n ?_)
        exact trl_start (ks := [0, 2, 10]) (by kernel_rfl) (ih4 (IntKind.i64.wrap (s2 + 1)) hM)
      · have hM := ite_false' hM h10
        refine tr_condTe (e := !v9) (congrArg not h10) (by kernel_rfl) ?_
        refine tr_sr hT hm [] [8] [(8, .d (bv false))] .nil (by kernel_rfl) (by kernel_rfl) ?_
        refine tr_ret (b_r (q_r (l_r (b_r (q_r (rg_r ?_))))))
        obtain rfl := Option.some.inj hM
        exact retg (names := []) .nil (by kernel_rfl)
    · have hM := ite_false' hM h6
      refine tr_condFe (e := decide (s2 < (a0.length : Int))) h6 (by kernel_rfl) ?_
      refine tr_exit (q_x (l_x (b_h (q_n ?_))))
      refine tr_sr hT hm [] [8] [(8, .d (bv true))] .nil (by kernel_rfl) (by kernel_rfl) ?_
      refine tr_ret (rg_r ?_)
      obtain rfl := Option.some.inj hM
      exact retg (names := []) .nil (by kernel_rfl)

theorem ok102 : CallOk Try.prog 102 := callOk_of Try.func102 (by kernel_rfl) (by kernel_rfl)
theorem spec_l02Same_c (a0 : XCategory) (a1 : XCategory) (r : Bool) (hM : M.spec_l02Same a0 a1 = some r) :
    FnC Try.prog 102 [] [.agg (eXCategory.b a0), .agg (eXCategory.b a1)] [] (bv r) := by
  refine fnc_startG (N := 38) (np := 500) hT Try.func102 rfl rfl (by kernel_rfl) ?_
  unfold M.spec_l02Same at hM
  refine tr_start (ks := [0, 2]) (st' := [(0, .d (.agg (eXCategory.b a0))), (2, .d (.agg (eXCategory.b a1)))]) (by kernel_rfl) ?_
  refine tr_sr hT hm [] [4, 6, 2005, 2007] [(4, .d (.rp 1002 0)), (6, .d (.rp 1003 0)), bxB 2005 (eXCategory.b a0), bxB 2007 (eXCategory.b a1)] .nil (by kernel_rfl) (by kernel_rfl) ?_
  rcases Bool.eq_false_or_eq_true (a0.Objects == a1.Objects) with h1 | h1
  · have hM := ite_true' hM h1
    obtain ⟨v2, hv2, hM⟩ := bind_some' hM
    rcases Bool.eq_false_or_eq_true v2 with h3 | h3
    · have hM := ite_true' hM h3
      obtain ⟨v4, hv4, hM⟩ := bind_some' hM
      rcases Bool.eq_false_or_eq_true v4 with h5 | h5
      · have hM := ite_true' hM h5
        obtain ⟨v6, hv6, hM⟩ := bind_some' hM
        rcases Bool.eq_false_or_eq_true v6 with h7 | h7
        · have hM := ite_true' hM h7
          obtain ⟨v8, hv8, hM⟩ := bind_some' hM
          refine tr_sr hT hm [(5, .val (bv true)), (10, .call [] [] [.sl a0.From.length 0 (a0.From.flatMap eI.b), .sl a1.From.length 0 (a1.From.flatMap eI.b)] [] (bv v2)), (12, .val (bv true)), (17, .call [] [] [.sl a0.To.length 0 (a0.To.flatMap eI.b), .sl a1.To.length 0 (a1.To.flatMap eI.b)] [] (bv v4)), (19, .val (bv true)), (24, .call [] [] [.sl a0.Identity.length 0 (a0.Identity.flatMap eI.b), .sl a1.Identity.length 0 (a1.Identity.flatMap eI.b)] [] (bv v6)), (26, .val (bv true)), (31, .call [] [] [.sl a0.Composites.length 0 (a0.Composites.flatMap (eS eI).b), .sl a1.Composites.length 0 (a1.Composites.flatMap (eS eI).b)] [] (bv v8))] [8] [(8, .d (bv v8))] (.cons (congrArg (fun b => bv b) h1) (cc0 ok172 (spec_l01Same_c a0.From a1.From _ hv2) (by kernel_rfl) (.cons (congrArg (fun b => bv b) h3) (cc0 ok172 (spec_l01Same_c a0.To a1.To _ hv4) (by kernel_rfl) (.cons (congrArg (fun b => bv b) h5) (cc0 ok172 (spec_l01Same_c a0.Identity a1.Identity _ hv6) (by kernel_rfl) (.cons (congrArg (fun b => bv b) h7) (cc0 ok173 (spec_l01Same2_c a0.Composites a1.Composites _ hv8) (by kernel_rfl) .nil)))))))) (by kernel_rfl) (by kernel_rfl) ?_
          refine tr_ret (rg_r ?_)
          obtain rfl := Option.some.inj hM
          exact retg (names := []) .nil (by kernel_rfl)
        · have hM := ite_false' hM h7
          refine tr_sr hT hm [(5, .val (bv true)), (10, .call [] [] [.sl a0.From.length 0 (a0.From.flatMap eI.b), .sl a1.From.length 0 (a1.From.flatMap eI.b)] [] (bv v2)), (12, .val (bv true)), (17, .call [] [] [.sl a0.To.length 0 (a0.To.flatMap eI.b), .sl a1.To.length 0 (a1.To.flatMap eI.b)] [] (bv v4)), (19, .val (bv true)), (24, .call [] [] [.sl a0.Identity.length 0 (a0.Identity.flatMap eI.b), .sl a1.Identity.length 0 (a1.Identity.flatMap eI.b)] [] (bv v6)), (26, .val (bv false))] [8] [(8, .d (bv false))] (.cons (congrArg (fun b => bv b) h1) (cc0 ok172 (spec_l01Same_c a0.From a1.From _ hv2) (by kernel_rfl) (.cons (congrArg (fun b => bv b) h3) (cc0 ok172 (spec_l01Same_c a0.To a1.To _ hv4) (by kernel_rfl) (.cons (congrArg (fun b => bv b) h5) (cc0 ok172 (spec_l01Same_c a0.Identity a1.Identity _ hv6) (by kernel_rfl) (.cons (congrArg (fun b => bv b) h7) .nil))))))) (by kernel_rfl) (by kernel_rfl) ?_
          refine tr_ret (rg_r ?_)
          obtain rfl := Option.some.inj hM
          exact retg (names := []) .nil (by kernel_rfl)
      · have hM := ite_false' hM h5
        refine tr_sr hT hm [(5, .val (bv true)), (10, .call [] [] [.sl a0.From.length 0 (a0.From.flatMap eI.b), .sl a1.From.length 0 (a1.From.flatMap eI.b)] [] (bv v2)), (12, .val (bv true)), (17, .call [] [] [.sl a0.To.length 0 (a0.To.flatMap eI.b), .sl a1.To.length 0 (a1.To.flatMap eI.b)] [] (bv v4)), (19, .val (bv false))] [8] [(8, .d (bv false))] (.cons (congrArg (fun b => bv b) h1) (cc0 ok172 (spec_l01Same_c a0.From a1.From _ hv2) (by kernel_rfl) (.cons (congrArg (fun b => bv b) h3) (cc0 ok172 (spec_l01Same_c a0.To a1.To _ hv4) (by kernel_rfl) (.cons (congrArg (fun b => bv b) h5) .nil))))) (by kernel_rfl) (by kernel_rfl) ?_
        refine tr_ret (rg_r ?_)
        obtain rfl := Option.some.inj hM
        exact retg (names := []) .nil (by kernel_rfl)
    · have hM := ite_false' hM h3
      refine tr_sr hT hm [(5, .val (bv true)), (10, .call [] [] [.sl a0.From.length 0 (a0.From.flatMap eI.b), .sl a1.From.length 0 (a1.From.flatMap eI.b)] [] (bv v2)), (12, .val (bv false))] [8] [(8, .d (bv false))] (.cons (congrArg (fun b => bv b) h1) (cc0 ok172 (spec_l01Same_c a0.From a1.From _ hv2) (by kernel_rfl) (.cons (congrArg (fun b => bv b) h3) .nil))) (by kernel_rfl) (by kernel_rfl) ?_
      refine tr_ret (rg_r ?_)
      obtain rfl := Option.some.inj hM
      exact retg (names := []) .nil (by kernel_rfl)
  · have hM := ite_false' hM h1
    refine tr_sr hT hm [(5, .val (bv false))] [8] [(8, .d (bv false))] (.cons (congrArg (fun b => bv b) h1) .nil) (by kernel_rfl) (by kernel_rfl) ?_
    refine tr_ret (rg_r ?_)
    obtain rfl := Option.some.inj hM
    exact retg (names := []) .nil (by kernel_rfl)

theorem ok219 : CallOk Try.prog 219 := callOk_of Try.func219 (by kernel_rfl) (by kernel_rfl)
theorem spec_l07Parallel_c (a0 : XFunctor) (a1 : XFunctor) (r : Bool) (hM : M.spec_l07Parallel a0 a1 = some r) :
    FnC Try.prog 219 [] [.agg (eXFunctor.b a0), .agg (eXFunctor.b a1)] [] (bv r) := by
  refine fnc_startG (N := 17) (np := 500) hT Try.func219 rfl rfl (by kernel_rfl) ?_
  unfold M.spec_l07Parallel at hM
  refine tr_start (ks := [0, 2]) (st' := [(0, .d (.agg (eXFunctor.b a0))), (2, .d (.agg (eXFunctor.b a1)))]) (by kernel_rfl) ?_
  refine tr_sr hT hm [] [4, 6, 2005, 2007] [(4, .d (.rp 1002 0)), (6, .d (.rp 1003 0)), bxB 2005 (eXFunctor.b a0), bxB 2007 (eXFunctor.b a1)] .nil (by kernel_rfl) (by kernel_rfl) ?_
  obtain ⟨v1, hv1, hM⟩ := bind_some' hM
  rcases Bool.eq_false_or_eq_true v1 with h2 | h2
  · have hM := ite_true' hM h2
    obtain ⟨v3, hv3, hM⟩ := bind_some' hM
    refine tr_sr hT hm [(4, .call [] [] [.agg [iv a0.Source.Objects, .sl a0.Source.From.length 0 (a0.Source.From.flatMap eI.b), .sl a0.Source.To.length 0 (a0.Source.To.flatMap eI.b), .sl a0.Source.Identity.length 0 (a0.Source.Identity.flatMap eI.b), .sl a0.Source.Composites.length 0 (a0.Source.Composites.flatMap (eS eI).b)], .agg [iv a1.Source.Objects, .sl a1.Source.From.length 0 (a1.Source.From.flatMap eI.b), .sl a1.Source.To.length 0 (a1.Source.To.flatMap eI.b), .sl a1.Source.Identity.length 0 (a1.Source.Identity.flatMap eI.b), .sl a1.Source.Composites.length 0 (a1.Source.Composites.flatMap (eS eI).b)]] [] (bv v1)), (5, .val (bv true)), (10, .call [] [] [.agg [iv a0.Target.Objects, .sl a0.Target.From.length 0 (a0.Target.From.flatMap eI.b), .sl a0.Target.To.length 0 (a0.Target.To.flatMap eI.b), .sl a0.Target.Identity.length 0 (a0.Target.Identity.flatMap eI.b), .sl a0.Target.Composites.length 0 (a0.Target.Composites.flatMap (eS eI).b)], .agg [iv a1.Target.Objects, .sl a1.Target.From.length 0 (a1.Target.From.flatMap eI.b), .sl a1.Target.To.length 0 (a1.Target.To.flatMap eI.b), .sl a1.Target.Identity.length 0 (a1.Target.Identity.flatMap eI.b), .sl a1.Target.Composites.length 0 (a1.Target.Composites.flatMap (eS eI).b)]] [] (bv v3))] [8] [(8, .d (bv v3))] (cc0 ok102 (spec_l02Same_c a0.Source a1.Source _ hv1) (by kernel_rfl) (.cons (congrArg (fun b => bv b) h2) (cc0 ok102 (spec_l02Same_c a0.Target a1.Target _ hv3) (by kernel_rfl) .nil))) (by kernel_rfl) (by kernel_rfl) ?_
    refine tr_ret (rg_r ?_)
    obtain rfl := Option.some.inj hM
    exact retg (names := []) .nil (by kernel_rfl)
  · have hM := ite_false' hM h2
    refine tr_sr hT hm [(4, .call [] [] [.agg [iv a0.Source.Objects, .sl a0.Source.From.length 0 (a0.Source.From.flatMap eI.b), .sl a0.Source.To.length 0 (a0.Source.To.flatMap eI.b), .sl a0.Source.Identity.length 0 (a0.Source.Identity.flatMap eI.b), .sl a0.Source.Composites.length 0 (a0.Source.Composites.flatMap (eS eI).b)], .agg [iv a1.Source.Objects, .sl a1.Source.From.length 0 (a1.Source.From.flatMap eI.b), .sl a1.Source.To.length 0 (a1.Source.To.flatMap eI.b), .sl a1.Source.Identity.length 0 (a1.Source.Identity.flatMap eI.b), .sl a1.Source.Composites.length 0 (a1.Source.Composites.flatMap (eS eI).b)]] [] (bv v1)), (5, .val (bv false))] [8] [(8, .d (bv false))] (cc0 ok102 (spec_l02Same_c a0.Source a1.Source _ hv1) (by kernel_rfl) (.cons (congrArg (fun b => bv b) h2) .nil)) (by kernel_rfl) (by kernel_rfl) ?_
    refine tr_ret (rg_r ?_)
    obtain rfl := Option.some.inj hM
    exact retg (names := []) .nil (by kernel_rfl)

theorem ok220 : CallOk Try.prog 220 := callOk_of Try.func220 (by kernel_rfl) (by kernel_rfl)
theorem spec_l07Ends_c (a0 : XFunctor) (a1 : XFunctor) (a2 : List Int) (r : Bool) (hM : M.spec_l07Ends a0 a1 a2 = some r) :
    FnC Try.prog 220 [] [.agg (eXFunctor.b a0), .agg (eXFunctor.b a1), .sl a2.length 0 (a2.flatMap eI.b)] [] (bv r) := by
  refine fnc_startG (N := 61) (np := 500) hT Try.func220 rfl rfl (by kernel_rfl) ?_
  unfold M.spec_l07Ends at hM
  refine tr_start (ks := [0, 2, 4]) (st' := [(0, .d (.agg (eXFunctor.b a0))), (2, .d (.agg (eXFunctor.b a1))), (4, .d (.sl a2.length 0 (a2.flatMap eI.b)))]) (by kernel_rfl) ?_
  refine tr_sr hT hm [] [4, 6, 8, 2007, 2009] [(4, .d (.sl a2.length 0 (a2.flatMap eI.b))), (6, .d (.rp 1003 0)), (8, .d (.rp 1004 0)), bxB 2007 (eXFunctor.b a0), bxB 2009 (eXFunctor.b a1)] .nil (by kernel_rfl) (by kernel_rfl) ?_
  refine tr_seq ?_
  rcases Bool.eq_false_or_eq_true ((a2.length : Int) != a0.Source.Objects) with h1 | h1
  · have hM := ite_true' hM h1
    refine tr_sr hT hm [(6, .val (bv true))] [4, 6, 8, 44, 2007, 2009] [(4, .d (.sl a2.length 0 (a2.flatMap eI.b))), (6, .d (.rp 1003 0)), (8, .d (.rp 1004 0)), (44, .d (bv true)), bxB 2007 (eXFunctor.b a0), bxB 2009 (eXFunctor.b a1)] (.cons (congrArg (fun b => bv b) h1) .nil) (by kernel_rfl) (by kernel_rfl) ?_
    refine tr_condT (by kernel_rfl) ?_
    refine tr_sr hT hm [] [12] [(12, .d (bv false))] .nil (by kernel_rfl) (by kernel_rfl) ?_
    refine tr_ret (q_r (rg_r ?_))
    obtain rfl := Option.some.inj hM
    exact retg (names := []) .nil (by kernel_rfl)
  · have hM := ite_false' hM h1
    obtain ⟨v2, hv2, hM⟩ := bind_some' hM
    refine tr_sr hT hm [(6, .val (bv false)), (12, .call [] [] [iv (a0.Target.From.length : Int), .sl a2.length 0 (a2.flatMap eI.b)] [] (bv v2))] [4, 6, 8, 44, 2007, 2009] [(4, .d (.sl a2.length 0 (a2.flatMap eI.b))), (6, .d (.rp 1003 0)), (8, .d (.rp 1004 0)), (44, .d (bv (!v2))), bxB 2007 (eXFunctor.b a0), bxB 2009 (eXFunctor.b a1)] (.cons (congrArg (fun b => bv b) h1) (cc0 ok148 (spec_l01Map_c (a0.Target.From.length : Int) a2 _ hv2) (by kernel_rfl) .nil)) (by kernel_rfl) (by kernel_rfl) ?_
    rcases Bool.eq_false_or_eq_true v2 with h3 | h3
    · have hM := ite_true' hM h3
      refine tr_condFe (e := !v2) (congrArg not h3) (by kernel_rfl) ?_
      refine tr_skip (q_n ?_)
      refine tr_seq ?_
      refine tr_sr hT hm [] [4, 6, 8, 14, 2007, 2009] [(4, .d (.sl a2.length 0 (a2.flatMap eI.b))), (6, .d (.rp 1003 0)), (8, .d (.rp 1004 0)), (14, .d (iv 0)), bxB 2007 (eXFunctor.b a0), bxB 2009 (eXFunctor.b a1)] .nil (by kernel_rfl) (by kernel_rfl) ?_
      refine tr_block ?_
      refine tr_iterS (fun (s4 : Int) => [(4, .d (.sl a2.length 0 (a2.flatMap eI.b))), (6, .d (.rp 1003 0)), (8, .d (.rp 1004 0)), (14, .d (iv s4)), bxB 2007 (eXFunctor.b a0), bxB 2009 (eXFunctor.b a1)]) 0 [4, 6, 8, 14, 2007, 2009] (by kernel_rfl) hM ?_
      intro n7 next5 ih6 s4 hM
      refine tr_seq ?_
      refine tr_sr hT hm [] [4, 6, 8, 14, 52, 2007, 2009] [(4, .d (.sl a2.length 0 (a2.flatMap eI.b))), (6, .d (.rp 1003 0)), (8, .d (.rp 1004 0)), (14, .d (iv s4)), (52, .d (bv (decide (s4 < (a2.length : Int))))), bxB 2007 (eXFunctor.b a0), bxB 2009 (eXFunctor.b a1)] .nil (by kernel_rfl) (by kernel_rfl) ?_
      rcases Bool.eq_false_or_eq_true (decide (s4 < (a2.length : Int))) with h8 | h8
      · have hM := ite_true' hM h8
        refine tr_condTe (e := decide (s4 < (a2.length : Int))) h8 (by kernel_rfl) ?_
        refine tr_skip (q_n ?_)
        refine tr_seq ?_
        refine tr_block ?_
        obtain ⟨y9, hy9, hM⟩ := bind_some' hM
        have hy9' := idx_some hy9
        obtain ⟨y10, hy10, hM⟩ := bind_some' hM
        have hy10' := idx_some hy10
        obtain ⟨y11, hy11, hM⟩ := bind_some' hM
        have hy11' := idx_some hy11
        rcases Bool.eq_false_or_eq_true (y10 != y11) with h12 | h12
        · have hM := ite_true' hM h12
          refine tr_sr hT hm [(6, .val (iv y9)), (8, .val (iv y10)), (13, .val (iv y11)), (15, .val (bv true))] [4, 6, 8, 14, 120, 2007, 2009] [(4, .d (.sl a2.length 0 (a2.flatMap eI.b))), (6, .d (.rp 1003 0)), (8, .d (.rp 1004 0)), (14, .d (iv s4)), (120, .d (bv true)), bxB 2007 (eXFunctor.b a0), bxB 2009 (eXFunctor.b a1)] (.cons hy9'.1 (.cons hy9'.2.1 (.cons (at_b0 eI_ok hy9'.2.2 (d := iv y9) (by kernel_rfl)) (.cons hy10'.1 (.cons hy10'.2.1 (.cons (at_b0 eI_ok hy10'.2.2 (d := iv y10) (by kernel_rfl)) (.cons hy11'.1 (.cons hy11'.2.1 (.cons (at_b0 eI_ok hy11'.2.2 (d := iv y11) (by kernel_rfl)) (.cons (congrArg (fun b => bv b) h12) .nil)))))))))) (by kernel_rfl) (by kernel_rfl) ?_
          refine tr_condT (by kernel_rfl) ?_
          refine tr_sr hT hm [] [12] [(12, .d (bv false))] .nil (by kernel_rfl) (by kernel_rfl) ?_
          refine tr_ret (b_r (q_r (l_r (b_r (q_r (rg_r ?_))))))
          obtain rfl := Option.some.inj hM
          exact retg (names := []) .nil (by kernel_rfl)
        · have hM := ite_false' hM h12
          obtain ⟨y13, hy13, hM⟩ := bind_some' hM
          have hy13' := idx_some hy13
          obtain ⟨y14, hy14, hM⟩ := bind_some' hM
          have hy14' := idx_some hy14
          refine tr_sr hT hm [(6, .val (iv y9)), (8, .val (iv y10)), (13, .val (iv y11)), (15, .val (bv false)), (22, .val (iv y9)), (24, .val (iv y13)), (29, .val (iv y14))] [4, 6, 8, 14, 90, 92, 94, 96, 98, 100, 102, 104, 106, 108, 110, 112, 114, 116, 118, 120, 2007, 2009] [(4, .d (.sl a2.length 0 (a2.flatMap eI.b))), (6, .d (.rp 1003 0)), (8, .d (.rp 1004 0)), (14, .d (iv s4)), (90, .d (.rp 1003 5)), (92, .d (.rp 1003 7)), (94, .d (.sl a0.Target.To.length 0 (a0.Target.To.flatMap eI.b))), (96, .d (.sl a2.length 0 (a2.flatMap eI.b))), (98, .d (iv s4)), (100, .d (.pt (a2.flatMap eI.b) (0 + s4.toNat * 1))), (102, .d (iv y9)), (104, .d (.pt (a0.Target.To.flatMap eI.b) (0 + y9.toNat * 1))), (106, .d (iv y13)), (108, .d (.rp 1004 10)), (110, .d (.sl a1.Objects.length 0 (a1.Objects.flatMap eI.b))), (112, .d (iv s4)), (114, .d (.pt (a1.Objects.flatMap eI.b) (0 + s4.toNat * 1))), (116, .d (iv y14)), (118, .d (bv (y13 != y14))), (120, .d (bv (y13 != y14))), bxB 2007 (eXFunctor.b a0), bxB 2009 (eXFunctor.b a1)] (.cons hy9'.1 (.cons hy9'.2.1 (.cons (at_b0 eI_ok hy9'.2.2 (d := iv y9) (by kernel_rfl)) (.cons hy10'.1 (.cons hy10'.2.1 (.cons (at_b0 eI_ok hy10'.2.2 (d := iv y10) (by kernel_rfl)) (.cons hy11'.1 (.cons hy11'.2.1 (.cons (at_b0 eI_ok hy11'.2.2 (d := iv y11) (by kernel_rfl)) (.cons (congrArg (fun b => bv b) h12) (.cons hy9'.1 (.cons hy9'.2.1 (.cons (at_b0 eI_ok hy9'.2.2 (d := iv y9) (by kernel_rfl)) (.cons hy13'.1 (.cons hy13'.2.1 (.cons (at_b0 eI_ok hy13'.2.2 (d := iv y13) (by kernel_rfl)) (.cons hy14'.1 (.cons hy14'.2.1 (.cons (at_b0 eI_ok hy14'.2.2 (d := iv y14) (by kernel_rfl)) .nil))))))))))))))))))) (by kernel_rfl) (by kernel_rfl) ?_
          rcases Bool.eq_false_or_eq_true (y13 != y14) with h15 | h15
          · have hM := ite_true' hM h15
            refine tr_condTe (e := y13 != y14) h15 (by kernel_rfl) ?_
            refine tr_sr hT hm [] [12] [(12, .d (bv false))] .nil (by kernel_rfl) (by kernel_rfl) ?_
            refine tr_ret (b_r (q_r (l_r (b_r (q_r (rg_r ?_))))))
            obtain rfl := Option.some.inj hM
            exact retg (names := []) .nil (by kernel_rfl)
          · have hM := ite_false' hM h15
            refine tr_condFe (e := y13 != y14) h15 (by kernel_rfl) ?_
            refine tr_skip (b_n (q_n ?_))
            refine tr_r hT hm [] [4, 6, 8, 14, 90, 92, 94, 96, 98, 100, 102, 104, 106, 108, 110, 112, 114, 116, 118, 2007, 2009] [(4, .d (.sl a2.length 0 (a2.flatMap eI.b))), (6, .d (.rp 1003 0)), (8, .d (.rp 1004 0)), (14, .d (iv (IntKind.i64.wrap (s4 + 1)))), (90, .d (.rp 1003 5)), (92, .d (.rp 1003 7)), (94, .d (.sl a0.Target.To.length 0 (a0.Target.To.flatMap eI.b))), (96, .d (.sl a2.length 0 (a2.flatMap eI.b))), (98, .d (iv s4)), (100, .d (.pt (a2.flatMap eI.b) (0 + s4.toNat * 1))), (102, .d (iv y9)), (104, .d (.pt (a0.Target.To.flatMap eI.b) (0 + y9.toNat * 1))), (106, .d (iv y13)), (108, .d (.rp 1004 10)), (110, .d (.sl a1.Objects.length 0 (a1.Objects.flatMap eI.b))), (112, .d (iv s4)), (114, .d (.pt (a1.Objects.flatMap eI.b) (0 + s4.toNat * 1))), (116, .d (iv y14)), (118, .d (bv (y13 != y14))), bxB 2007 (eXFunctor.b a0), bxB 2009 (eXFunctor.b a1)] .nil (by kernel_rfl) (by kernel_rfl) (l_n ?_)
            exact trl_start (ks := [4, 6, 8, 14, 2007, 2009]) (by kernel_rfl) (ih6 (IntKind.i64.wrap (s4 + 1)) hM)
      · have hM := ite_false' hM h8
        refine tr_condFe (e := decide (s4 < (a2.length : Int))) h8 (by kernel_rfl) ?_
        refine tr_exit (q_x (l_x (b_h (q_n ?_))))
        refine tr_sr hT hm [] [12] [(12, .d (bv true))] .nil (by kernel_rfl) (by kernel_rfl) ?_
        refine tr_ret (rg_r ?_)
        obtain rfl := Option.some.inj hM
        exact retg (names := []) .nil (by kernel_rfl)
    · have hM := ite_false' hM h3
      refine tr_condTe (e := !v2) (congrArg not h3) (by kernel_rfl) ?_
      refine tr_sr hT hm [] [12] [(12, .d (bv false))] .nil (by kernel_rfl) (by kernel_rfl) ?_
      refine tr_ret (q_r (rg_r ?_))
      obtain rfl := Option.some.inj hM
      exact retg (names := []) .nil (by kernel_rfl)

theorem ok170 : CallOk Try.prog 170 := callOk_of Try.func170 (by kernel_rfl) (by kernel_rfl)
theorem spec_l07Shape_c (a0 : XTransformation) (r : Bool) (hM : M.spec_l07Shape a0 = some r) :
    FnC Try.prog 170 [] [.agg (eXTransformation.b a0)] [] (bv r) := by
  refine fnc_startG (N := 27) (np := 500) hT Try.func170 rfl rfl (by kernel_rfl) ?_
  unfold M.spec_l07Shape at hM
  refine tr_start (ks := [0]) (st' := [(0, .d (.agg (eXTransformation.b a0)))]) (by kernel_rfl) ?_
  refine tr_sr hT hm [] [2, 2003] [(2, .d (.rp 1001 0)), bxB 2003 (eXTransformation.b a0)] .nil (by kernel_rfl) (by kernel_rfl) ?_
  obtain ⟨v1, hv1, hM⟩ := bind_some' hM
  rcases Bool.eq_false_or_eq_true v1 with h2 | h2
  · have hM := ite_true' hM h2
    obtain ⟨v3, hv3, hM⟩ := bind_some' hM
    rcases Bool.eq_false_or_eq_true v3 with h4 | h4
    · have hM := ite_true' hM h4
      obtain ⟨v5, hv5, hM⟩ := bind_some' hM
      rcases Bool.eq_false_or_eq_true v5 with h6 | h6
      · have hM := ite_true' hM h6
        obtain ⟨v7, hv7, hM⟩ := bind_some' hM
        refine tr_sr hT hm [(2, .call [] [] [.agg [iv a0.Source.Source.Objects, .sl a0.Source.Source.From.length 0 (a0.Source.Source.From.flatMap eI.b), .sl a0.Source.Source.To.length 0 (a0.Source.Source.To.flatMap eI.b), .sl a0.Source.Source.Identity.length 0 (a0.Source.Source.Identity.flatMap eI.b), .sl a0.Source.Source.Composites.length 0 (a0.Source.Source.Composites.flatMap (eS eI).b), iv a0.Source.Target.Objects, .sl a0.Source.Target.From.length 0 (a0.Source.Target.From.flatMap eI.b), .sl a0.Source.Target.To.length 0 (a0.Source.Target.To.flatMap eI.b), .sl a0.Source.Target.Identity.length 0 (a0.Source.Target.Identity.flatMap eI.b), .sl a0.Source.Target.Composites.length 0 (a0.Source.Target.Composites.flatMap (eS eI).b), .sl a0.Source.Objects.length 0 (a0.Source.Objects.flatMap eI.b), .sl a0.Source.Arrows.length 0 (a0.Source.Arrows.flatMap eI.b)]] [] (bv v1)), (3, .val (bv true)), (6, .call [] [] [.agg [iv a0.Target.Source.Objects, .sl a0.Target.Source.From.length 0 (a0.Target.Source.From.flatMap eI.b), .sl a0.Target.Source.To.length 0 (a0.Target.Source.To.flatMap eI.b), .sl a0.Target.Source.Identity.length 0 (a0.Target.Source.Identity.flatMap eI.b), .sl a0.Target.Source.Composites.length 0 (a0.Target.Source.Composites.flatMap (eS eI).b), iv a0.Target.Target.Objects, .sl a0.Target.Target.From.length 0 (a0.Target.Target.From.flatMap eI.b), .sl a0.Target.Target.To.length 0 (a0.Target.Target.To.flatMap eI.b), .sl a0.Target.Target.Identity.length 0 (a0.Target.Target.Identity.flatMap eI.b), .sl a0.Target.Target.Composites.length 0 (a0.Target.Target.Composites.flatMap (eS eI).b), .sl a0.Target.Objects.length 0 (a0.Target.Objects.flatMap eI.b), .sl a0.Target.Arrows.length 0 (a0.Target.Arrows.flatMap eI.b)]] [] (bv v3)), (8, .val (bv true)), (13, .call [] [] [.agg [iv a0.Source.Source.Objects, .sl a0.Source.Source.From.length 0 (a0.Source.Source.From.flatMap eI.b), .sl a0.Source.Source.To.length 0 (a0.Source.Source.To.flatMap eI.b), .sl a0.Source.Source.Identity.length 0 (a0.Source.Source.Identity.flatMap eI.b), .sl a0.Source.Source.Composites.length 0 (a0.Source.Source.Composites.flatMap (eS eI).b), iv a0.Source.Target.Objects, .sl a0.Source.Target.From.length 0 (a0.Source.Target.From.flatMap eI.b), .sl a0.Source.Target.To.length 0 (a0.Source.Target.To.flatMap eI.b), .sl a0.Source.Target.Identity.length 0 (a0.Source.Target.Identity.flatMap eI.b), .sl a0.Source.Target.Composites.length 0 (a0.Source.Target.Composites.flatMap (eS eI).b), .sl a0.Source.Objects.length 0 (a0.Source.Objects.flatMap eI.b), .sl a0.Source.Arrows.length 0 (a0.Source.Arrows.flatMap eI.b)], .agg [iv a0.Target.Source.Objects, .sl a0.Target.Source.From.length 0 (a0.Target.Source.From.flatMap eI.b), .sl a0.Target.Source.To.length 0 (a0.Target.Source.To.flatMap eI.b), .sl a0.Target.Source.Identity.length 0 (a0.Target.Source.Identity.flatMap eI.b), .sl a0.Target.Source.Composites.length 0 (a0.Target.Source.Composites.flatMap (eS eI).b), iv a0.Target.Target.Objects, .sl a0.Target.Target.From.length 0 (a0.Target.Target.From.flatMap eI.b), .sl a0.Target.Target.To.length 0 (a0.Target.Target.To.flatMap eI.b), .sl a0.Target.Target.Identity.length 0 (a0.Target.Target.Identity.flatMap eI.b), .sl a0.Target.Target.Composites.length 0 (a0.Target.Target.Composites.flatMap (eS eI).b), .sl a0.Target.Objects.length 0 (a0.Target.Objects.flatMap eI.b), .sl a0.Target.Arrows.length 0 (a0.Target.Arrows.flatMap eI.b)]] [] (bv v5)), (15, .val (bv true)), (22, .call [] [] [.agg [iv a0.Source.Source.Objects, .sl a0.Source.Source.From.length 0 (a0.Source.Source.From.flatMap eI.b), .sl a0.Source.Source.To.length 0 (a0.Source.Source.To.flatMap eI.b), .sl a0.Source.Source.Identity.length 0 (a0.Source.Source.Identity.flatMap eI.b), .sl a0.Source.Source.Composites.length 0 (a0.Source.Source.Composites.flatMap (eS eI).b), iv a0.Source.Target.Objects, .sl a0.Source.Target.From.length 0 (a0.Source.Target.From.flatMap eI.b), .sl a0.Source.Target.To.length 0 (a0.Source.Target.To.flatMap eI.b), .sl a0.Source.Target.Identity.length 0 (a0.Source.Target.Identity.flatMap eI.b), .sl a0.Source.Target.Composites.length 0 (a0.Source.Target.Composites.flatMap (eS eI).b), .sl a0.Source.Objects.length 0 (a0.Source.Objects.flatMap eI.b), .sl a0.Source.Arrows.length 0 (a0.Source.Arrows.flatMap eI.b)], .agg [iv a0.Target.Source.Objects, .sl a0.Target.Source.From.length 0 (a0.Target.Source.From.flatMap eI.b), .sl a0.Target.Source.To.length 0 (a0.Target.Source.To.flatMap eI.b), .sl a0.Target.Source.Identity.length 0 (a0.Target.Source.Identity.flatMap eI.b), .sl a0.Target.Source.Composites.length 0 (a0.Target.Source.Composites.flatMap (eS eI).b), iv a0.Target.Target.Objects, .sl a0.Target.Target.From.length 0 (a0.Target.Target.From.flatMap eI.b), .sl a0.Target.Target.To.length 0 (a0.Target.Target.To.flatMap eI.b), .sl a0.Target.Target.Identity.length 0 (a0.Target.Target.Identity.flatMap eI.b), .sl a0.Target.Target.Composites.length 0 (a0.Target.Target.Composites.flatMap (eS eI).b), .sl a0.Target.Objects.length 0 (a0.Target.Objects.flatMap eI.b), .sl a0.Target.Arrows.length 0 (a0.Target.Arrows.flatMap eI.b)], .sl a0.Components.length 0 (a0.Components.flatMap eI.b)] [] (bv v7))] [4] [(4, .d (bv v7))] (cc0 ok81 (spec_l06Is_c a0.Source _ hv1) (by kernel_rfl) (.cons (congrArg (fun b => bv b) h2) (cc0 ok81 (spec_l06Is_c a0.Target _ hv3) (by kernel_rfl) (.cons (congrArg (fun b => bv b) h4) (cc0 ok219 (spec_l07Parallel_c a0.Source a0.Target _ hv5) (by kernel_rfl) (.cons (congrArg (fun b => bv b) h6) (cc0 ok220 (spec_l07Ends_c a0.Source a0.Target a0.Components _ hv7) (by kernel_rfl) .nil))))))) (by kernel_rfl) (by kernel_rfl) ?_
        refine tr_ret (rg_r ?_)
        obtain rfl := Option.some.inj hM
        exact retg (names := []) .nil (by kernel_rfl)
      · have hM := ite_false' hM h6
        refine tr_sr hT hm [(2, .call [] [] [.agg [iv a0.Source.Source.Objects, .sl a0.Source.Source.From.length 0 (a0.Source.Source.From.flatMap eI.b), .sl a0.Source.Source.To.length 0 (a0.Source.Source.To.flatMap eI.b), .sl a0.Source.Source.Identity.length 0 (a0.Source.Source.Identity.flatMap eI.b), .sl a0.Source.Source.Composites.length 0 (a0.Source.Source.Composites.flatMap (eS eI).b), iv a0.Source.Target.Objects, .sl a0.Source.Target.From.length 0 (a0.Source.Target.From.flatMap eI.b), .sl a0.Source.Target.To.length 0 (a0.Source.Target.To.flatMap eI.b), .sl a0.Source.Target.Identity.length 0 (a0.Source.Target.Identity.flatMap eI.b), .sl a0.Source.Target.Composites.length 0 (a0.Source.Target.Composites.flatMap (eS eI).b), .sl a0.Source.Objects.length 0 (a0.Source.Objects.flatMap eI.b), .sl a0.Source.Arrows.length 0 (a0.Source.Arrows.flatMap eI.b)]] [] (bv v1)), (3, .val (bv true)), (6, .call [] [] [.agg [iv a0.Target.Source.Objects, .sl a0.Target.Source.From.length 0 (a0.Target.Source.From.flatMap eI.b), .sl a0.Target.Source.To.length 0 (a0.Target.Source.To.flatMap eI.b), .sl a0.Target.Source.Identity.length 0 (a0.Target.Source.Identity.flatMap eI.b), .sl a0.Target.Source.Composites.length 0 (a0.Target.Source.Composites.flatMap (eS eI).b), iv a0.Target.Target.Objects, .sl a0.Target.Target.From.length 0 (a0.Target.Target.From.flatMap eI.b), .sl a0.Target.Target.To.length 0 (a0.Target.Target.To.flatMap eI.b), .sl a0.Target.Target.Identity.length 0 (a0.Target.Target.Identity.flatMap eI.b), .sl a0.Target.Target.Composites.length 0 (a0.Target.Target.Composites.flatMap (eS eI).b), .sl a0.Target.Objects.length 0 (a0.Target.Objects.flatMap eI.b), .sl a0.Target.Arrows.length 0 (a0.Target.Arrows.flatMap eI.b)]] [] (bv v3)), (8, .val (bv true)), (13, .call [] [] [.agg [iv a0.Source.Source.Objects, .sl a0.Source.Source.From.length 0 (a0.Source.Source.From.flatMap eI.b), .sl a0.Source.Source.To.length 0 (a0.Source.Source.To.flatMap eI.b), .sl a0.Source.Source.Identity.length 0 (a0.Source.Source.Identity.flatMap eI.b), .sl a0.Source.Source.Composites.length 0 (a0.Source.Source.Composites.flatMap (eS eI).b), iv a0.Source.Target.Objects, .sl a0.Source.Target.From.length 0 (a0.Source.Target.From.flatMap eI.b), .sl a0.Source.Target.To.length 0 (a0.Source.Target.To.flatMap eI.b), .sl a0.Source.Target.Identity.length 0 (a0.Source.Target.Identity.flatMap eI.b), .sl a0.Source.Target.Composites.length 0 (a0.Source.Target.Composites.flatMap (eS eI).b), .sl a0.Source.Objects.length 0 (a0.Source.Objects.flatMap eI.b), .sl a0.Source.Arrows.length 0 (a0.Source.Arrows.flatMap eI.b)], .agg [iv a0.Target.Source.Objects, .sl a0.Target.Source.From.length 0 (a0.Target.Source.From.flatMap eI.b), .sl a0.Target.Source.To.length 0 (a0.Target.Source.To.flatMap eI.b), .sl a0.Target.Source.Identity.length 0 (a0.Target.Source.Identity.flatMap eI.b), .sl a0.Target.Source.Composites.length 0 (a0.Target.Source.Composites.flatMap (eS eI).b), iv a0.Target.Target.Objects, .sl a0.Target.Target.From.length 0 (a0.Target.Target.From.flatMap eI.b), .sl a0.Target.Target.To.length 0 (a0.Target.Target.To.flatMap eI.b), .sl a0.Target.Target.Identity.length 0 (a0.Target.Target.Identity.flatMap eI.b), .sl a0.Target.Target.Composites.length 0 (a0.Target.Target.Composites.flatMap (eS eI).b), .sl a0.Target.Objects.length 0 (a0.Target.Objects.flatMap eI.b), .sl a0.Target.Arrows.length 0 (a0.Target.Arrows.flatMap eI.b)]] [] (bv v5)), (15, .val (bv false))] [4] [(4, .d (bv false))] (cc0 ok81 (spec_l06Is_c a0.Source _ hv1) (by kernel_rfl) (.cons (congrArg (fun b => bv b) h2) (cc0 ok81 (spec_l06Is_c a0.Target _ hv3) (by kernel_rfl) (.cons (congrArg (fun b => bv b) h4) (cc0 ok219 (spec_l07Parallel_c a0.Source a0.Target _ hv5) (by kernel_rfl) (.cons (congrArg (fun b => bv b) h6) .nil)))))) (by kernel_rfl) (by kernel_rfl) ?_
        refine tr_ret (rg_r ?_)
        obtain rfl := Option.some.inj hM
        exact retg (names := []) .nil (by kernel_rfl)
    · have hM := ite_false' hM h4
      refine tr_sr hT hm [(2, .call [] [] [.agg [iv a0.Source.Source.Objects, .sl a0.Source.Source.From.length 0 (a0.Source.Source.From.flatMap eI.b), .sl a0.Source.Source.To.length 0 (a0.Source.Source.To.flatMap eI.b), .sl a0.Source.Source.Identity.length 0 (a0.Source.Source.Identity.flatMap eI.b), .sl a0.Source.Source.Composites.length 0 (a0.Source.Source.Composites.flatMap (eS eI).b), iv a0.Source.Target.Objects, .sl a0.Source.Target.From.length 0 (a0.Source.Target.From.flatMap eI.b), .sl a0.Source.Target.To.length 0 (a0.Source.Target.To.flatMap eI.b), .sl a0.Source.Target.Identity.length 0 (a0.Source.Target.Identity.flatMap eI.b), .sl a0.Source.Target.Composites.length 0 (a0.Source.Target.Composites.flatMap (eS eI).b), .sl a0.Source.Objects.length 0 (a0.Source.Objects.flatMap eI.b), .sl a0.Source.Arrows.length 0 (a0.Source.Arrows.flatMap eI.b)]] [] (bv v1)), (3, .val (bv true)), (6, .call [] [] [.agg [iv a0.Target.Source.Objects, .sl a0.Target.Source.From.length 0 (a0.Target.Source.From.flatMap eI.b), .sl a0.Target.Source.To.length 0 (a0.Target.Source.To.flatMap eI.b), .sl a0.Target.Source.Identity.length 0 (a0.Target.Source.Identity.flatMap eI.b), .sl a0.Target.Source.Composites.length 0 (a0.Target.Source.Composites.flatMap (eS eI).b), iv a0.Target.Target.Objects, .sl a0.Target.Target.From.length 0 (a0.Target.Target.From.flatMap eI.b), .sl a0.Target.Target.To.length 0 (a0.Target.Target.To.flatMap eI.b), .sl a0.Target.Target.Identity.length 0 (a0.Target.Target.Identity.flatMap eI.b), .sl a0.Target.Target.Composites.length 0 (a0.Target.Target.Composites.flatMap (eS eI).b), .sl a0.Target.Objects.length 0 (a0.Target.Objects.flatMap eI.b), .sl a0.Target.Arrows.length 0 (a0.Target.Arrows.flatMap eI.b)]] [] (bv v3)), (8, .val (bv false))] [4] [(4, .d (bv false))] (cc0 ok81 (spec_l06Is_c a0.Source _ hv1) (by kernel_rfl) (.cons (congrArg (fun b => bv b) h2) (cc0 ok81 (spec_l06Is_c a0.Target _ hv3) (by kernel_rfl) (.cons (congrArg (fun b => bv b) h4) .nil)))) (by kernel_rfl) (by kernel_rfl) ?_
      refine tr_ret (rg_r ?_)
      obtain rfl := Option.some.inj hM
      exact retg (names := []) .nil (by kernel_rfl)
  · have hM := ite_false' hM h2
    refine tr_sr hT hm [(2, .call [] [] [.agg [iv a0.Source.Source.Objects, .sl a0.Source.Source.From.length 0 (a0.Source.Source.From.flatMap eI.b), .sl a0.Source.Source.To.length 0 (a0.Source.Source.To.flatMap eI.b), .sl a0.Source.Source.Identity.length 0 (a0.Source.Source.Identity.flatMap eI.b), .sl a0.Source.Source.Composites.length 0 (a0.Source.Source.Composites.flatMap (eS eI).b), iv a0.Source.Target.Objects, .sl a0.Source.Target.From.length 0 (a0.Source.Target.From.flatMap eI.b), .sl a0.Source.Target.To.length 0 (a0.Source.Target.To.flatMap eI.b), .sl a0.Source.Target.Identity.length 0 (a0.Source.Target.Identity.flatMap eI.b), .sl a0.Source.Target.Composites.length 0 (a0.Source.Target.Composites.flatMap (eS eI).b), .sl a0.Source.Objects.length 0 (a0.Source.Objects.flatMap eI.b), .sl a0.Source.Arrows.length 0 (a0.Source.Arrows.flatMap eI.b)]] [] (bv v1)), (3, .val (bv false))] [4] [(4, .d (bv false))] (cc0 ok81 (spec_l06Is_c a0.Source _ hv1) (by kernel_rfl) (.cons (congrArg (fun b => bv b) h2) .nil)) (by kernel_rfl) (by kernel_rfl) ?_
    refine tr_ret (rg_r ?_)
    obtain rfl := Option.some.inj hM
    exact retg (names := []) .nil (by kernel_rfl)

theorem ok221 : CallOk Try.prog 221 := callOk_of Try.func221 (by kernel_rfl) (by kernel_rfl)
theorem spec_l07Square_c (a0 : XFunctor) (a1 : XFunctor) (a2 : List Int) (a3 : Int) (r : Bool) (hM : M.spec_l07Square a0 a1 a2 a3 = some r) :
    FnC Try.prog 221 [] [.agg (eXFunctor.b a0), .agg (eXFunctor.b a1), .sl a2.length 0 (a2.flatMap eI.b), iv a3] [] (bv r) := by
  refine fnc_startG (N := 54) (np := 500) hT Try.func221 rfl rfl (by kernel_rfl) ?_
  unfold M.spec_l07Square at hM
  refine tr_start (ks := [0, 2, 4, 6]) (st' := [(0, .d (.agg (eXFunctor.b a0))), (2, .d (.agg (eXFunctor.b a1))), (4, .d (.sl a2.length 0 (a2.flatMap eI.b))), (6, .d (iv a3))]) (by kernel_rfl) ?_
  refine tr_sr hT hm [] [4, 6, 8, 10, 2009, 2011] [(4, .d (.sl a2.length 0 (a2.flatMap eI.b))), (6, .d (iv a3)), (8, .d (.rp 1004 0)), (10, .d (.rp 1005 0)), bxB 2009 (eXFunctor.b a0), bxB 2011 (eXFunctor.b a1)] .nil (by kernel_rfl) (by kernel_rfl) ?_
  refine tr_sr hT hm [] [4, 6, 8, 10, 18, 20, 2009, 2011, 2019, 2021] [(4, .d (.sl a2.length 0 (a2.flatMap eI.b))), (6, .d (iv a3)), (8, .d (.rp 1004 0)), (10, .d (.rp 1005 0)), (18, .d (.rp 1009 0)), (20, .d (.rp 1010 0)), bxB 2009 (eXFunctor.b a0), bxB 2011 (eXFunctor.b a1), bxB 2019 (eXCategory.b a0.Source), bxB 2021 (eXCategory.b a0.Target)] (.cons (Nat.le_of_ble_eq_true (n := 5) (m := 5) rfl) (.cons (Nat.le_of_ble_eq_true (n := 5) (m := 5) rfl) .nil)) (by kernel_rfl) (by kernel_rfl) ?_
  obtain ⟨y1, hy1, hM⟩ := bind_some' hM
  have hy1' := idx_some hy1
  obtain ⟨y2, hy2, hM⟩ := bind_some' hM
  have hy2' := idx_some hy2
  obtain ⟨y3, hy3, hM⟩ := bind_some' hM
  have hy3' := idx_some hy3
  obtain ⟨y4, hy4, hM⟩ := bind_some' hM
  have hy4' := idx_some hy4
  obtain ⟨y5, hy5, hM⟩ := bind_some' hM
  have hy5' := idx_some hy5
  obtain ⟨y6, hy6, hM⟩ := bind_some' hM
  have hy6' := idx_some hy6
  obtain ⟨y7, hy7, hM⟩ := bind_some' hM
  have hy7' := idx_some hy7
  obtain ⟨y8, hy8, hM⟩ := bind_some' hM
  have hy8' := idx_some hy8
  obtain ⟨y9, hy9, hM⟩ := bind_some' hM
  have hy9' := idx_some hy9
  obtain ⟨y10, hy10, hM⟩ := bind_some' hM
  have hy10' := idx_some hy10
  refine tr_sr hT hm [(6, .val (iv y1)), (8, .val (.sl y2.length 0 (y2.flatMap eI.b))), (14, .val (iv y3)), (16, .val (iv y4)), (18, .val (iv y5)), (26, .val (iv y6)), (28, .val (iv y7)), (30, .val (.sl y8.length 0 (y8.flatMap eI.b))), (35, .val (iv y9)), (37, .val (iv y10))] [16] [(16, .d (bv (y5 == y10)))] (.cons hy1'.1 (.cons hy1'.2.1 (.cons (at_b0 eI_ok hy1'.2.2 (d := iv y1) (by kernel_rfl)) (.cons hy2'.1 (.cons hy2'.2.1 (.cons (at_b0 (eS_ok eI_ok) hy2'.2.2 (d := .sl y2.length 0 (y2.flatMap eI.b)) (by kernel_rfl)) (.cons hy3'.1 (.cons hy3'.2.1 (.cons (at_b0 eI_ok hy3'.2.2 (d := iv y3) (by kernel_rfl)) (.cons hy4'.1 (.cons hy4'.2.1 (.cons (at_b0 eI_ok hy4'.2.2 (d := iv y4) (by kernel_rfl)) (.cons hy5'.1 (.cons hy5'.2.1 (.cons (at_b0 eI_ok hy5'.2.2 (d := iv y5) (by kernel_rfl)) (.cons hy6'.1 (.cons hy6'.2.1 (.cons (at_b0 eI_ok hy6'.2.2 (d := iv y6) (by kernel_rfl)) (.cons hy7'.1 (.cons hy7'.2.1 (.cons (at_b0 eI_ok hy7'.2.2 (d := iv y7) (by kernel_rfl)) (.cons hy8'.1 (.cons hy8'.2.1 (.cons (at_b0 (eS_ok eI_ok) hy8'.2.2 (d := .sl y8.length 0 (y8.flatMap eI.b)) (by kernel_rfl)) (.cons hy9'.1 (.cons hy9'.2.1 (.cons (at_b0 eI_ok hy9'.2.2 (d := iv y9) (by kernel_rfl)) (.cons hy10'.1 (.cons hy10'.2.1 (.cons (at_b0 eI_ok hy10'.2.2 (d := iv y10) (by kernel_rfl)) .nil)))))))))))))))))))))))))))))) (by kernel_rfl) (by kernel_rfl) ?_
  refine tr_ret (rg_r ?_)
  obtain rfl := Option.some.inj hM
  exact retg (names := []) .nil (by kernel_rfl)

theorem ok171 : CallOk Try.prog 171 := callOk_of Try.func171 (by kernel_rfl) (by kernel_rfl)
theorem spec_l07Fault_c (a0 : XFunctor) (a1 : XFunctor) (a2 : List Int) (r : Int) (hM : M.spec_l07Fault a0 a1 a2 = some r) :
    FnC Try.prog 171 [] [.agg (eXFunctor.b a0), .agg (eXFunctor.b a1), .sl a2.length 0 (a2.flatMap eI.b)] [] (iv r) := by
  refine fnc_startG (N := 22) (np := 500) hT Try.func171 rfl rfl (by kernel_rfl) ?_
  unfold M.spec_l07Fault at hM
  refine tr_start (ks := [0, 2, 4]) (st' := [(0, .d (.agg (eXFunctor.b a0))), (2, .d (.agg (eXFunctor.b a1))), (4, .d (.sl a2.length 0 (a2.flatMap eI.b)))]) (by kernel_rfl) ?_
  refine tr_sr hT hm [] [4, 6, 8, 2007, 2009] [(4, .d (.sl a2.length 0 (a2.flatMap eI.b))), (6, .d (.rp 1003 0)), (8, .d (.rp 1004 0)), bxB 2007 (eXFunctor.b a0), bxB 2009 (eXFunctor.b a1)] .nil (by kernel_rfl) (by kernel_rfl) ?_
  refine tr_seq ?_
  refine tr_sr hT hm [] [4, 6, 8, 14, 2007, 2009] [(4, .d (.sl a2.length 0 (a2.flatMap eI.b))), (6, .d (.rp 1003 0)), (8, .d (.rp 1004 0)), (14, .d (iv 0)), bxB 2007 (eXFunctor.b a0), bxB 2009 (eXFunctor.b a1)] .nil (by kernel_rfl) (by kernel_rfl) ?_
  refine tr_block ?_
  refine tr_iterS (fun (s1 : Int) => [(4, .d (.sl a2.length 0 (a2.flatMap eI.b))), (6, .d (.rp 1003 0)), (8, .d (.rp 1004 0)), (14, .d (iv s1)), bxB 2007 (eXFunctor.b a0), bxB 2009 (eXFunctor.b a1)]) 0 [4, 6, 8, 14, 2007, 2009] (by kernel_rfl) hM ?_
  intro n4 next2 ih3 s1 hM
  refine tr_seq ?_
  refine tr_sr hT hm [] [4, 6, 8, 14, 24, 2007, 2009] [(4, .d (.sl a2.length 0 (a2.flatMap eI.b))), (6, .d (.rp 1003 0)), (8, .d (.rp 1004 0)), (14, .d (iv s1)), (24, .d (bv (decide (s1 < (a0.Arrows.length : Int))))), bxB 2007 (eXFunctor.b a0), bxB 2009 (eXFunctor.b a1)] .nil (by kernel_rfl) (by kernel_rfl) ?_
  rcases Bool.eq_false_or_eq_true (decide (s1 < (a0.Arrows.length : Int))) with h5 | h5
  · have hM := ite_true' hM h5
    refine tr_condTe (e := decide (s1 < (a0.Arrows.length : Int))) h5 (by kernel_rfl) ?_
    refine tr_skip (q_n ?_)
    refine tr_seq ?_
    refine tr_block ?_
    obtain ⟨v6, hv6, hM⟩ := bind_some' hM
    refine tr_sr hT hm [(4, .call [] [] [.agg [iv a0.Source.Objects, .sl a0.Source.From.length 0 (a0.Source.From.flatMap eI.b), .sl a0.Source.To.length 0 (a0.Source.To.flatMap eI.b), .sl a0.Source.Identity.length 0 (a0.Source.Identity.flatMap eI.b), .sl a0.Source.Composites.length 0 (a0.Source.Composites.flatMap (eS eI).b), iv a0.Target.Objects, .sl a0.Target.From.length 0 (a0.Target.From.flatMap eI.b), .sl a0.Target.To.length 0 (a0.Target.To.flatMap eI.b), .sl a0.Target.Identity.length 0 (a0.Target.Identity.flatMap eI.b), .sl a0.Target.Composites.length 0 (a0.Target.Composites.flatMap (eS eI).b), .sl a0.Objects.length 0 (a0.Objects.flatMap eI.b), .sl a0.Arrows.length 0 (a0.Arrows.flatMap eI.b)], .agg [iv a1.Source.Objects, .sl a1.Source.From.length 0 (a1.Source.From.flatMap eI.b), .sl a1.Source.To.length 0 (a1.Source.To.flatMap eI.b), .sl a1.Source.Identity.length 0 (a1.Source.Identity.flatMap eI.b), .sl a1.Source.Composites.length 0 (a1.Source.Composites.flatMap (eS eI).b), iv a1.Target.Objects, .sl a1.Target.From.length 0 (a1.Target.From.flatMap eI.b), .sl a1.Target.To.length 0 (a1.Target.To.flatMap eI.b), .sl a1.Target.Identity.length 0 (a1.Target.Identity.flatMap eI.b), .sl a1.Target.Composites.length 0 (a1.Target.Composites.flatMap (eS eI).b), .sl a1.Objects.length 0 (a1.Objects.flatMap eI.b), .sl a1.Arrows.length 0 (a1.Arrows.flatMap eI.b)], .sl a2.length 0 (a2.flatMap eI.b), iv s1] [] (bv v6))] [4, 6, 8, 14, 40, 2007, 2009] [(4, .d (.sl a2.length 0 (a2.flatMap eI.b))), (6, .d (.rp 1003 0)), (8, .d (.rp 1004 0)), (14, .d (iv s1)), (40, .d (bv (!v6))), bxB 2007 (eXFunctor.b a0), bxB 2009 (eXFunctor.b a1)] (cc0 ok221 (spec_l07Square_c a0 a1 a2 s1 _ hv6) (by kernel_rfl) .nil) (by kernel_rfl) (by kernel_rfl) ?_
    rcases Bool.eq_false_or_eq_true v6 with h7 | h7
    · have hM := ite_true' hM h7
      refine tr_condFe (e := !v6) (congrArg not h7) (by kernel_rfl) ?_
      refine tr_skip (b_n (q_n ?_))
      refine tr_r hT hm [] [4, 6, 8, 14, 2007, 2009] [(4, .d (.sl a2.length 0 (a2.flatMap eI.b))), (6, .d (.rp 1003 0)), (8, .d (.rp 1004 0)), (14, .d (iv (IntKind.i64.wrap (s1 + 1)))), bxB 2007 (eXFunctor.b a0), bxB 2009 (eXFunctor.b a1)] .nil (by kernel_rfl) (by kernel_rfl) (l_n ?_)
      exact trl_start (ks := [4, 6, 8, 14, 2007, 2009]) (by kernel_rfl) (ih3 (IntKind.i64.wrap (s1 + 1)) hM)
    · have hM := ite_false' hM h7
      refine tr_condTe (e := !v6) (congrArg not h7) (by kernel_rfl) ?_
      refine tr_sr hT hm [] [12] [(12, .d (iv s1))] .nil (by kernel_rfl) (by kernel_rfl) ?_
      refine tr_ret (b_r (q_r (l_r (b_r (q_r (rg_r ?_))))))
      obtain rfl := Option.some.inj hM
      exact retg (names := []) .nil (by kernel_rfl)
  · have hM := ite_false' hM h5
    refine tr_condFe (e := decide (s1 < (a0.Arrows.length : Int))) h5 (by kernel_rfl) ?_
    refine tr_exit (q_x (l_x (b_h (q_n ?_))))
    refine tr_sr hT hm [] [12] [(12, .d (iv (-1)))] .nil (by kernel_rfl) (by kernel_rfl) ?_
    refine tr_ret (rg_r ?_)
    obtain rfl := Option.some.inj hM
    exact retg (names := []) .nil (by kernel_rfl)

theorem ok101 : CallOk Try.prog 101 := callOk_of Try.func101 (by kernel_rfl) (by kernel_rfl)
theorem spec_l07Is_c (a0 : XTransformation) (r : Bool) (hM : M.spec_l07Is a0 = some r) :
    FnC Try.prog 101 [] [.agg (eXTransformation.b a0)] [] (bv r) := by
  refine fnc_startG (N := 15) (np := 500) hT Try.func101 rfl rfl (by kernel_rfl) ?_
  unfold M.spec_l07Is at hM
  refine tr_start (ks := [0]) (st' := [(0, .d (.agg (eXTransformation.b a0)))]) (by kernel_rfl) ?_
  refine tr_sr hT hm [] [2, 2003] [(2, .d (.rp 1001 0)), bxB 2003 (eXTransformation.b a0)] .nil (by kernel_rfl) (by kernel_rfl) ?_
  obtain ⟨v1, hv1, hM⟩ := bind_some' hM
  rcases Bool.eq_false_or_eq_true v1 with h2 | h2
  · have hM := ite_true' hM h2
    obtain ⟨v3, hv3, hM⟩ := bind_some' hM
    refine tr_sr hT hm [(1, .call [] [] [.agg [iv a0.Source.Source.Objects, .sl a0.Source.Source.From.length 0 (a0.Source.Source.From.flatMap eI.b), .sl a0.Source.Source.To.length 0 (a0.Source.Source.To.flatMap eI.b), .sl a0.Source.Source.Identity.length 0 (a0.Source.Source.Identity.flatMap eI.b), .sl a0.Source.Source.Composites.length 0 (a0.Source.Source.Composites.flatMap (eS eI).b), iv a0.Source.Target.Objects, .sl a0.Source.Target.From.length 0 (a0.Source.Target.From.flatMap eI.b), .sl a0.Source.Target.To.length 0 (a0.Source.Target.To.flatMap eI.b), .sl a0.Source.Target.Identity.length 0 (a0.Source.Target.Identity.flatMap eI.b), .sl a0.Source.Target.Composites.length 0 (a0.Source.Target.Composites.flatMap (eS eI).b), .sl a0.Source.Objects.length 0 (a0.Source.Objects.flatMap eI.b), .sl a0.Source.Arrows.length 0 (a0.Source.Arrows.flatMap eI.b), iv a0.Target.Source.Objects, .sl a0.Target.Source.From.length 0 (a0.Target.Source.From.flatMap eI.b), .sl a0.Target.Source.To.length 0 (a0.Target.Source.To.flatMap eI.b), .sl a0.Target.Source.Identity.length 0 (a0.Target.Source.Identity.flatMap eI.b), .sl a0.Target.Source.Composites.length 0 (a0.Target.Source.Composites.flatMap (eS eI).b), iv a0.Target.Target.Objects, .sl a0.Target.Target.From.length 0 (a0.Target.Target.From.flatMap eI.b), .sl a0.Target.Target.To.length 0 (a0.Target.Target.To.flatMap eI.b), .sl a0.Target.Target.Identity.length 0 (a0.Target.Target.Identity.flatMap eI.b), .sl a0.Target.Target.Composites.length 0 (a0.Target.Target.Composites.flatMap (eS eI).b), .sl a0.Target.Objects.length 0 (a0.Target.Objects.flatMap eI.b), .sl a0.Target.Arrows.length 0 (a0.Target.Arrows.flatMap eI.b), .sl a0.Components.length 0 (a0.Components.flatMap eI.b)]] [] (bv v1)), (2, .val (bv true)), (9, .call [] [] [.agg [iv a0.Source.Source.Objects, .sl a0.Source.Source.From.length 0 (a0.Source.Source.From.flatMap eI.b), .sl a0.Source.Source.To.length 0 (a0.Source.Source.To.flatMap eI.b), .sl a0.Source.Source.Identity.length 0 (a0.Source.Source.Identity.flatMap eI.b), .sl a0.Source.Source.Composites.length 0 (a0.Source.Source.Composites.flatMap (eS eI).b), iv a0.Source.Target.Objects, .sl a0.Source.Target.From.length 0 (a0.Source.Target.From.flatMap eI.b), .sl a0.Source.Target.To.length 0 (a0.Source.Target.To.flatMap eI.b), .sl a0.Source.Target.Identity.length 0 (a0.Source.Target.Identity.flatMap eI.b), .sl a0.Source.Target.Composites.length 0 (a0.Source.Target.Composites.flatMap (eS eI).b), .sl a0.Source.Objects.length 0 (a0.Source.Objects.flatMap eI.b), .sl a0.Source.Arrows.length 0 (a0.Source.Arrows.flatMap eI.b)], .agg [iv a0.Target.Source.Objects, .sl a0.Target.Source.From.length 0 (a0.Target.Source.From.flatMap eI.b), .sl a0.Target.Source.To.length 0 (a0.Target.Source.To.flatMap eI.b), .sl a0.Target.Source.Identity.length 0 (a0.Target.Source.Identity.flatMap eI.b), .sl a0.Target.Source.Composites.length 0 (a0.Target.Source.Composites.flatMap (eS eI).b), iv a0.Target.Target.Objects, .sl a0.Target.Target.From.length 0 (a0.Target.Target.From.flatMap eI.b), .sl a0.Target.Target.To.length 0 (a0.Target.Target.To.flatMap eI.b), .sl a0.Target.Target.Identity.length 0 (a0.Target.Target.Identity.flatMap eI.b), .sl a0.Target.Target.Composites.length 0 (a0.Target.Target.Composites.flatMap (eS eI).b), .sl a0.Target.Objects.length 0 (a0.Target.Objects.flatMap eI.b), .sl a0.Target.Arrows.length 0 (a0.Target.Arrows.flatMap eI.b)], .sl a0.Components.length 0 (a0.Components.flatMap eI.b)] [] (iv v3))] [4] [(4, .d (bv (decide (v3 < 0))))] (cc0 ok170 (spec_l07Shape_c a0 _ hv1) (by kernel_rfl) (.cons (congrArg (fun b => bv b) h2) (cc0 ok171 (spec_l07Fault_c a0.Source a0.Target a0.Components _ hv3) (by kernel_rfl) .nil))) (by kernel_rfl) (by kernel_rfl) ?_
    refine tr_ret (rg_r ?_)
    obtain rfl := Option.some.inj hM
    exact retg (names := []) .nil (by kernel_rfl)
  · have hM := ite_false' hM h2
    refine tr_sr hT hm [(1, .call [] [] [.agg [iv a0.Source.Source.Objects, .sl a0.Source.Source.From.length 0 (a0.Source.Source.From.flatMap eI.b), .sl a0.Source.Source.To.length 0 (a0.Source.Source.To.flatMap eI.b), .sl a0.Source.Source.Identity.length 0 (a0.Source.Source.Identity.flatMap eI.b), .sl a0.Source.Source.Composites.length 0 (a0.Source.Source.Composites.flatMap (eS eI).b), iv a0.Source.Target.Objects, .sl a0.Source.Target.From.length 0 (a0.Source.Target.From.flatMap eI.b), .sl a0.Source.Target.To.length 0 (a0.Source.Target.To.flatMap eI.b), .sl a0.Source.Target.Identity.length 0 (a0.Source.Target.Identity.flatMap eI.b), .sl a0.Source.Target.Composites.length 0 (a0.Source.Target.Composites.flatMap (eS eI).b), .sl a0.Source.Objects.length 0 (a0.Source.Objects.flatMap eI.b), .sl a0.Source.Arrows.length 0 (a0.Source.Arrows.flatMap eI.b), iv a0.Target.Source.Objects, .sl a0.Target.Source.From.length 0 (a0.Target.Source.From.flatMap eI.b), .sl a0.Target.Source.To.length 0 (a0.Target.Source.To.flatMap eI.b), .sl a0.Target.Source.Identity.length 0 (a0.Target.Source.Identity.flatMap eI.b), .sl a0.Target.Source.Composites.length 0 (a0.Target.Source.Composites.flatMap (eS eI).b), iv a0.Target.Target.Objects, .sl a0.Target.Target.From.length 0 (a0.Target.Target.From.flatMap eI.b), .sl a0.Target.Target.To.length 0 (a0.Target.Target.To.flatMap eI.b), .sl a0.Target.Target.Identity.length 0 (a0.Target.Target.Identity.flatMap eI.b), .sl a0.Target.Target.Composites.length 0 (a0.Target.Target.Composites.flatMap (eS eI).b), .sl a0.Target.Objects.length 0 (a0.Target.Objects.flatMap eI.b), .sl a0.Target.Arrows.length 0 (a0.Target.Arrows.flatMap eI.b), .sl a0.Components.length 0 (a0.Components.flatMap eI.b)]] [] (bv v1)), (2, .val (bv false))] [4] [(4, .d (bv false))] (cc0 ok170 (spec_l07Shape_c a0 _ hv1) (by kernel_rfl) (.cons (congrArg (fun b => bv b) h2) .nil)) (by kernel_rfl) (by kernel_rfl) ?_
    refine tr_ret (rg_r ?_)
    obtain rfl := Option.some.inj hM
    exact retg (names := []) .nil (by kernel_rfl)

theorem ok174 : CallOk Try.prog 174 := callOk_of Try.func174 (by kernel_rfl) (by kernel_rfl)
theorem spec_l06Then_c (a0 : XFunctor) (a1 : XFunctor) (r : XFunctor) (hM : M.spec_l06Then a0 a1 = some r) :
    FnC Try.prog 174 [] [.agg (eXFunctor.b a0), .agg (eXFunctor.b a1)] [] (.agg (eXFunctor.o r)) := by
  refine fnc_startG (N := 20) (np := 500) hT Try.func174 rfl rfl (by kernel_rfl) ?_
  unfold M.spec_l06Then at hM
  refine tr_start (ks := [0, 2]) (st' := [(0, .d (.agg (eXFunctor.b a0))), (2, .d (.agg (eXFunctor.b a1)))]) (by kernel_rfl) ?_
  refine tr_sr hT hm [] [4, 6, 8, 2005, 2007, 2009] [(4, .d (.rp 1002 0)), (6, .d (.rp 1003 0)), (8, .d (.rp 1004 0)), bxB 2005 (eXFunctor.b a0), bxB 2007 (eXFunctor.b a1), (2009, .r (.arr 1 [iv 0, nilv, nilv, nilv, nilv, iv 0, nilv, nilv, nilv, nilv, nilv, nilv] []))] .nil (by kernel_rfl) (by kernel_rfl) ?_
  obtain ⟨v1, hv1, hM⟩ := bind_some' hM
  obtain ⟨v2, hv2, hM⟩ := bind_some' hM
  obtain ⟨v3, hv3, hM⟩ := bind_some' hM
  refine tr_sr hT hm [(8, .call [] [] [.sl a0.Objects.length 0 (a0.Objects.flatMap eI.b), .sl a1.Objects.length 0 (a1.Objects.flatMap eI.b)] [] (.fr 1 v1.length (v1.flatMap eI.o))), (13, .call [] [] [.sl a0.Arrows.length 0 (a0.Arrows.flatMap eI.b), .sl a1.Arrows.length 0 (a1.Arrows.flatMap eI.b)] [] (.fr 1 v2.length (v2.flatMap eI.o))), (14, .call [15000, 20000] [] [.agg [iv a0.Source.Objects, .sl a0.Source.From.length 0 (a0.Source.From.flatMap eI.b), .sl a0.Source.To.length 0 (a0.Source.To.flatMap eI.b), .sl a0.Source.Identity.length 0 (a0.Source.Identity.flatMap eI.b), .sl a0.Source.Composites.length 0 (a0.Source.Composites.flatMap (eS eI).b)], .agg [iv a1.Target.Objects, .sl a1.Target.From.length 0 (a1.Target.From.flatMap eI.b), .sl a1.Target.To.length 0 (a1.Target.To.flatMap eI.b), .sl a1.Target.Identity.length 0 (a1.Target.Identity.flatMap eI.b), .sl a1.Target.Composites.length 0 (a1.Target.Composites.flatMap (eS eI).b)], .sl v1.length 0 (v1.flatMap eI.b), .sl v2.length 0 (v2.flatMap eI.b)] [] (.agg (eXFunctor.o v3)))] [8, 2009, 42003, 42005, 42007, 42009, 42013, 42015, 42017, 42019, 42021, 42023] ([(8, .d (.rp 1004 0)), bxO 2009 21000 (eXFunctor.o v3)] ++ rsS 21000 (eXFunctor.o v3)) (cc0 ok167 (spec_l01Then_c a0.Objects a1.Objects _ hv1) (by kernel_rfl) (cc0 ok167 (spec_l01Then_c a0.Arrows a1.Arrows _ hv2) (by kernel_rfl) (cc (B := [15000, 20000]) (ρ := []) (rB := [(15000, .arr 1 (v1.flatMap eI.o) []), (20000, .arr 1 (v2.flatMap eI.o) [])]) ok111 (spec_l06Make_c a0.Source a1.Target v1 v2 _ hv3) (.cons (.same rfl) (.cons (.same rfl) (.cons (.of1 (.rs (r := 15000) (sz := 1) (refs := []) (memB (by kernel_rfl)) (by kernel_rfl) (bor_flat eI_ok _ _ _))) (.cons (.of1 (.rs (r := 20000) (sz := 1) (refs := []) (memB (by kernel_rfl)) (by kernel_rfl) (bor_flat eI_ok _ _ _))) .nil)))) (.inr ⟨(.agg (eXFunctor_nb _)), trivial⟩) (.cons (Nat.le_of_ble_eq_true (n := 12) (m := 12) rfl) .nil)))) (by kernel_rfl) (by kernel_rfl) ?_
  refine tr_ret (rg_r ?_)
  obtain rfl := Option.some.inj hM
  exact retg (names := []) (.cons (lenO_flat eI_ok v3.Source.From) (.cons (lenO_flat eI_ok v3.Source.To) (.cons (lenO_flat eI_ok v3.Source.Identity) (.cons (lenO_flat (eS_ok eI_ok) v3.Source.Composites) (.cons (lenO_flat eI_ok v3.Target.From) (.cons (lenO_flat eI_ok v3.Target.To) (.cons (lenO_flat eI_ok v3.Target.Identity) (.cons (lenO_flat (eS_ok eI_ok) v3.Target.Composites) (.cons (lenO_flat eI_ok v3.Objects) (.cons (lenO_flat eI_ok v3.Arrows) .nil)))))))))) (by kernel_rfl)

theorem ok103 : CallOk Try.prog 103 := callOk_of Try.func103 (by kernel_rfl) (by kernel_rfl)
theorem spec_l07Behind_c (a0 : XTransformation) (a1 : XFunctor) (r : XTransformation) (hM : M.spec_l07Behind a0 a1 = some r) :
    FnC Try.prog 103 [] [.agg (eXTransformation.b a0), .agg (eXFunctor.b a1)] [] (.agg (eXTransformation.o r)) := by
  refine fnc_startG (N := 19) (np := 500) hT Try.func103 rfl rfl (by kernel_rfl) ?_
  unfold M.spec_l07Behind at hM
  refine tr_start (ks := [0, 2]) (st' := [(0, .d (.agg (eXTransformation.b a0))), (2, .d (.agg (eXFunctor.b a1)))]) (by kernel_rfl) ?_
  refine tr_sr hT hm [] [4, 6, 8, 2005, 2007, 2009] [(4, .d (.rp 1002 0)), (6, .d (.rp 1003 0)), (8, .d (.rp 1004 0)), bxB 2005 (eXTransformation.b a0), bxB 2007 (eXFunctor.b a1), (2009, .r (.arr 1 [iv 0, nilv, nilv, nilv, nilv, iv 0, nilv, nilv, nilv, nilv, nilv, nilv, iv 0, nilv, nilv, nilv, nilv, iv 0, nilv, nilv, nilv, nilv, nilv, nilv, nilv] []))] .nil (by kernel_rfl) (by kernel_rfl) ?_
  obtain ⟨v1, hv1, hM⟩ := bind_some' hM
  obtain ⟨v2, hv2, hM⟩ := bind_some' hM
  obtain ⟨v3, hv3, hM⟩ := bind_some' hM
  obtain ⟨v4, hv4, hM⟩ := bind_some' hM
  refine tr_sr hT hm [(3, .call [] [] [.agg [iv a0.Source.Source.Objects, .sl a0.Source.Source.From.length 0 (a0.Source.Source.From.flatMap eI.b), .sl a0.Source.Source.To.length 0 (a0.Source.Source.To.flatMap eI.b), .sl a0.Source.Source.Identity.length 0 (a0.Source.Source.Identity.flatMap eI.b), .sl a0.Source.Source.Composites.length 0 (a0.Source.Source.Composites.flatMap (eS eI).b), iv a0.Source.Target.Objects, .sl a0.Source.Target.From.length 0 (a0.Source.Target.From.flatMap eI.b), .sl a0.Source.Target.To.length 0 (a0.Source.Target.To.flatMap eI.b), .sl a0.Source.Target.Identity.length 0 (a0.Source.Target.Identity.flatMap eI.b), .sl a0.Source.Target.Composites.length 0 (a0.Source.Target.Composites.flatMap (eS eI).b), .sl a0.Source.Objects.length 0 (a0.Source.Objects.flatMap eI.b), .sl a0.Source.Arrows.length 0 (a0.Source.Arrows.flatMap eI.b)], .agg [iv a1.Source.Objects, .sl a1.Source.From.length 0 (a1.Source.From.flatMap eI.b), .sl a1.Source.To.length 0 (a1.Source.To.flatMap eI.b), .sl a1.Source.Identity.length 0 (a1.Source.Identity.flatMap eI.b), .sl a1.Source.Composites.length 0 (a1.Source.Composites.flatMap (eS eI).b), iv a1.Target.Objects, .sl a1.Target.From.length 0 (a1.Target.From.flatMap eI.b), .sl a1.Target.To.length 0 (a1.Target.To.flatMap eI.b), .sl a1.Target.Identity.length 0 (a1.Target.Identity.flatMap eI.b), .sl a1.Target.Composites.length 0 (a1.Target.Composites.flatMap (eS eI).b), .sl a1.Objects.length 0 (a1.Objects.flatMap eI.b), .sl a1.Arrows.length 0 (a1.Arrows.flatMap eI.b)]] [] (.agg (eXFunctor.o v1))), (7, .call [] [] [.agg [iv a0.Target.Source.Objects, .sl a0.Target.Source.From.length 0 (a0.Target.Source.From.flatMap eI.b), .sl a0.Target.Source.To.length 0 (a0.Target.Source.To.flatMap eI.b), .sl a0.Target.Source.Identity.length 0 (a0.Target.Source.Identity.flatMap eI.b), .sl a0.Target.Source.Composites.length 0 (a0.Target.Source.Composites.flatMap (eS eI).b), iv a0.Target.Target.Objects, .sl a0.Target.Target.From.length 0 (a0.Target.Target.From.flatMap eI.b), .sl a0.Target.Target.To.length 0 (a0.Target.Target.To.flatMap eI.b), .sl a0.Target.Target.Identity.length 0 (a0.Target.Target.Identity.flatMap eI.b), .sl a0.Target.Target.Composites.length 0 (a0.Target.Target.Composites.flatMap (eS eI).b), .sl a0.Target.Objects.length 0 (a0.Target.Objects.flatMap eI.b), .sl a0.Target.Arrows.length 0 (a0.Target.Arrows.flatMap eI.b)], .agg [iv a1.Source.Objects, .sl a1.Source.From.length 0 (a1.Source.From.flatMap eI.b), .sl a1.Source.To.length 0 (a1.Source.To.flatMap eI.b), .sl a1.Source.Identity.length 0 (a1.Source.Identity.flatMap eI.b), .sl a1.Source.Composites.length 0 (a1.Source.Composites.flatMap (eS eI).b), iv a1.Target.Objects, .sl a1.Target.From.length 0 (a1.Target.From.flatMap eI.b), .sl a1.Target.To.length 0 (a1.Target.To.flatMap eI.b), .sl a1.Target.Identity.length 0 (a1.Target.Identity.flatMap eI.b), .sl a1.Target.Composites.length 0 (a1.Target.Composites.flatMap (eS eI).b), .sl a1.Objects.length 0 (a1.Objects.flatMap eI.b), .sl a1.Arrows.length 0 (a1.Arrows.flatMap eI.b)]] [] (.agg (eXFunctor.o v2))), (12, .call [] [] [.sl a0.Components.length 0 (a0.Components.flatMap eI.b), .sl a1.Arrows.length 0 (a1.Arrows.flatMap eI.b)] [] (.fr 1 v3.length (v3.flatMap eI.o))), (13, .call (rsR 10000 (eXFunctor.o v1) ++ rsR 14000 (eXFunctor.o v2) ++ [19000]) [] [.agg (eXFunctor.b v1), .agg (eXFunctor.b v2), .sl v3.length 0 (v3.flatMap eI.b)] [] (.agg (eXTransformation.o v4)))] [8, 2009, 40003, 40005, 40007, 40009, 40013, 40015, 40017, 40019, 40021, 40023, 40027, 40029, 40031, 40033, 40037, 40039, 40041, 40043, 40045, 40047, 40049] ([(8, .d (.rp 1004 0)), bxO 2009 20000 (eXTransformation.o v4)] ++ rsS 20000 (eXTransformation.o v4)) (cc0 ok174 (spec_l06Then_c a0.Source a1 _ hv1) (by kernel_rfl) (cc0 ok174 (spec_l06Then_c a0.Target a1 _ hv2) (by kernel_rfl) (cc0 ok167 (spec_l01Then_c a0.Components a1.Arrows _ hv3) (by kernel_rfl) (cc (B := (rsR 10000 (eXFunctor.o v1) ++ rsR 14000 (eXFunctor.o v2) ++ [19000])) (ρ := []) (rB := (rsP 10000 (eXFunctor.o v1) ++ rsP 14000 (eXFunctor.o v2) ++ [(19000, .arr 1 (v3.flatMap eI.o) [])])) ok97 (spec_l07Make_c v1 v2 v3 _ hv4) (.cons (bor_rs eXFunctor_r (q := 10000) (x := v1) (by kernel_rfl) (by kernel_rfl)) (.cons (bor_rs eXFunctor_r (q := 14000) (x := v2) (by kernel_rfl) (by kernel_rfl)) (.cons (.of1 (.rs (r := 19000) (sz := 1) (refs := []) (memB (by kernel_rfl)) (by kernel_rfl) (bor_flat eI_ok _ _ _))) .nil))) (.inr ⟨(.agg (eXTransformation_nb _)), trivial⟩) (.cons (Nat.le_of_ble_eq_true (n := 25) (m := 25) rfl) .nil))))) (by kernel_rfl) (by kernel_rfl) ?_
  refine tr_ret (rg_r ?_)
  obtain rfl := Option.some.inj hM
  exact retg (names := []) (.cons (lenO_flat eI_ok v4.Source.Source.From) (.cons (lenO_flat eI_ok v4.Source.Source.To) (.cons (lenO_flat eI_ok v4.Source.Source.Identity) (.cons (lenO_flat (eS_ok eI_ok) v4.Source.Source.Composites) (.cons (lenO_flat eI_ok v4.Source.Target.From) (.cons (lenO_flat eI_ok v4.Source.Target.To) (.cons (lenO_flat eI_ok v4.Source.Target.Identity) (.cons (lenO_flat (eS_ok eI_ok) v4.Source.Target.Composites) (.cons (lenO_flat eI_ok v4.Source.Objects) (.cons (lenO_flat eI_ok v4.Source.Arrows) (.cons (lenO_flat eI_ok v4.Target.Source.From) (.cons (lenO_flat eI_ok v4.Target.Source.To) (.cons (lenO_flat eI_ok v4.Target.Source.Identity) (.cons (lenO_flat (eS_ok eI_ok) v4.Target.Source.Composites) (.cons (lenO_flat eI_ok v4.Target.Target.From) (.cons (lenO_flat eI_ok v4.Target.Target.To) (.cons (lenO_flat eI_ok v4.Target.Target.Identity) (.cons (lenO_flat (eS_ok eI_ok) v4.Target.Target.Composites) (.cons (lenO_flat eI_ok v4.Target.Objects) (.cons (lenO_flat eI_ok v4.Target.Arrows) (.cons (lenO_flat eI_ok v4.Components) .nil))))))))))))))))))))) (by kernel_rfl)

theorem ok104 : CallOk Try.prog 104 := callOk_of Try.func104 (by kernel_rfl) (by kernel_rfl)
theorem spec_l07Before_c (a0 : XFunctor) (a1 : XTransformation) (r : XTransformation) (hM : M.spec_l07Before a0 a1 = some r) :
    FnC Try.prog 104 [] [.agg (eXFunctor.b a0), .agg (eXTransformation.b a1)] [] (.agg (eXTransformation.o r)) := by
  refine fnc_startG (N := 19) (np := 500) hT Try.func104 rfl rfl (by kernel_rfl) ?_
  unfold M.spec_l07Before at hM
  refine tr_start (ks := [0, 2]) (st' := [(0, .d (.agg (eXFunctor.b a0))), (2, .d (.agg (eXTransformation.b a1)))]) (by kernel_rfl) ?_
  refine tr_sr hT hm [] [4, 6, 8, 2005, 2007, 2009] [(4, .d (.rp 1002 0)), (6, .d (.rp 1003 0)), (8, .d (.rp 1004 0)), bxB 2005 (eXFunctor.b a0), bxB 2007 (eXTransformation.b a1), (2009, .r (.arr 1 [iv 0, nilv, nilv, nilv, nilv, iv 0, nilv, nilv, nilv, nilv, nilv, nilv, iv 0, nilv, nilv, nilv, nilv, iv 0, nilv, nilv, nilv, nilv, nilv, nilv, nilv] []))] .nil (by kernel_rfl) (by kernel_rfl) ?_
  obtain ⟨v1, hv1, hM⟩ := bind_some' hM
  obtain ⟨v2, hv2, hM⟩ := bind_some' hM
  obtain ⟨v3, hv3, hM⟩ := bind_some' hM
  obtain ⟨v4, hv4, hM⟩ := bind_some' hM
  refine tr_sr hT hm [(3, .call [] [] [.agg [iv a0.Source.Objects, .sl a0.Source.From.length 0 (a0.Source.From.flatMap eI.b), .sl a0.Source.To.length 0 (a0.Source.To.flatMap eI.b), .sl a0.Source.Identity.length 0 (a0.Source.Identity.flatMap eI.b), .sl a0.Source.Composites.length 0 (a0.Source.Composites.flatMap (eS eI).b), iv a0.Target.Objects, .sl a0.Target.From.length 0 (a0.Target.From.flatMap eI.b), .sl a0.Target.To.length 0 (a0.Target.To.flatMap eI.b), .sl a0.Target.Identity.length 0 (a0.Target.Identity.flatMap eI.b), .sl a0.Target.Composites.length 0 (a0.Target.Composites.flatMap (eS eI).b), .sl a0.Objects.length 0 (a0.Objects.flatMap eI.b), .sl a0.Arrows.length 0 (a0.Arrows.flatMap eI.b)], .agg [iv a1.Source.Source.Objects, .sl a1.Source.Source.From.length 0 (a1.Source.Source.From.flatMap eI.b), .sl a1.Source.Source.To.length 0 (a1.Source.Source.To.flatMap eI.b), .sl a1.Source.Source.Identity.length 0 (a1.Source.Source.Identity.flatMap eI.b), .sl a1.Source.Source.Composites.length 0 (a1.Source.Source.Composites.flatMap (eS eI).b), iv a1.Source.Target.Objects, .sl a1.Source.Target.From.length 0 (a1.Source.Target.From.flatMap eI.b), .sl a1.Source.Target.To.length 0 (a1.Source.Target.To.flatMap eI.b), .sl a1.Source.Target.Identity.length 0 (a1.Source.Target.Identity.flatMap eI.b), .sl a1.Source.Target.Composites.length 0 (a1.Source.Target.Composites.flatMap (eS eI).b), .sl a1.Source.Objects.length 0 (a1.Source.Objects.flatMap eI.b), .sl a1.Source.Arrows.length 0 (a1.Source.Arrows.flatMap eI.b)]] [] (.agg (eXFunctor.o v1))), (7, .call [] [] [.agg [iv a0.Source.Objects, .sl a0.Source.From.length 0 (a0.Source.From.flatMap eI.b), .sl a0.Source.To.length 0 (a0.Source.To.flatMap eI.b), .sl a0.Source.Identity.length 0 (a0.Source.Identity.flatMap eI.b), .sl a0.Source.Composites.length 0 (a0.Source.Composites.flatMap (eS eI).b), iv a0.Target.Objects, .sl a0.Target.From.length 0 (a0.Target.From.flatMap eI.b), .sl a0.Target.To.length 0 (a0.Target.To.flatMap eI.b), .sl a0.Target.Identity.length 0 (a0.Target.Identity.flatMap eI.b), .sl a0.Target.Composites.length 0 (a0.Target.Composites.flatMap (eS eI).b), .sl a0.Objects.length 0 (a0.Objects.flatMap eI.b), .sl a0.Arrows.length 0 (a0.Arrows.flatMap eI.b)], .agg [iv a1.Target.Source.Objects, .sl a1.Target.Source.From.length 0 (a1.Target.Source.From.flatMap eI.b), .sl a1.Target.Source.To.length 0 (a1.Target.Source.To.flatMap eI.b), .sl a1.Target.Source.Identity.length 0 (a1.Target.Source.Identity.flatMap eI.b), .sl a1.Target.Source.Composites.length 0 (a1.Target.Source.Composites.flatMap (eS eI).b), iv a1.Target.Target.Objects, .sl a1.Target.Target.From.length 0 (a1.Target.Target.From.flatMap eI.b), .sl a1.Target.Target.To.length 0 (a1.Target.Target.To.flatMap eI.b), .sl a1.Target.Target.Identity.length 0 (a1.Target.Target.Identity.flatMap eI.b), .sl a1.Target.Target.Composites.length 0 (a1.Target.Target.Composites.flatMap (eS eI).b), .sl a1.Target.Objects.length 0 (a1.Target.Objects.flatMap eI.b), .sl a1.Target.Arrows.length 0 (a1.Target.Arrows.flatMap eI.b)]] [] (.agg (eXFunctor.o v2))), (12, .call [] [] [.sl a0.Objects.length 0 (a0.Objects.flatMap eI.b), .sl a1.Components.length 0 (a1.Components.flatMap eI.b)] [] (.fr 1 v3.length (v3.flatMap eI.o))), (13, .call (rsR 10000 (eXFunctor.o v1) ++ rsR 14000 (eXFunctor.o v2) ++ [19000]) [] [.agg (eXFunctor.b v1), .agg (eXFunctor.b v2), .sl v3.length 0 (v3.flatMap eI.b)] [] (.agg (eXTransformation.o v4)))] [8, 2009, 40003, 40005, 40007, 40009, 40013, 40015, 40017, 40019, 40021, 40023, 40027, 40029, 40031, 40033, 40037, 40039, 40041, 40043, 40045, 40047, 40049] ([(8, .d (.rp 1004 0)), bxO 2009 20000 (eXTransformation.o v4)] ++ rsS 20000 (eXTransformation.o v4)) (cc0 ok174 (spec_l06Then_c a0 a1.Source _ hv1) (by kernel_rfl) (cc0 ok174 (spec_l06Then_c a0 a1.Target _ hv2) (by kernel_rfl) (cc0 ok167 (spec_l01Then_c a0.Objects a1.Components _ hv3) (by kernel_rfl) (cc (B := (rsR 10000 (eXFunctor.o v1) ++ rsR 14000 (eXFunctor.o v2) ++ [19000])) (ρ := []) (rB := (rsP 10000 (eXFunctor.o v1) ++ rsP 14000 (eXFunctor.o v2) ++ [(19000, .arr 1 (v3.flatMap eI.o) [])])) ok97 (spec_l07Make_c v1 v2 v3 _ hv4) (.cons (bor_rs eXFunctor_r (q := 10000) (x := v1) (by kernel_rfl) (by kernel_rfl)) (.cons (bor_rs eXFunctor_r (q := 14000) (x := v2) (by kernel_rfl) (by kernel_rfl)) (.cons (.of1 (.rs (r := 19000) (sz := 1) (refs := []) (memB (by kernel_rfl)) (by kernel_rfl) (bor_flat eI_ok _ _ _))) .nil))) (.inr ⟨(.agg (eXTransformation_nb _)), trivial⟩) (.cons (Nat.le_of_ble_eq_true (n := 25) (m := 25) rfl) .nil))))) (by kernel_rfl) (by kernel_rfl) ?_
  refine tr_ret (rg_r ?_)
  obtain rfl := Option.some.inj hM
  exact retg (names := []) (.cons (lenO_flat eI_ok v4.Source.Source.From) (.cons (lenO_flat eI_ok v4.Source.Source.To) (.cons (lenO_flat eI_ok v4.Source.Source.Identity) (.cons (lenO_flat (eS_ok eI_ok) v4.Source.Source.Composites) (.cons (lenO_flat eI_ok v4.Source.Target.From) (.cons (lenO_flat eI_ok v4.Source.Target.To) (.cons (lenO_flat eI_ok v4.Source.Target.Identity) (.cons (lenO_flat (eS_ok eI_ok) v4.Source.Target.Composites) (.cons (lenO_flat eI_ok v4.Source.Objects) (.cons (lenO_flat eI_ok v4.Source.Arrows) (.cons (lenO_flat eI_ok v4.Target.Source.From) (.cons (lenO_flat eI_ok v4.Target.Source.To) (.cons (lenO_flat eI_ok v4.Target.Source.Identity) (.cons (lenO_flat (eS_ok eI_ok) v4.Target.Source.Composites) (.cons (lenO_flat eI_ok v4.Target.Target.From) (.cons (lenO_flat eI_ok v4.Target.Target.To) (.cons (lenO_flat eI_ok v4.Target.Target.Identity) (.cons (lenO_flat (eS_ok eI_ok) v4.Target.Target.Composites) (.cons (lenO_flat eI_ok v4.Target.Objects) (.cons (lenO_flat eI_ok v4.Target.Arrows) (.cons (lenO_flat eI_ok v4.Components) .nil))))))))))))))))))))) (by kernel_rfl)

theorem ok105 : CallOk Try.prog 105 := callOk_of Try.func105 (by kernel_rfl) (by kernel_rfl)
theorem spec_l07Then_c (a0 : XCategory) (a1 : List Int) (a2 : List Int) (r : (List Int)) (hM : M.spec_l07Then a0 a1 a2 = some r) :
    FnC Try.prog 105 [] [.agg (eXCategory.b a0), .sl a1.length 0 (a1.flatMap eI.b), .sl a2.length 0 (a2.flatMap eI.b)] [] (.fr 1 r.length (r.flatMap eI.o)) := by
  refine fnc_startG (N := 34) (np := 500) hT Try.func105 rfl rfl (by kernel_rfl) ?_
  unfold M.spec_l07Then at hM
  refine tr_start (ks := [0, 2, 4]) (st' := [(0, .d (.agg (eXCategory.b a0))), (2, .d (.sl a1.length 0 (a1.flatMap eI.b))), (4, .d (.sl a2.length 0 (a2.flatMap eI.b)))]) (by kernel_rfl) ?_
  refine tr_sr hT hm [] [2, 4, 6, 2007] [(2, .d (.sl a1.length 0 (a1.flatMap eI.b))), (4, .d (.sl a2.length 0 (a2.flatMap eI.b))), (6, .d (.rp 1003 0)), bxB 2007 (eXCategory.b a0)] .nil (by kernel_rfl) (by kernel_rfl) ?_
  refine tr_sr hT hm [] [2, 4, 6, 14, 2007, 2019] [(2, .d (.sl a1.length 0 (a1.flatMap eI.b))), (4, .d (.sl a2.length 0 (a2.flatMap eI.b))), (6, .d (.rp 1003 0)), (14, .d (.rs 1009 0 (([] : List Int).length))), bxB 2007 (eXCategory.b a0), (2019, .r (.arr 1 (([] : List Int).flatMap eI.o) []))] .nil (by kernel_rfl) (by kernel_rfl) ?_
  refine tr_seq ?_
  refine tr_sr hT hm [] [2, 4, 6, 14, 16, 2007, 2019] [(2, .d (.sl a1.length 0 (a1.flatMap eI.b))), (4, .d (.sl a2.length 0 (a2.flatMap eI.b))), (6, .d (.rp 1003 0)), (14, .d (.rs 1009 0 (([] : List Int).length))), (16, .d (iv 0)), bxB 2007 (eXCategory.b a0), (2019, .r (.arr 1 (([] : List Int).flatMap eI.o) []))] .nil (by kernel_rfl) (by kernel_rfl) ?_
  refine tr_block ?_
  refine tr_iterS (fun (s1 : (List Int) × Int) => [(2, .d (.sl a1.length 0 (a1.flatMap eI.b))), (4, .d (.sl a2.length 0 (a2.flatMap eI.b))), (6, .d (.rp 1003 0)), (14, .d (.rs 1009 0 s1.1.length)), (16, .d (iv s1.2)), bxB 2007 (eXCategory.b a0), (2019, .r (.arr 1 (s1.1.flatMap eI.o) []))]) (([] : List Int), 0) [2, 4, 6, 14, 16, 2007, 2019] (by kernel_rfl) hM ?_
  intro n4 next2 ih3 s1 hM
  refine tr_seq ?_
  refine tr_sr hT hm [] [2, 4, 6, 14, 16, 26, 2007, 2019] [(2, .d (.sl a1.length 0 (a1.flatMap eI.b))), (4, .d (.sl a2.length 0 (a2.flatMap eI.b))), (6, .d (.rp 1003 0)), (14, .d (.rs 1009 0 s1.1.length)), (16, .d (iv s1.2)), (26, .d (bv (decide (s1.2 < (a1.length : Int))))), bxB 2007 (eXCategory.b a0), (2019, .r (.arr 1 (s1.1.flatMap eI.o) []))] .nil (by kernel_rfl) (by kernel_rfl) ?_
  rcases Bool.eq_false_or_eq_true (decide (s1.2 < (a1.length : Int))) with h5 | h5
  · have hM := ite_true' hM h5
    refine tr_condTe (e := decide (s1.2 < (a1.length : Int))) h5 (by kernel_rfl) ?_
    refine tr_skip (q_n ?_)
    refine tr_seq ?_
    refine tr_block ?_
    obtain ⟨y6, hy6, hM⟩ := bind_some' hM
    have hy6' := idx_some hy6
    obtain ⟨y7, hy7, hM⟩ := bind_some' hM
    have hy7' := idx_some hy7
    obtain ⟨y8, hy8, hM⟩ := bind_some' hM
    have hy8' := idx_some hy8
    obtain ⟨y9, hy9, hM⟩ := bind_some' hM
    have hy9' := idx_some hy9
    obtain ⟨h10, hM⟩ := chk_some hM
    refine tr_r hT hm [(6, .val (iv y6)), (8, .val (.sl y7.length 0 (y7.flatMap eI.b))), (12, .val (iv y8)), (14, .val (iv y9)), (16, .app true)] [2, 4, 6, 14, 16, 2007, 2065] [(2, .d (.sl a1.length 0 (a1.flatMap eI.b))), (4, .d (.sl a2.length 0 (a2.flatMap eI.b))), (6, .d (.rp 1003 0)), (14, .d (.rs 1032 0 (s1.1.length + (([y9] : List Int).length)))), (16, .d (iv s1.2)), bxB 2007 (eXCategory.b a0), (2065, .r (.arr 1 (s1.1.flatMap eI.o ++ ([y9] : List Int).flatMap eI.o) []))] (.cons hy6'.1 (.cons hy6'.2.1 (.cons (at_b0 eI_ok hy6'.2.2 (d := iv y6) (by kernel_rfl)) (.cons hy7'.1 (.cons hy7'.2.1 (.cons (at_b0 (eS_ok eI_ok) hy7'.2.2 (d := .sl y7.length 0 (y7.flatMap eI.b)) (by kernel_rfl)) (.cons hy8'.1 (.cons hy8'.2.1 (.cons (at_b0 eI_ok hy8'.2.2 (d := iv y8) (by kernel_rfl)) (.cons hy9'.1 (.cons hy9'.2.1 (.cons (at_b0 eI_ok hy9'.2.2 (d := iv y9) (by kernel_rfl)) (.cons (lenO_flat eI_ok s1.1) (.cons (lenO_flat eI_ok ([y9] : List Int)) (.cons h10 .nil))))))))))))))) (by kernel_rfl) (by kernel_rfl) (b_n (q_n ?_))
    refine Tr.by (imp_cvE (r := 1032) (sz := 1) (refs := []) (flat_app eI.o s1.1 ([y9] : List Int)) (menO_flat eI_ok _) (by kernel_rfl)) ?_
    refine Tr.by (imp_cvD (k := 14) (congrArg (D.rs 1032 0) ((len_app s1.1 ([y9] : List Int)) : s1.1.length + (([y9] : List Int).length) = (s1.1 ++ ([y9] : List Int)).length)) (by kernel_rfl)) ?_
    refine tr_r hT hm [] [2, 4, 6, 14, 16, 2007, 2065] [(2, .d (.sl a1.length 0 (a1.flatMap eI.b))), (4, .d (.sl a2.length 0 (a2.flatMap eI.b))), (6, .d (.rp 1003 0)), (14, .d (.rs 1032 0 ((s1.1 ++ ([y9] : List Int)).length))), (16, .d (iv (IntKind.i64.wrap (s1.2 + 1)))), bxB 2007 (eXCategory.b a0), (2065, .r (.arr 1 ((s1.1 ++ ([y9] : List Int)).flatMap eI.o) []))] .nil (by kernel_rfl) (by kernel_rfl) (l_n ?_)
    refine TrL.by (imp_sel (ks := [2, 4, 6, 14, 16, 2007, 2065]) (st' := [(2, .d (.sl a1.length 0 (a1.flatMap eI.b))), (4, .d (.sl a2.length 0 (a2.flatMap eI.b))), (6, .d (.rp 1003 0)), (14, .d (.rs 1032 0 ((s1.1 ++ ([y9] : List Int)).length))), (16, .d (iv (IntKind.i64.wrap (s1.2 + 1)))), bxB 2007 (eXCategory.b a0), (2065, .r (.arr 1 ((s1.1 ++ ([y9] : List Int)).flatMap eI.o) []))]) (by kernel_rfl)) ?_
    refine TrL.by (imp_rename (r := 1032) (q := 1009) (by kernel_rfl) (Nat.le_of_ble_eq_true rfl)) ?_
    exact trl_start (ks := [2, 4, 6, 14, 16, 2007, 2019]) (by kernel_rfl) (ih3 (s1.1 ++ ([y9] : List Int), IntKind.i64.wrap (s1.2 + 1)) hM)
  · have hM := ite_false' hM h5
    refine tr_condFe (e := decide (s1.2 < (a1.length : Int))) h5 (by kernel_rfl) ?_
    refine tr_exit (q_x (l_x (b_h (q_n ?_))))
    refine tr_sr hT hm [] [12, 2019] [(12, .d (.rs 1009 0 s1.1.length)), (2019, .r (.arr 1 (s1.1.flatMap eI.o) []))] .nil (by kernel_rfl) (by kernel_rfl) ?_
    refine tr_ret (rg_r ?_)
    obtain rfl := Option.some.inj hM
    exact retg (names := []) (.cons (lenO_flat eI_ok s1.1) .nil) (by kernel_rfl)

end Go.Proofs.Ytggojehmbpbefaa.L8
