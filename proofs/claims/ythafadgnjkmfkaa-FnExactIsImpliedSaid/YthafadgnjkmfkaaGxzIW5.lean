/- Walks. Printed by wip/gen. -/
import Derived.Test.YthafadgnjkmfkaaGxzIW4
namespace Go.Proofs.Ythafadgnjkmfkaa.WzI
open Go.Gx Go.Proofs.Ythafadgnjkmfkaa.WvB Go.Proofs.Ythafadgnjkmfkaa.WyN Go.Proofs.Ythafadgnjkmfkaa.WzC Go.Proofs.Ythafadgnjkmfkaa.WvI Go.Proofs.Ythafadgnjkmfkaa.WzU Go.Proofs.Ythafadgnjkmfkaa.WvS Go.Proofs.Ythafadgnjkmfkaa.WyO

theorem ok52 : CallOk Try.prog 52 := callOk_of Try.func52 (by kernel_rfl) (by kernel_rfl)
theorem impl_canonical_value_c (a0 : Xcanonical) (a1 : XTerm) (r : Int) (hM : M.impl_canonical_value a0 a1 = some r) :
    FnC Try.prog 52 [] [.pt (eXcanonical.b a0) 0, .agg (eXTerm.b a1)] [] (iv r) := by
  refine fnc_startG (N := 15) (np := 500) hT Try.func52 rfl rfl (by kernel_rfl) ?_
  unfold M.impl_canonical_value at hM
  refine tr_start (ks := [0, 2]) (st' := [(0, .d (.pt (eXcanonical.b a0) 0)), (2, .d (.agg (eXTerm.b a1)))]) (by kernel_rfl) ?_
  refine tr_sr hT hm [] [0, 6, 2007] [(0, .d (.pt (eXcanonical.b a0) 0)), (6, .d (.rp 1003 0)), bxB 2007 (eXTerm.b a1)] .nil (by kernel_rfl) (by kernel_rfl) ?_
  refine tr_sr hT hm [(9, .val (iv ((mget (a1.Variable, a1.Arrow) a0.class_).getD 0)))] [8] [(8, .d (iv ((mget (a1.Variable, a1.Arrow) a0.class_).getD 0)))] (.cons (look_one kP vI 0 (a1.Variable, a1.Arrow) a0.class_) (.cons (by kernel_rfl : (Try.prog.info? 2).bind (·.zero) = some (.int .i64 0)) (.cons (by kernel_rfl : Try.prog.stoodInHeld 131 = false) .nil))) (by kernel_rfl) (by kernel_rfl) ?_
  refine tr_ret (rg_r ?_)
  obtain rfl := Option.some.inj hM
  exact retg (names := []) .nil (by kernel_rfl)

theorem ok21 : CallOk Try.prog 21 := callOk_of Try.func21 (by kernel_rfl) (by kernel_rfl)
theorem impl_IsImplied_c (a0 : XCategory) (a1 : XQuery) (a2 : XTerm) (a3 : XTerm) (r : Bool × Int) (hM : M.impl_IsImplied a0 a1 a2 a3 = some r) :
    FnC Try.prog 21 [] [.agg (eXCategory.b a0), .agg (eXQuery.b a1), .agg (eXTerm.b a2), .agg (eXTerm.b a3)] [] (.tup [bv r.1, iv r.2]) := by
  refine fnc_startG (N := 32) (np := 500) hT Try.func21 rfl rfl (by kernel_rfl) ?_
  unfold M.impl_IsImplied at hM
  refine tr_start (ks := [0, 2, 4, 6]) (st' := [(0, .d (.agg (eXCategory.b a0))), (2, .d (.agg (eXQuery.b a1))), (4, .d (.agg (eXTerm.b a2))), (6, .d (.agg (eXTerm.b a3)))]) (by kernel_rfl) ?_
  refine tr_sr hT hm [] [8, 10, 12, 14, 2009, 2011, 2013, 2015] [(8, .d (.rp 1004 0)), (10, .d (.rp 1005 0)), (12, .d (.rp 1006 0)), (14, .d (.rp 1007 0)), bxB 2009 (eXCategory.b a0), bxB 2011 (eXQuery.b a1), bxB 2013 (eXTerm.b a2), bxB 2015 (eXTerm.b a3)] .nil (by kernel_rfl) (by kernel_rfl) ?_
  refine tr_seq ?_
  obtain ⟨v1, hv1, hM⟩ := bind_some' hM
  refine tr_sr hT hm [(1, .call [1004, 1012, 1005] [] [.pt (eXCategory.b a0) 0, .sl ([a1] : List XQuery).length 0 (([a1] : List XQuery).flatMap (eP eXQuery).b)] [] (bv v1))] [8, 10, 12, 14, 28, 2009, 2011, 2013, 2015] [(8, .d (.rp 1004 0)), (10, .d (.rp 1005 0)), (12, .d (.rp 1006 0)), (14, .d (.rp 1007 0)), (28, .d (bv (!v1))), bxB 2009 (eXCategory.b a0), bxB 2011 (eXQuery.b a1), bxB 2013 (eXTerm.b a2), bxB 2015 (eXTerm.b a3)] (cc (B := [1004, 1012, 1005]) (ρ := []) (rB := [(1004, .arr 1 [iv a0.Objects, .sl a0.From.length 0 (a0.From.flatMap eI.b), .sl a0.To.length 0 (a0.To.flatMap eI.b), .sl a0.Identity.length 0 (a0.Identity.flatMap eI.b), .sl a0.Composites.length 0 (a0.Composites.flatMap (eS eI).b)] []), (1012, .arr 1 [.rp 1005 0] [1005]), (1005, .arr 1 [.sl a1.Variables.length 0 (a1.Variables.flatMap eI.b), .sl a1.Left.length 0 (a1.Left.flatMap eXTerm.b), .sl a1.Right.length 0 (a1.Right.flatMap eXTerm.b), .sl a1.Output.length 0 (a1.Output.flatMap eI.b)] [])]) ok49 (impl_areQueries_c a0 ([a1] : List XQuery) _ hv1) (.cons (.of1 (.rp (r := 1004) (sz := 1) (cells := [iv a0.Objects, .sl a0.From.length 0 (a0.From.flatMap eI.b), .sl a0.To.length 0 (a0.To.flatMap eI.b), .sl a0.Identity.length 0 (a0.Identity.flatMap eI.b), .sl a0.Composites.length 0 (a0.Composites.flatMap (eS eI).b)]) (refs := []) (memB (by kernel_rfl)) (by kernel_rfl) (.cons .v (.cons (.same rfl rfl) (.cons (.same rfl rfl) (.cons (.same rfl rfl) (.cons (.same rfl rfl) .nil))))))) (.cons (.of1 (.rs (r := 1012) (sz := 1) (cells := [.rp 1005 0]) (refs := [1005]) (memB (by kernel_rfl)) (by kernel_rfl) (.cons (.rp (r := 1005) (sz := 1) (cells := [.sl a1.Variables.length 0 (a1.Variables.flatMap eI.b), .sl a1.Left.length 0 (a1.Left.flatMap eXTerm.b), .sl a1.Right.length 0 (a1.Right.flatMap eXTerm.b), .sl a1.Output.length 0 (a1.Output.flatMap eI.b)]) (refs := []) (memB (by kernel_rfl)) (by kernel_rfl) (.cons (.same rfl rfl) (.cons (.same rfl rfl) (.cons (.same rfl rfl) (.cons (.same rfl rfl) .nil))))) .nil))) .nil)) (.inr ⟨.v, trivial⟩) .nil) (by kernel_rfl) (by kernel_rfl) ?_
  rcases Bool.eq_false_or_eq_true v1 with h2 | h2
  · have hM := ite_true' hM h2
    refine tr_condFe (e := !v1) (congrArg not h2) (by kernel_rfl) ?_
    refine tr_skip (q_n ?_)
    refine tr_seq ?_
    obtain ⟨v3, hv3, hM⟩ := bind_some' hM
    refine tr_sr hT hm [(2, .call [1004, 1005] [] [.pt (eXCategory.b a0) 0, .pt (eXQuery.b a1) 0, .agg (eXTerm.b a2), .agg (eXTerm.b a3)] [] (bv v3))] [8, 10, 12, 14, 36, 2009, 2011, 2013, 2015] [(8, .d (.rp 1004 0)), (10, .d (.rp 1005 0)), (12, .d (.rp 1006 0)), (14, .d (.rp 1007 0)), (36, .d (bv (!v3))), bxB 2009 (eXCategory.b a0), bxB 2011 (eXQuery.b a1), bxB 2013 (eXTerm.b a2), bxB 2015 (eXTerm.b a3)] (cc (B := [1004, 1005]) (ρ := []) (rB := [(1004, .arr 1 [iv a0.Objects, .sl a0.From.length 0 (a0.From.flatMap eI.b), .sl a0.To.length 0 (a0.To.flatMap eI.b), .sl a0.Identity.length 0 (a0.Identity.flatMap eI.b), .sl a0.Composites.length 0 (a0.Composites.flatMap (eS eI).b)] []), (1005, .arr 1 [.sl a1.Variables.length 0 (a1.Variables.flatMap eI.b), .sl a1.Left.length 0 (a1.Left.flatMap eXTerm.b), .sl a1.Right.length 0 (a1.Right.flatMap eXTerm.b), .sl a1.Output.length 0 (a1.Output.flatMap eI.b)] [])]) ok50 (impl_Category_isCondition_c a0 a1 a2 a3 _ hv3) (.cons (.of1 (.rp (r := 1004) (sz := 1) (cells := [iv a0.Objects, .sl a0.From.length 0 (a0.From.flatMap eI.b), .sl a0.To.length 0 (a0.To.flatMap eI.b), .sl a0.Identity.length 0 (a0.Identity.flatMap eI.b), .sl a0.Composites.length 0 (a0.Composites.flatMap (eS eI).b)]) (refs := []) (memB (by kernel_rfl)) (by kernel_rfl) (.cons .v (.cons (.same rfl rfl) (.cons (.same rfl rfl) (.cons (.same rfl rfl) (.cons (.same rfl rfl) .nil))))))) (.cons (.of1 (.rp (r := 1005) (sz := 1) (cells := [.sl a1.Variables.length 0 (a1.Variables.flatMap eI.b), .sl a1.Left.length 0 (a1.Left.flatMap eXTerm.b), .sl a1.Right.length 0 (a1.Right.flatMap eXTerm.b), .sl a1.Output.length 0 (a1.Output.flatMap eI.b)]) (refs := []) (memB (by kernel_rfl)) (by kernel_rfl) (.cons (.same rfl rfl) (.cons (.same rfl rfl) (.cons (.same rfl rfl) (.cons (.same rfl rfl) .nil)))))) (.cons (.same rfl) (.cons (.same rfl) .nil)))) (.inr ⟨.v, trivial⟩) .nil) (by kernel_rfl) (by kernel_rfl) ?_
    rcases Bool.eq_false_or_eq_true v3 with h4 | h4
    · have hM := ite_true' hM h4
      refine tr_condFe (e := !v3) (congrArg not h4) (by kernel_rfl) ?_
      refine tr_skip (q_n ?_)
      refine Tr.by (imp_freeze (B := [1004, 1005]) (cv := [(4, .pt (eXCategory.b a0) 0), (5, .pt (eXQuery.b a1) 0)]) (.cons (by kernel_rfl) (.of1 (.rp (r := 1004) (sz := 1) (cells := [iv a0.Objects, .sl a0.From.length 0 (a0.From.flatMap eI.b), .sl a0.To.length 0 (a0.To.flatMap eI.b), .sl a0.Identity.length 0 (a0.Identity.flatMap eI.b), .sl a0.Composites.length 0 (a0.Composites.flatMap (eS eI).b)]) (refs := []) (memB (by kernel_rfl)) (by kernel_rfl) (.cons .v (.cons (.same rfl rfl) (.cons (.same rfl rfl) (.cons (.same rfl rfl) (.cons (.same rfl rfl) .nil))))))) (.cons (by kernel_rfl) (.of1 (.rp (r := 1005) (sz := 1) (cells := [.sl a1.Variables.length 0 (a1.Variables.flatMap eI.b), .sl a1.Left.length 0 (a1.Left.flatMap eXTerm.b), .sl a1.Right.length 0 (a1.Right.flatMap eXTerm.b), .sl a1.Output.length 0 (a1.Output.flatMap eI.b)]) (refs := []) (memB (by kernel_rfl)) (by kernel_rfl) (.cons (.same rfl rfl) (.cons (.same rfl rfl) (.cons (.same rfl rfl) (.cons (.same rfl rfl) .nil)))))) .nil))) ?_
      obtain ⟨v5, hv5, hM⟩ := bind_some' hM
      rcases Bool.eq_false_or_eq_true v5.2 with h6 | h6
      · have hM := ite_true' hM h6
        refine tr_sr hT hm [(0, .call [] [] [.pt (eXCategory.b a0) 0, .pt (eXQuery.b a1) 0] [] (.tup [.pt (eXcanonical.b v5.1) 0, bv v5.2]))] [12, 14, 20, 22, 2013, 2015] [(12, .d (.rp 1006 0)), (14, .d (.rp 1007 0)), (20, .d (.pt (eXcanonical.b v5.1) 0)), (22, .d (bv v5.2)), bxB 2013 (eXTerm.b a2), bxB 2015 (eXTerm.b a3)] (cc0 ok51 (fnc_pick1 h6 (impl_Category_canonical_c a0 a1 _ hv5)) (by kernel_rfl) .nil) (by kernel_rfl) (by kernel_rfl) ?_
        refine tr_seq ?_
        refine tr_sr hT hm [] [12, 14, 20, 48, 2013, 2015] [(12, .d (.rp 1006 0)), (14, .d (.rp 1007 0)), (20, .d (.pt (eXcanonical.b v5.1) 0)), (48, .d (bv (!v5.2))), bxB 2013 (eXTerm.b a2), bxB 2015 (eXTerm.b a3)] .nil (by kernel_rfl) (by kernel_rfl) ?_
        refine tr_condFe (e := !v5.2) (congrArg not h6) (by kernel_rfl) ?_
        refine tr_skip (q_n ?_)
        obtain ⟨v7, hv7, hM⟩ := bind_some' hM
        obtain ⟨v8, hv8, hM⟩ := bind_some' hM
        refine tr_sr hT hm [(2, .call [] [] [.pt (eXcanonical.b v5.1) 0, .agg (eXTerm.b a2)] [] (iv v7)), (5, .call [] [] [.pt (eXcanonical.b v5.1) 0, .agg (eXTerm.b a3)] [] (iv v8))] [16, 18] [(16, .d (bv (v7 == v8))), (18, .d (iv 0))] (cc0 ok52 (impl_canonical_value_c v5.1 a2 _ hv7) (by kernel_rfl) (cc0 ok52 (impl_canonical_value_c v5.1 a3 _ hv8) (by kernel_rfl) .nil)) (by kernel_rfl) (by kernel_rfl) ?_
        refine tr_ret (rg_r ?_)
        obtain rfl := Option.some.inj hM
        exact retg (names := []) .nil (by kernel_rfl)
      · have hM := ite_false' hM h6
        refine tr_sr hT hm [(0, .call [] [] [.pt (eXCategory.b a0) 0, .pt (eXQuery.b a1) 0] [] (.tup [.v (.pointer .none), bv v5.2]))] [12, 14, 20, 22, 2013, 2015] [(12, .d (.rp 1006 0)), (14, .d (.rp 1007 0)), (20, .d (.v (.pointer .none))), (22, .d (bv v5.2)), bxB 2013 (eXTerm.b a2), bxB 2015 (eXTerm.b a3)] (cc0 ok51 (fnc_pick0 h6 (impl_Category_canonical_c a0 a1 _ hv5)) (by kernel_rfl) .nil) (by kernel_rfl) (by kernel_rfl) ?_
        refine tr_seq ?_
        refine tr_sr hT hm [] [12, 14, 20, 48, 2013, 2015] [(12, .d (.rp 1006 0)), (14, .d (.rp 1007 0)), (20, .d (.v (.pointer .none))), (48, .d (bv (!v5.2))), bxB 2013 (eXTerm.b a2), bxB 2015 (eXTerm.b a3)] .nil (by kernel_rfl) (by kernel_rfl) ?_
        refine tr_condTe (e := !v5.2) (congrArg not h6) (by kernel_rfl) ?_
        refine tr_sr hT hm [] [16, 18] [(16, .d (bv false)), (18, .d (iv 3))] .nil (by kernel_rfl) (by kernel_rfl) ?_
        refine tr_ret (q_r (rg_r ?_))
        obtain rfl := Option.some.inj hM
        exact retg (names := []) .nil (by kernel_rfl)
    · have hM := ite_false' hM h4
      refine tr_condTe (e := !v3) (congrArg not h4) (by kernel_rfl) ?_
      refine tr_sr hT hm [] [16, 18] [(16, .d (bv false)), (18, .d (iv 2))] .nil (by kernel_rfl) (by kernel_rfl) ?_
      refine tr_ret (q_r (rg_r ?_))
      obtain rfl := Option.some.inj hM
      exact retg (names := []) .nil (by kernel_rfl)
  · have hM := ite_false' hM h2
    refine tr_condTe (e := !v1) (congrArg not h2) (by kernel_rfl) ?_
    refine tr_sr hT hm [] [16, 18] [(16, .d (bv false)), (18, .d (iv 1))] .nil (by kernel_rfl) (by kernel_rfl) ?_
    refine tr_ret (q_r (rg_r ?_))
    obtain rfl := Option.some.inj hM
    exact retg (names := []) .nil (by kernel_rfl)

theorem laws_FnExactIsImplied_c (a0 : XCategory) (a1 : XQuery) (a2 : XTerm) (a3 : XTerm) (r : Bool) (hM : M.laws_FnExactIsImplied a0 a1 a2 a3 = some r) :
    FnC Try.prog 4 [] [.agg (eXCategory.b a0), .agg (eXQuery.b a1), .agg (eXTerm.b a2), .agg (eXTerm.b a3)] [] (bv r) := by
  refine fnc_startG (N := 70) (np := 500) hT Try.func4 rfl rfl (by kernel_rfl) ?_
  unfold M.laws_FnExactIsImplied at hM
  refine tr_start (ks := [0, 2, 4, 6]) (st' := [(0, .d (.agg (eXCategory.b a0))), (2, .d (.agg (eXQuery.b a1))), (4, .d (.agg (eXTerm.b a2))), (6, .d (.agg (eXTerm.b a3)))]) (by kernel_rfl) ?_
  refine tr_sr hT hm [] [8, 10, 12, 14, 2009, 2011, 2013, 2015] [(8, .d (.rp 1004 0)), (10, .d (.rp 1005 0)), (12, .d (.rp 1006 0)), (14, .d (.rp 1007 0)), bxB 2009 (eXCategory.b a0), bxB 2011 (eXQuery.b a1), bxB 2013 (eXTerm.b a2), bxB 2015 (eXTerm.b a3)] .nil (by kernel_rfl) (by kernel_rfl) ?_
  refine tr_sr hT hm [] [8, 10, 12, 14, 18, 2009, 2011, 2013, 2015] [(8, .d (.rp 1004 0)), (10, .d (.rp 1005 0)), (12, .d (.rp 1006 0)), (14, .d (.rp 1007 0)), (18, .d (iv 1048576)), bxB 2009 (eXCategory.b a0), bxB 2011 (eXQuery.b a1), bxB 2013 (eXTerm.b a2), bxB 2015 (eXTerm.b a3)] .nil (by kernel_rfl) (by kernel_rfl) ?_
  obtain ⟨v1, hv1, hM⟩ := bind_some' hM
  refine tr_sr hT hm [(2, .call [] [] [.agg (eXCategory.b a0), iv 1048576] [] (iv v1))] [8, 10, 12, 14, 18, 2009, 2011, 2013, 2015] [(8, .d (.rp 1004 0)), (10, .d (.rp 1005 0)), (12, .d (.rp 1006 0)), (14, .d (.rp 1007 0)), (18, .d (iv v1)), bxB 2009 (eXCategory.b a0), bxB 2011 (eXQuery.b a1), bxB 2013 (eXTerm.b a2), bxB 2015 (eXTerm.b a3)] (cc0 ok15 (laws_szCategory_c a0 1048576 _ hv1) (by kernel_rfl) .nil) (by kernel_rfl) (by kernel_rfl) ?_
  refine tr_seq ?_
  refine tr_sr hT hm [] [8, 10, 12, 14, 18, 40, 2009, 2011, 2013, 2015] [(8, .d (.rp 1004 0)), (10, .d (.rp 1005 0)), (12, .d (.rp 1006 0)), (14, .d (.rp 1007 0)), (18, .d (iv v1)), (40, .d (bv (decide (v1 < 0)))), bxB 2009 (eXCategory.b a0), bxB 2011 (eXQuery.b a1), bxB 2013 (eXTerm.b a2), bxB 2015 (eXTerm.b a3)] .nil (by kernel_rfl) (by kernel_rfl) ?_
  rcases Bool.eq_false_or_eq_true (decide (v1 < 0)) with h2 | h2
  · have hM := ite_true' hM h2
    refine tr_condTe (e := decide (v1 < 0)) h2 (by kernel_rfl) ?_
    refine tr_sr hT hm [] [16] [(16, .d (bv true))] .nil (by kernel_rfl) (by kernel_rfl) ?_
    refine tr_ret (q_r (rg_r ?_))
    obtain rfl := Option.some.inj hM
    exact retg (names := []) .nil (by kernel_rfl)
  · have hM := ite_false' hM h2
    refine tr_condFe (e := decide (v1 < 0)) h2 (by kernel_rfl) ?_
    refine tr_skip (q_n ?_)
    obtain ⟨v3, hv3, hM⟩ := bind_some' hM
    refine tr_sr hT hm [(2, .call [] [] [.agg (eXQuery.b a1), iv v1] [] (iv v3))] [8, 10, 12, 14, 18, 2009, 2011, 2013, 2015] [(8, .d (.rp 1004 0)), (10, .d (.rp 1005 0)), (12, .d (.rp 1006 0)), (14, .d (.rp 1007 0)), (18, .d (iv v3)), bxB 2009 (eXCategory.b a0), bxB 2011 (eXQuery.b a1), bxB 2013 (eXTerm.b a2), bxB 2015 (eXTerm.b a3)] (cc0 ok16 (laws_szQuery_c a1 v1 _ hv3) (by kernel_rfl) .nil) (by kernel_rfl) (by kernel_rfl) ?_
    refine tr_seq ?_
    refine tr_sr hT hm [] [8, 10, 12, 14, 50, 2009, 2011, 2013, 2015] [(8, .d (.rp 1004 0)), (10, .d (.rp 1005 0)), (12, .d (.rp 1006 0)), (14, .d (.rp 1007 0)), (50, .d (bv (decide (v3 < 0)))), bxB 2009 (eXCategory.b a0), bxB 2011 (eXQuery.b a1), bxB 2013 (eXTerm.b a2), bxB 2015 (eXTerm.b a3)] .nil (by kernel_rfl) (by kernel_rfl) ?_
    rcases Bool.eq_false_or_eq_true (decide (v3 < 0)) with h4 | h4
    · have hM := ite_true' hM h4
      refine tr_condTe (e := decide (v3 < 0)) h4 (by kernel_rfl) ?_
      refine tr_sr hT hm [] [16] [(16, .d (bv true))] .nil (by kernel_rfl) (by kernel_rfl) ?_
      refine tr_ret (q_r (rg_r ?_))
      obtain rfl := Option.some.inj hM
      exact retg (names := []) .nil (by kernel_rfl)
    · have hM := ite_false' hM h4
      refine tr_condFe (e := decide (v3 < 0)) h4 (by kernel_rfl) ?_
      refine tr_skip (q_n ?_)
      obtain ⟨v5, hv5, hM⟩ := bind_some' hM
      obtain ⟨v6, hv6, hM⟩ := bind_some' hM
      obtain ⟨v7, hv7, hM⟩ := bind_some' hM
      obtain ⟨v8, hv8, hM⟩ := bind_some' hM
      obtain ⟨v9, hv9, hM⟩ := bind_some' hM
      refine tr_sr hT hm [(1, .call [] [] [.agg (eXCategory.b a0)] [] (.agg (eXCategory.o v5))), (3, .call [] [] [.agg (eXQuery.b a1)] [] (.agg (eXQuery.o v6))), (5, .call [] [] [.agg (eXTerm.b a2)] [] (.agg (eXTerm.o v7))), (7, .call [] [] [.agg (eXTerm.b a3)] [] (.agg (eXTerm.o v8))), (8, .call (rsR 30000 (eXCategory.o v5) ++ rsR 32000 (eXQuery.o v6)) [] [.agg (eXCategory.b v5), .agg (eXQuery.b v6), .agg (eXTerm.b v7), .agg (eXTerm.b v8)] [] (.tup [bv v9.1, iv v9.2]))] [8, 10, 12, 14, 20, 22, 2009, 2011, 2013, 2015] [(8, .d (.rp 1004 0)), (10, .d (.rp 1005 0)), (12, .d (.rp 1006 0)), (14, .d (.rp 1007 0)), (20, .d (bv v9.1)), (22, .d (iv v9.2)), bxB 2009 (eXCategory.b a0), bxB 2011 (eXQuery.b a1), bxB 2013 (eXTerm.b a2), bxB 2015 (eXTerm.b a3)] (cc0 ok18 (laws_toCategory_c a0 _ hv5) (by kernel_rfl) (cc0 ok19 (laws_toQuery_c a1 _ hv6) (by kernel_rfl) (cc0 ok20 (laws_toTerm_c a2 _ hv7) (by kernel_rfl) (cc0 ok20 (laws_toTerm_c a3 _ hv8) (by kernel_rfl) (cc (B := (rsR 30000 (eXCategory.o v5) ++ rsR 32000 (eXQuery.o v6))) (ρ := []) (rB := (rsP 30000 (eXCategory.o v5) ++ rsP 32000 (eXQuery.o v6))) ok17 (spec_IsImplied_c v5 v6 v7 v8 _ hv9) (.cons (bor_rs eXCategory_r (q := 30000) (x := v5) (by kernel_rfl) (by kernel_rfl)) (.cons (bor_rs eXQuery_r (q := 32000) (x := v6) (by kernel_rfl) (by kernel_rfl)) (.cons (.same rfl) (.cons (.same rfl) .nil)))) (.inr ⟨(nobor_tup (.cons .v (.cons .v .nil))), trivial⟩) .nil))))) (by kernel_rfl) (by kernel_rfl) ?_
      refine tr_sr hT hm [(1, .call [] [] [.agg (eXCategory.b a0)] [] (.agg (eXCategory.o v5)))] [8, 10, 12, 14, 20, 22, 24, 2009, 2011, 2013, 2015, 2025, 82003, 82005, 82007, 82009] ([(8, .d (.rp 1004 0)), (10, .d (.rp 1005 0)), (12, .d (.rp 1006 0)), (14, .d (.rp 1007 0)), (20, .d (bv v9.1)), (22, .d (iv v9.2)), (24, .d (.rp 1012 0)), bxB 2009 (eXCategory.b a0), bxB 2011 (eXQuery.b a1), bxB 2013 (eXTerm.b a2), bxB 2015 (eXTerm.b a3), bxO 2025 41000 (eXCategory.o v5)] ++ rsS 41000 (eXCategory.o v5)) (cc0 ok18 (laws_toCategory_c a0 _ hv5) (by kernel_rfl) (.cons (Nat.le_of_ble_eq_true (n := 5) (m := 5) rfl) .nil)) (by kernel_rfl) (by kernel_rfl) ?_
      refine tr_sr hT hm [(1, .call [] [] [.agg (eXQuery.b a1)] [] (.agg (eXQuery.o v6)))] [8, 10, 12, 14, 20, 22, 24, 26, 2009, 2011, 2013, 2015, 2025, 2027, 82003, 82005, 82007, 82009, 86001, 86003, 86005, 86007] ([(8, .d (.rp 1004 0)), (10, .d (.rp 1005 0)), (12, .d (.rp 1006 0)), (14, .d (.rp 1007 0)), (20, .d (bv v9.1)), (22, .d (iv v9.2)), (24, .d (.rp 1012 0)), (26, .d (.rp 1013 0)), bxB 2009 (eXCategory.b a0), bxB 2011 (eXQuery.b a1), bxB 2013 (eXTerm.b a2), bxB 2015 (eXTerm.b a3), bxO 2025 41000 (eXCategory.o v5), bxO 2027 43000 (eXQuery.o v6)] ++ rsS 41000 (eXCategory.o v5) ++ rsS 43000 (eXQuery.o v6)) (cc0 ok19 (laws_toQuery_c a1 _ hv6) (by kernel_rfl) (.cons (Nat.le_of_ble_eq_true (n := 4) (m := 4) rfl) .nil)) (by kernel_rfl) (by kernel_rfl) ?_
      obtain ⟨v10, hv10, hM⟩ := bind_some' hM
      refine tr_sr hT hm [(3, .call [] [] [.agg (eXTerm.b a2)] [] (.agg (eXTerm.o v7))), (5, .call [] [] [.agg (eXTerm.b a3)] [] (.agg (eXTerm.o v8))), (6, .call (rsR 41000 (eXCategory.o v5) ++ rsR 43000 (eXQuery.o v6)) [] [.agg (eXCategory.b v5), .agg (eXQuery.b v6), .agg (eXTerm.b v7), .agg (eXTerm.b v8)] [] (.tup [bv v10.1, iv v10.2]))] [8, 10, 20, 22, 24, 26, 28, 30, 2009, 2011, 2025, 2027, 82003, 82005, 82007, 82009, 86001, 86003, 86005, 86007] ([(8, .d (.rp 1004 0)), (10, .d (.rp 1005 0)), (20, .d (bv v9.1)), (22, .d (iv v9.2)), (24, .d (.rp 1012 0)), (26, .d (.rp 1013 0)), (28, .d (bv v10.1)), (30, .d (iv v10.2)), bxB 2009 (eXCategory.b a0), bxB 2011 (eXQuery.b a1), bxO 2025 41000 (eXCategory.o v5), bxO 2027 43000 (eXQuery.o v6)] ++ rsS 41000 (eXCategory.o v5) ++ rsS 43000 (eXQuery.o v6)) (cc0 ok20 (laws_toTerm_c a2 _ hv7) (by kernel_rfl) (cc0 ok20 (laws_toTerm_c a3 _ hv8) (by kernel_rfl) (cc (B := (rsR 41000 (eXCategory.o v5) ++ rsR 43000 (eXQuery.o v6))) (ρ := []) (rB := (rsP 41000 (eXCategory.o v5) ++ rsP 43000 (eXQuery.o v6))) ok21 (impl_IsImplied_c v5 v6 v7 v8 _ hv10) (.cons (bor_rs eXCategory_r (q := 41000) (x := v5) (by kernel_rfl) (by kernel_rfl)) (.cons (bor_rs eXQuery_r (q := 43000) (x := v6) (by kernel_rfl) (by kernel_rfl)) (.cons (.same rfl) (.cons (.same rfl) .nil)))) (.inr ⟨(nobor_tup (.cons .v (.cons .v .nil))), trivial⟩) .nil))) (by kernel_rfl) (by kernel_rfl) ?_
      refine tr_seq ?_
      rcases Bool.eq_false_or_eq_true ((v10.1 == v9.1) == false) with h11 | h11
      · have hM := ite_true' hM h11
        refine tr_sr hT hm [(3, .val (bv true))] [8, 10, 24, 26, 118, 2009, 2011, 2025, 2027, 82003, 82005, 82007, 82009, 86001, 86003, 86005, 86007] ([(8, .d (.rp 1004 0)), (10, .d (.rp 1005 0)), (24, .d (.rp 1012 0)), (26, .d (.rp 1013 0)), (118, .d (bv true)), bxB 2009 (eXCategory.b a0), bxB 2011 (eXQuery.b a1), bxO 2025 41000 (eXCategory.o v5), bxO 2027 43000 (eXQuery.o v6)] ++ rsS 41000 (eXCategory.o v5) ++ rsS 43000 (eXQuery.o v6)) (.cons (congrArg (fun b => bv b) h11) .nil) (by kernel_rfl) (by kernel_rfl) ?_
        refine tr_condT (by kernel_rfl) ?_
        refine tr_sr hT hm [] [16] [(16, .d (bv false))] .nil (by kernel_rfl) (by kernel_rfl) ?_
        refine tr_ret (q_r (rg_r ?_))
        obtain rfl := Option.some.inj hM
        exact retg (names := []) .nil (by kernel_rfl)
      · have hM := ite_false' hM h11
        refine tr_sr hT hm [(3, .val (bv false))] [8, 10, 24, 26, 118, 2009, 2011, 2025, 2027, 82003, 82005, 82007, 82009, 86001, 86003, 86005, 86007] ([(8, .d (.rp 1004 0)), (10, .d (.rp 1005 0)), (24, .d (.rp 1012 0)), (26, .d (.rp 1013 0)), (118, .d (bv (v10.2 != v9.2))), bxB 2009 (eXCategory.b a0), bxB 2011 (eXQuery.b a1), bxO 2025 41000 (eXCategory.o v5), bxO 2027 43000 (eXQuery.o v6)] ++ rsS 41000 (eXCategory.o v5) ++ rsS 43000 (eXQuery.o v6)) (.cons (congrArg (fun b => bv b) h11) .nil) (by kernel_rfl) (by kernel_rfl) ?_
        rcases Bool.eq_false_or_eq_true (v10.2 != v9.2) with h12 | h12
        · have hM := ite_true' hM h12
          refine tr_condTe (e := v10.2 != v9.2) h12 (by kernel_rfl) ?_
          refine tr_sr hT hm [] [16] [(16, .d (bv false))] .nil (by kernel_rfl) (by kernel_rfl) ?_
          refine tr_ret (q_r (rg_r ?_))
          obtain rfl := Option.some.inj hM
          exact retg (names := []) .nil (by kernel_rfl)
        · have hM := ite_false' hM h12
          refine tr_condFe (e := v10.2 != v9.2) h12 (by kernel_rfl) ?_
          refine tr_skip (q_n ?_)
          refine tr_seq ?_
          obtain ⟨v13, hv13, hM⟩ := bind_some' hM
          refine tr_sr hT hm [(2, .call [] [] [.agg (eXCategory.b a0)] [] (.agg (eXCategory.o v5))), (3, .call (rsR 41000 (eXCategory.o v5) ++ rsR 64000 (eXCategory.o v5)) [] [.agg (eXCategory.b v5), .agg (eXCategory.b v5)] [] (bv v13))] [10, 26, 128, 2011, 2027, 86001, 86003, 86005, 86007] ([(10, .d (.rp 1005 0)), (26, .d (.rp 1013 0)), (128, .d (bv (!v13))), bxB 2011 (eXQuery.b a1), bxO 2027 43000 (eXQuery.o v6)] ++ rsS 43000 (eXQuery.o v6)) (cc0 ok18 (laws_toCategory_c a0 _ hv5) (by kernel_rfl) (cc (B := (rsR 41000 (eXCategory.o v5) ++ rsR 64000 (eXCategory.o v5))) (ρ := []) (rB := (rsP 41000 (eXCategory.o v5) ++ rsP 64000 (eXCategory.o v5))) ok22 (laws_eqCategory_c v5 v5 _ hv13) (.cons (bor_rs eXCategory_r (q := 41000) (x := v5) (by kernel_rfl) (by kernel_rfl)) (.cons (bor_rs eXCategory_r (q := 64000) (x := v5) (by kernel_rfl) (by kernel_rfl)) .nil)) (.inr ⟨.v, trivial⟩) .nil)) (by kernel_rfl) (by kernel_rfl) ?_
          rcases Bool.eq_false_or_eq_true v13 with h14 | h14
          · have hM := ite_true' hM h14
            refine tr_condFe (e := !v13) (congrArg not h14) (by kernel_rfl) ?_
            refine tr_skip (q_n ?_)
            refine tr_seq ?_
            obtain ⟨v15, hv15, hM⟩ := bind_some' hM
            refine tr_sr hT hm [(2, .call [] [] [.agg (eXQuery.b a1)] [] (.agg (eXQuery.o v6))), (3, .call (rsR 43000 (eXQuery.o v6) ++ rsR 69000 (eXQuery.o v6)) [] [.agg (eXQuery.b v6), .agg (eXQuery.b v6)] [] (bv v15))] [138] [(138, .d (bv (!v15)))] (cc0 ok19 (laws_toQuery_c a1 _ hv6) (by kernel_rfl) (cc (B := (rsR 43000 (eXQuery.o v6) ++ rsR 69000 (eXQuery.o v6))) (ρ := []) (rB := (rsP 43000 (eXQuery.o v6) ++ rsP 69000 (eXQuery.o v6))) ok23 (laws_eqQuery_c v6 v6 _ hv15) (.cons (bor_rs eXQuery_r (q := 43000) (x := v6) (by kernel_rfl) (by kernel_rfl)) (.cons (bor_rs eXQuery_r (q := 69000) (x := v6) (by kernel_rfl) (by kernel_rfl)) .nil)) (.inr ⟨.v, trivial⟩) .nil)) (by kernel_rfl) (by kernel_rfl) ?_
            rcases Bool.eq_false_or_eq_true v15 with h16 | h16
            · have hM := ite_true' hM h16
              refine tr_condFe (e := !v15) (congrArg not h16) (by kernel_rfl) ?_
              refine tr_skip (q_n ?_)
              refine tr_sr hT hm [] [16] [(16, .d (bv true))] .nil (by kernel_rfl) (by kernel_rfl) ?_
              refine tr_ret (rg_r ?_)
              obtain rfl := Option.some.inj hM
              exact retg (names := []) .nil (by kernel_rfl)
            · have hM := ite_false' hM h16
              refine tr_condTe (e := !v15) (congrArg not h16) (by kernel_rfl) ?_
              refine tr_sr hT hm [] [16] [(16, .d (bv false))] .nil (by kernel_rfl) (by kernel_rfl) ?_
              refine tr_ret (q_r (rg_r ?_))
              obtain rfl := Option.some.inj hM
              exact retg (names := []) .nil (by kernel_rfl)
          · have hM := ite_false' hM h14
            refine tr_condTe (e := !v13) (congrArg not h14) (by kernel_rfl) ?_
            refine tr_sr hT hm [] [16] [(16, .d (bv false))] .nil (by kernel_rfl) (by kernel_rfl) ?_
            refine tr_ret (q_r (rg_r ?_))
            obtain rfl := Option.some.inj hM
            exact retg (names := []) .nil (by kernel_rfl)

end Go.Proofs.Ythafadgnjkmfkaa.WzI
