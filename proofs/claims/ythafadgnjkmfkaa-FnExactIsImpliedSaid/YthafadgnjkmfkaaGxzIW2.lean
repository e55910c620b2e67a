/- Walks. Printed by wip/gen. -/
import Derived.Test.YthafadgnjkmfkaaGxzIW1
namespace Go.Proofs.Ythafadgnjkmfkaa.WzI
open Go.Gx Go.Proofs.Ythafadgnjkmfkaa.WvB Go.Proofs.Ythafadgnjkmfkaa.WyN Go.Proofs.Ythafadgnjkmfkaa.WzC Go.Proofs.Ythafadgnjkmfkaa.WvI Go.Proofs.Ythafadgnjkmfkaa.WzU Go.Proofs.Ythafadgnjkmfkaa.WvS Go.Proofs.Ythafadgnjkmfkaa.WyO

theorem ok120 : CallOk Try.prog 120 := callOk_of Try.func120 (by kernel_rfl) (by kernel_rfl)
theorem spec_l38Pair_c (a0 : XCategory) (a1 : XQuery) (a2 : XTerm) (r : Int) (hM : M.spec_l38Pair a0 a1 a2 = some r) :
    FnC Try.prog 120 [] [.agg (eXCategory.b a0), .agg (eXQuery.b a1), .agg (eXTerm.b a2)] [] (iv r) := by
  refine fnc_startG (N := 47) (np := 500) hT Try.func120 rfl rfl (by kernel_rfl) ?_
  unfold M.spec_l38Pair at hM
  refine tr_start (ks := [0, 2, 4]) (st' := [(0, .d (.agg (eXCategory.b a0))), (2, .d (.agg (eXQuery.b a1))), (4, .d (.agg (eXTerm.b a2)))]) (by kernel_rfl) ?_
  refine tr_sr hT hm [] [6, 8, 10, 2007, 2009, 2011] [(6, .d (.rp 1003 0)), (8, .d (.rp 1004 0)), (10, .d (.rp 1005 0)), bxB 2007 (eXCategory.b a0), bxB 2009 (eXQuery.b a1), bxB 2011 (eXTerm.b a2)] .nil (by kernel_rfl) (by kernel_rfl) ?_
  obtain ⟨y1, hy1, hM⟩ := bind_some' hM
  have hy1' := idx_some hy1
  refine tr_sr hT hm [(5, .val (iv y1))] [6, 8, 10, 14, 16, 2007, 2009, 2011] [(6, .d (.rp 1003 0)), (8, .d (.rp 1004 0)), (10, .d (.rp 1005 0)), (14, .d (iv y1)), (16, .d (iv 0)), bxB 2007 (eXCategory.b a0), bxB 2009 (eXQuery.b a1), bxB 2011 (eXTerm.b a2)] (.cons hy1'.1 (.cons hy1'.2.1 (.cons (at_b0 eI_ok hy1'.2.2 (d := iv y1) (by kernel_rfl)) .nil))) (by kernel_rfl) (by kernel_rfl) ?_
  refine tr_seq ?_
  refine tr_sr hT hm [] [6, 8, 10, 14, 16, 18, 2007, 2009, 2011] [(6, .d (.rp 1003 0)), (8, .d (.rp 1004 0)), (10, .d (.rp 1005 0)), (14, .d (iv y1)), (16, .d (iv 0)), (18, .d (iv 0)), bxB 2007 (eXCategory.b a0), bxB 2009 (eXQuery.b a1), bxB 2011 (eXTerm.b a2)] .nil (by kernel_rfl) (by kernel_rfl) ?_
  refine tr_block ?_
  refine tr_iterS (fun (s2 : Int × Int) => [(6, .d (.rp 1003 0)), (8, .d (.rp 1004 0)), (10, .d (.rp 1005 0)), (14, .d (iv y1)), (16, .d (iv s2.1)), (18, .d (iv s2.2)), bxB 2007 (eXCategory.b a0), bxB 2009 (eXQuery.b a1), bxB 2011 (eXTerm.b a2)]) (0, 0) [6, 8, 10, 14, 16, 18, 2007, 2009, 2011] (by kernel_rfl) hM ?_
  intro n5 next3 ih4 s2 hM
  refine tr_seq ?_
  refine tr_sr hT hm [] [6, 8, 10, 14, 16, 18, 38, 2007, 2009, 2011] [(6, .d (.rp 1003 0)), (8, .d (.rp 1004 0)), (10, .d (.rp 1005 0)), (14, .d (iv y1)), (16, .d (iv s2.1)), (18, .d (iv s2.2)), (38, .d (bv (decide (s2.2 < a2.Variable)))), bxB 2007 (eXCategory.b a0), bxB 2009 (eXQuery.b a1), bxB 2011 (eXTerm.b a2)] .nil (by kernel_rfl) (by kernel_rfl) ?_
  rcases Bool.eq_false_or_eq_true (decide (s2.2 < a2.Variable)) with h6 | h6
  · have hM := ite_true' hM h6
    refine tr_condTe (e := decide (s2.2 < a2.Variable)) h6 (by kernel_rfl) ?_
    refine tr_skip (q_n ?_)
    refine tr_seq ?_
    refine tr_block ?_
    obtain ⟨y7, hy7, hM⟩ := bind_some' hM
    have hy7' := idx_some hy7
    obtain ⟨v8, hv8, hM⟩ := bind_some' hM
    refine tr_r hT hm [(6, .val (iv y7)), (8, .call [] [] [.agg (eXCategory.b a0), iv y7, iv y1] [] (.fr 1 v8.length (v8.flatMap eI.o)))] [6, 8, 10, 14, 16, 18, 2007, 2009, 2011] [(6, .d (.rp 1003 0)), (8, .d (.rp 1004 0)), (10, .d (.rp 1005 0)), (14, .d (iv y1)), (16, .d (iv (IntKind.i64.wrap (s2.1 + (v8.length : Int))))), (18, .d (iv s2.2)), bxB 2007 (eXCategory.b a0), bxB 2009 (eXQuery.b a1), bxB 2011 (eXTerm.b a2)] (.cons hy7'.1 (.cons hy7'.2.1 (.cons (at_b0 eI_ok hy7'.2.2 (d := iv y7) (by kernel_rfl)) (cc0 ok62 (spec_l02Hom_c a0 y7 y1 _ hv8) (by kernel_rfl) .nil)))) (by kernel_rfl) (by kernel_rfl) (b_n (q_n ?_))
    refine tr_r hT hm [] [6, 8, 10, 14, 16, 18, 2007, 2009, 2011] [(6, .d (.rp 1003 0)), (8, .d (.rp 1004 0)), (10, .d (.rp 1005 0)), (14, .d (iv y1)), (16, .d (iv (IntKind.i64.wrap (s2.1 + (v8.length : Int))))), (18, .d (iv (IntKind.i64.wrap (s2.2 + 1)))), bxB 2007 (eXCategory.b a0), bxB 2009 (eXQuery.b a1), bxB 2011 (eXTerm.b a2)] .nil (by kernel_rfl) (by kernel_rfl) (l_n ?_)
    exact trl_start (ks := [6, 8, 10, 14, 16, 18, 2007, 2009, 2011]) (by kernel_rfl) (ih4 (IntKind.i64.wrap (s2.1 + (v8.length : Int)), IntKind.i64.wrap (s2.2 + 1)) hM)
  · have hM := ite_false' hM h6
    refine tr_condFe (e := decide (s2.2 < a2.Variable)) h6 (by kernel_rfl) ?_
    refine tr_exit (q_x (l_x (b_h (q_n ?_))))
    obtain ⟨y9, hy9, hM⟩ := bind_some' hM
    have hy9' := idx_some hy9
    obtain ⟨v10, hv10, hM⟩ := bind_some' hM
    obtain ⟨v11, hv11, hM⟩ := bind_some' hM
    refine tr_sr hT hm [(7, .val (iv y9)), (9, .call [] [] [.agg (eXCategory.b a0), iv y9, iv y1] [] (.fr 1 v10.length (v10.flatMap eI.o))), (12, .call [44000] [] [.sl v10.length 0 (v10.flatMap eI.b), iv a2.Arrow] [] (iv v11))] [12] [(12, .d (iv (IntKind.i64.wrap (s2.1 + v11))))] (.cons hy9'.1 (.cons hy9'.2.1 (.cons (at_b0 eI_ok hy9'.2.2 (d := iv y9) (by kernel_rfl)) (cc0 ok62 (spec_l02Hom_c a0 y9 y1 _ hv10) (by kernel_rfl) (cc (B := [44000]) (ρ := []) (rB := [(44000, .arr 1 (v10.flatMap eI.o) [])]) ok122 (spec_l01Index_c v10 a2.Arrow _ hv11) (.cons (.of1 (.rs (r := 44000) (sz := 1) (refs := []) (memB (by kernel_rfl)) (by kernel_rfl) (bor_flat eI_ok _ _ _))) (.cons (.same rfl) .nil)) (.inr ⟨.v, trivial⟩) .nil))))) (by kernel_rfl) (by kernel_rfl) ?_
    refine tr_ret (rg_r ?_)
    obtain rfl := Option.some.inj hM
    exact retg (names := []) .nil (by kernel_rfl)

theorem ok83 : CallOk Try.prog 83 := callOk_of Try.func83 (by kernel_rfl) (by kernel_rfl)
theorem spec_l38Canonical_c (a0 : XCategory) (a1 : XQuery) (r : XSetFunctor × (List Int) × Bool) (hM : M.spec_l38Canonical a0 a1 = some r) :
    FnC Try.prog 83 [] [.agg (eXCategory.b a0), .agg (eXQuery.b a1)] [] (.tup [.agg (eXSetFunctor.o r.1), .fr 1 r.2.1.length (r.2.1.flatMap eI.o), bv r.2.2]) := by
  refine fnc_startG (N := 222) (np := 500) hT Try.func83 rfl rfl (by kernel_rfl) ?_
  unfold M.spec_l38Canonical at hM
  refine tr_start (ks := [0, 2]) (st' := [(0, .d (.agg (eXCategory.b a0))), (2, .d (.agg (eXQuery.b a1)))]) (by kernel_rfl) ?_
  refine tr_sr hT hm [] [4, 6, 8, 2005, 2007, 2009] [(4, .d (.rp 1002 0)), (6, .d (.rp 1003 0)), (8, .d (.rp 1004 0)), bxB 2005 (eXCategory.b a0), bxB 2007 (eXQuery.b a1), (2009, .r (.arr 1 [iv 0, nilv, nilv, nilv, nilv, nilv, nilv] []))] .nil (by kernel_rfl) (by kernel_rfl) ?_
  obtain ⟨v1, hv1, hM⟩ := bind_some' hM
  refine tr_sr hT hm [(3, .call [] [] [.agg (eXCategory.b a0), .sl a1.Variables.length 0 (a1.Variables.flatMap eI.b)] [] (.agg (eXSetFunctor.o v1)))] [4, 6, 8, 14, 2005, 2007, 2009, 2015, 60003, 60005, 60007, 60009, 60011, 60013] ([(4, .d (.rp 1002 0)), (6, .d (.rp 1003 0)), (8, .d (.rp 1004 0)), (14, .d (.rp 1007 0)), bxB 2005 (eXCategory.b a0), bxB 2007 (eXQuery.b a1), (2009, .r (.arr 1 [iv 0, nilv, nilv, nilv, nilv, nilv, nilv] [])), bxO 2015 30000 (eXSetFunctor.o v1)] ++ rsS 30000 (eXSetFunctor.o v1)) (cc0 ok119 (spec_l19Free_c a0 a1.Variables _ hv1) (by kernel_rfl) (.cons (Nat.le_of_ble_eq_true (n := 7) (m := 7) rfl) .nil)) (by kernel_rfl) (by kernel_rfl) ?_
  refine tr_sr hT hm [] [4, 6, 8, 14, 16, 2005, 2007, 2009, 2015, 2059, 60003, 60005, 60007, 60009, 60011, 60013] ([(4, .d (.rp 1002 0)), (6, .d (.rp 1003 0)), (8, .d (.rp 1004 0)), (14, .d (.rp 1007 0)), (16, .d (.rs 1029 0 (([] : List (List Int)).length))), bxB 2005 (eXCategory.b a0), bxB 2007 (eXQuery.b a1), (2009, .r (.arr 1 [iv 0, nilv, nilv, nilv, nilv, nilv, nilv] [])), bxO 2015 30000 (eXSetFunctor.o v1), (2059, .r (.arr 1 (([] : List (List Int)).flatMap (eS eI).o) []))] ++ rsS 30000 (eXSetFunctor.o v1)) .nil (by kernel_rfl) (by kernel_rfl) ?_
  refine tr_seq ?_
  refine tr_sr hT hm [] [4, 6, 8, 14, 16, 18, 2005, 2007, 2009, 2015, 2059, 60003, 60005, 60007, 60009, 60011, 60013] ([(4, .d (.rp 1002 0)), (6, .d (.rp 1003 0)), (8, .d (.rp 1004 0)), (14, .d (.rp 1007 0)), (16, .d (.rs 1029 0 (([] : List (List Int)).length))), (18, .d (iv 0)), bxB 2005 (eXCategory.b a0), bxB 2007 (eXQuery.b a1), (2009, .r (.arr 1 [iv 0, nilv, nilv, nilv, nilv, nilv, nilv] [])), bxO 2015 30000 (eXSetFunctor.o v1), (2059, .r (.arr 1 (([] : List (List Int)).flatMap (eS eI).o) []))] ++ rsS 30000 (eXSetFunctor.o v1)) .nil (by kernel_rfl) (by kernel_rfl) ?_
  refine tr_block ?_
  refine tr_iterS (fun (s2 : (List (List Int)) × Int) => ([(4, .d (.rp 1002 0)), (6, .d (.rp 1003 0)), (8, .d (.rp 1004 0)), (14, .d (.rp 1007 0)), (16, .d (.rs 1029 0 s2.1.length)), (18, .d (iv s2.2)), bxB 2005 (eXCategory.b a0), bxB 2007 (eXQuery.b a1), (2009, .r (.arr 1 [iv 0, nilv, nilv, nilv, nilv, nilv, nilv] [])), bxO 2015 30000 (eXSetFunctor.o v1), (2059, .r (.arr 1 (s2.1.flatMap (eS eI).o) []))] ++ rsS 30000 (eXSetFunctor.o v1))) (([] : List (List Int)), 0) [4, 6, 8, 14, 16, 18, 2005, 2007, 2009, 2015, 2059, 60003, 60005, 60007, 60009, 60011, 60013] (by kernel_rfl) hM ?_
  intro n5 next3 ih4 s2 hM
  refine tr_seq ?_
  refine tr_sr hT hm [] [4, 6, 8, 14, 16, 18, 66, 2005, 2007, 2009, 2015, 2059, 60003, 60005, 60007, 60009, 60011, 60013] ([(4, .d (.rp 1002 0)), (6, .d (.rp 1003 0)), (8, .d (.rp 1004 0)), (14, .d (.rp 1007 0)), (16, .d (.rs 1029 0 s2.1.length)), (18, .d (iv s2.2)), (66, .d (bv (decide (s2.2 < a0.Objects)))), bxB 2005 (eXCategory.b a0), bxB 2007 (eXQuery.b a1), (2009, .r (.arr 1 [iv 0, nilv, nilv, nilv, nilv, nilv, nilv] [])), bxO 2015 30000 (eXSetFunctor.o v1), (2059, .r (.arr 1 (s2.1.flatMap (eS eI).o) []))] ++ rsS 30000 (eXSetFunctor.o v1)) .nil (by kernel_rfl) (by kernel_rfl) ?_
  rcases Bool.eq_false_or_eq_true (decide (s2.2 < a0.Objects)) with h6 | h6
  · have hM := ite_true' hM h6
    refine tr_condTe (e := decide (s2.2 < a0.Objects)) h6 (by kernel_rfl) ?_
    refine tr_skip (q_n ?_)
    refine tr_seq ?_
    refine tr_block ?_
    refine tr_sr hT hm [] [4, 6, 8, 14, 16, 18, 20, 2005, 2007, 2009, 2015, 2059, 2073, 60003, 60005, 60007, 60009, 60011, 60013] ([(4, .d (.rp 1002 0)), (6, .d (.rp 1003 0)), (8, .d (.rp 1004 0)), (14, .d (.rp 1007 0)), (16, .d (.rs 1029 0 s2.1.length)), (18, .d (iv s2.2)), (20, .d (.rs 1036 0 (([] : List (List Int)).length))), bxB 2005 (eXCategory.b a0), bxB 2007 (eXQuery.b a1), (2009, .r (.arr 1 [iv 0, nilv, nilv, nilv, nilv, nilv, nilv] [])), bxO 2015 30000 (eXSetFunctor.o v1), (2059, .r (.arr 1 (s2.1.flatMap (eS eI).o) [])), (2073, .r (.arr 1 (([] : List (List Int)).flatMap (eS eI).o) []))] ++ rsS 30000 (eXSetFunctor.o v1)) .nil (by kernel_rfl) (by kernel_rfl) ?_
    refine tr_seq ?_
    refine tr_sr hT hm [] [4, 6, 8, 14, 16, 18, 20, 22, 2005, 2007, 2009, 2015, 2059, 2073, 60003, 60005, 60007, 60009, 60011, 60013] ([(4, .d (.rp 1002 0)), (6, .d (.rp 1003 0)), (8, .d (.rp 1004 0)), (14, .d (.rp 1007 0)), (16, .d (.rs 1029 0 s2.1.length)), (18, .d (iv s2.2)), (20, .d (.rs 1036 0 (([] : List (List Int)).length))), (22, .d (iv 0)), bxB 2005 (eXCategory.b a0), bxB 2007 (eXQuery.b a1), (2009, .r (.arr 1 [iv 0, nilv, nilv, nilv, nilv, nilv, nilv] [])), bxO 2015 30000 (eXSetFunctor.o v1), (2059, .r (.arr 1 (s2.1.flatMap (eS eI).o) [])), (2073, .r (.arr 1 (([] : List (List Int)).flatMap (eS eI).o) []))] ++ rsS 30000 (eXSetFunctor.o v1)) .nil (by kernel_rfl) (by kernel_rfl) ?_
    refine tr_block ?_
    refine tr_iterS (fun (s7 : (List (List Int)) × Int) => ([(4, .d (.rp 1002 0)), (6, .d (.rp 1003 0)), (8, .d (.rp 1004 0)), (14, .d (.rp 1007 0)), (16, .d (.rs 1029 0 s2.1.length)), (18, .d (iv s2.2)), (20, .d (.rs 1036 0 s7.1.length)), (22, .d (iv s7.2)), bxB 2005 (eXCategory.b a0), bxB 2007 (eXQuery.b a1), (2009, .r (.arr 1 [iv 0, nilv, nilv, nilv, nilv, nilv, nilv] [])), bxO 2015 30000 (eXSetFunctor.o v1), (2059, .r (.arr 1 (s2.1.flatMap (eS eI).o) [])), (2073, .r (.arr 1 (s7.1.flatMap (eS eI).o) []))] ++ rsS 30000 (eXSetFunctor.o v1))) (([] : List (List Int)), 0) [4, 6, 8, 14, 16, 18, 20, 22, 2005, 2007, 2009, 2015, 2059, 2073, 60003, 60005, 60007, 60009, 60011, 60013] (by kernel_rfl) hM ?_
    intro n10 next8 ih9 s7 hM
    refine tr_seq ?_
    refine tr_sr hT hm [] [4, 6, 8, 14, 16, 18, 20, 22, 82, 2005, 2007, 2009, 2015, 2059, 2073, 60003, 60005, 60007, 60009, 60011, 60013] ([(4, .d (.rp 1002 0)), (6, .d (.rp 1003 0)), (8, .d (.rp 1004 0)), (14, .d (.rp 1007 0)), (16, .d (.rs 1029 0 s2.1.length)), (18, .d (iv s2.2)), (20, .d (.rs 1036 0 s7.1.length)), (22, .d (iv s7.2)), (82, .d (bv (decide (s7.2 < (a1.Left.length : Int))))), bxB 2005 (eXCategory.b a0), bxB 2007 (eXQuery.b a1), (2009, .r (.arr 1 [iv 0, nilv, nilv, nilv, nilv, nilv, nilv] [])), bxO 2015 30000 (eXSetFunctor.o v1), (2059, .r (.arr 1 (s2.1.flatMap (eS eI).o) [])), (2073, .r (.arr 1 (s7.1.flatMap (eS eI).o) []))] ++ rsS 30000 (eXSetFunctor.o v1)) .nil (by kernel_rfl) (by kernel_rfl) ?_
    rcases Bool.eq_false_or_eq_true (decide (s7.2 < (a1.Left.length : Int))) with h11 | h11
    · have hM := ite_true' hM h11
      refine tr_condTe (e := decide (s7.2 < (a1.Left.length : Int))) h11 (by kernel_rfl) ?_
      refine tr_skip (q_n ?_)
      refine tr_seq ?_
      refine tr_block ?_
      obtain ⟨y12, hy12, hM⟩ := bind_some' hM
      have hy12' := idx_some hy12
      obtain ⟨y13, hy13, hM⟩ := bind_some' hM
      have hy13' := idx_some hy13
      refine tr_sr hT hm [(7, .val (iv y12.Arrow)), (9, .val (iv y13))] [4, 6, 8, 14, 16, 18, 20, 22, 110, 2005, 2007, 2009, 2015, 2059, 2073, 60003, 60005, 60007, 60009, 60011, 60013] ([(4, .d (.rp 1002 0)), (6, .d (.rp 1003 0)), (8, .d (.rp 1004 0)), (14, .d (.rp 1007 0)), (16, .d (.rs 1029 0 s2.1.length)), (18, .d (iv s2.2)), (20, .d (.rs 1036 0 s7.1.length)), (22, .d (iv s7.2)), (110, .d (bv (y13 == s2.2))), bxB 2005 (eXCategory.b a0), bxB 2007 (eXQuery.b a1), (2009, .r (.arr 1 [iv 0, nilv, nilv, nilv, nilv, nilv, nilv] [])), bxO 2015 30000 (eXSetFunctor.o v1), (2059, .r (.arr 1 (s2.1.flatMap (eS eI).o) [])), (2073, .r (.arr 1 (s7.1.flatMap (eS eI).o) []))] ++ rsS 30000 (eXSetFunctor.o v1)) (.cons hy12'.1 (.cons hy12'.2.1 (.cons (at_bj (j := 1) eXTerm_ok hy12'.2.2 (d := iv y12.Arrow) (by kernel_rfl)) (.cons hy13'.1 (.cons hy13'.2.1 (.cons (at_b0 eI_ok hy13'.2.2 (d := iv y13) (by kernel_rfl)) .nil)))))) (by kernel_rfl) (by kernel_rfl) ?_
      rcases Bool.eq_false_or_eq_true (y13 == s2.2) with h14 | h14
      · have hM := ite_true' hM h14
        refine tr_condTe (e := y13 == s2.2) h14 (by kernel_rfl) ?_
        obtain ⟨v15, hv15, hM⟩ := bind_some' hM
        obtain ⟨y16, hy16, hM⟩ := bind_some' hM
        have hy16' := idx_some hy16
        obtain ⟨v17, hv17, hM⟩ := bind_some' hM
        obtain ⟨h18, hM⟩ := chk_some hM
        refine tr_r hT hm [(7, .val (.agg [iv y12.Variable, iv y12.Arrow])), (8, .call [] [] [.agg (eXCategory.b a0), .agg (eXQuery.b a1), .agg (eXTerm.b y12)] [] (iv v15)), (15, .val (.agg [iv y16.Variable, iv y16.Arrow])), (16, .call [] [] [.agg (eXCategory.b a0), .agg (eXQuery.b a1), .agg (eXTerm.b y16)] [] (iv v17)), (19, .app true)] [4, 6, 8, 14, 16, 18, 20, 22, 2005, 2007, 2009, 2015, 2059, 2147, 2151, 60003, 60005, 60007, 60009, 60011, 60013] ([(4, .d (.rp 1002 0)), (6, .d (.rp 1003 0)), (8, .d (.rp 1004 0)), (14, .d (.rp 1007 0)), (16, .d (.rs 1029 0 s2.1.length)), (18, .d (iv s2.2)), (20, .d (.rs 1075 0 (s7.1.length + 1))), (22, .d (iv s7.2)), bxB 2005 (eXCategory.b a0), bxB 2007 (eXQuery.b a1), (2009, .r (.arr 1 [iv 0, nilv, nilv, nilv, nilv, nilv, nilv] [])), bxO 2015 30000 (eXSetFunctor.o v1), (2059, .r (.arr 1 (s2.1.flatMap (eS eI).o) [])), (2147, .r (.arr 1 (([v15, v17] : List Int).flatMap eI.o) [])), (2151, .r (.arr 1 (s7.1.flatMap (eS eI).o ++ [.rs 1073 0 (([v15, v17] : List Int).length)]) [1073]))] ++ rsS 30000 (eXSetFunctor.o v1)) (.cons hy12'.1 (.cons hy12'.2.1 (.cons (sub_b eXTerm_ok hy12'.2.2) (cc0 ok120 (spec_l38Pair_c a0 a1 y12 _ hv15) (by kernel_rfl) (.cons hy16'.1 (.cons hy16'.2.1 (.cons (sub_b eXTerm_ok hy16'.2.2) (cc0 ok120 (spec_l38Pair_c a0 a1 y16 _ hv17) (by kernel_rfl) (.cons (lenO_flat (eS_ok eI_ok) s7.1) (.cons (by kernel_rfl : ([.rs 1073 0 (([v15, v17] : List Int).length)] : List D).length = 1 * 1) (.cons h18 .nil))))))))))) (by kernel_rfl) (by kernel_rfl) (b_n (q_n ?_))
        refine Tr.by (imp_demE (r := 1075) (q := 1073) (sz := 1) (n := (([v15, v17] : List Int).length)) (j := 0) (pre := s7.1.flatMap (eS eI).o) (l := [.rs 1073 0 (([v15, v17] : List Int).length)]) (refs := [1073]) (refs' := []) (menO_flat (eS_ok eI_ok) _) (lenO_flat eI_ok ([v15, v17] : List Int)) (by kernel_rfl) (by kernel_rfl) (by kernel_rfl) (by kernel_rfl) (by kernel_rfl)) ?_
        refine Tr.by (imp_cvE (r := 1075) (sz := 1) (refs := []) (flat_snoc (eS eI).o s7.1 [v15, v17]) (menO_flat (eS_ok eI_ok) _) (by kernel_rfl)) ?_
        refine Tr.by (imp_cvD (k := 20) (congrArg (D.rs 1075 0) ((len_snoc s7.1 [v15, v17]) : s7.1.length + 1 = (s7.1 ++ [[v15, v17]]).length)) (by kernel_rfl)) ?_
        refine tr_r hT hm [] [4, 6, 8, 14, 16, 18, 20, 22, 2005, 2007, 2009, 2015, 2059, 2151, 60003, 60005, 60007, 60009, 60011, 60013] ([(4, .d (.rp 1002 0)), (6, .d (.rp 1003 0)), (8, .d (.rp 1004 0)), (14, .d (.rp 1007 0)), (16, .d (.rs 1029 0 s2.1.length)), (18, .d (iv s2.2)), (20, .d (.rs 1075 0 ((s7.1 ++ [[v15, v17]]).length))), (22, .d (iv (IntKind.i64.wrap (s7.2 + 1)))), bxB 2005 (eXCategory.b a0), bxB 2007 (eXQuery.b a1), (2009, .r (.arr 1 [iv 0, nilv, nilv, nilv, nilv, nilv, nilv] [])), bxO 2015 30000 (eXSetFunctor.o v1), (2059, .r (.arr 1 (s2.1.flatMap (eS eI).o) [])), (2151, .r (.arr 1 ((s7.1 ++ [[v15, v17]]).flatMap (eS eI).o) []))] ++ rsS 30000 (eXSetFunctor.o v1)) .nil (by kernel_rfl) (by kernel_rfl) (l_n ?_)
        refine TrL.by (imp_sel (ks := [4, 6, 8, 14, 16, 18, 20, 22, 2005, 2007, 2009, 2015, 2059, 2151, 60003, 60005, 60007, 60009, 60011, 60013]) (st' := ([(4, .d (.rp 1002 0)), (6, .d (.rp 1003 0)), (8, .d (.rp 1004 0)), (14, .d (.rp 1007 0)), (16, .d (.rs 1029 0 s2.1.length)), (18, .d (iv s2.2)), (20, .d (.rs 1075 0 ((s7.1 ++ [[v15, v17]]).length))), (22, .d (iv (IntKind.i64.wrap (s7.2 + 1)))), bxB 2005 (eXCategory.b a0), bxB 2007 (eXQuery.b a1), (2009, .r (.arr 1 [iv 0, nilv, nilv, nilv, nilv, nilv, nilv] [])), bxO 2015 30000 (eXSetFunctor.o v1), (2059, .r (.arr 1 (s2.1.flatMap (eS eI).o) [])), (2151, .r (.arr 1 ((s7.1 ++ [[v15, v17]]).flatMap (eS eI).o) []))] ++ rsS 30000 (eXSetFunctor.o v1))) (by kernel_rfl)) ?_
        refine TrL.by (imp_rename (r := 1075) (q := 1036) (by kernel_rfl) (Nat.le_of_ble_eq_true rfl)) ?_
        exact trl_start (ks := [4, 6, 8, 14, 16, 18, 20, 22, 2005, 2007, 2009, 2015, 2059, 2073, 60003, 60005, 60007, 60009, 60011, 60013]) (by kernel_rfl) (ih9 (s7.1 ++ [[v15, v17]], IntKind.i64.wrap (s7.2 + 1)) hM)
      · have hM := ite_false' hM h14
        refine tr_condFe (e := y13 == s2.2) h14 (by kernel_rfl) ?_
        refine tr_skip (b_n (q_n ?_))
        refine tr_r hT hm [] [4, 6, 8, 14, 16, 18, 20, 22, 2005, 2007, 2009, 2015, 2059, 2073, 60003, 60005, 60007, 60009, 60011, 60013] ([(4, .d (.rp 1002 0)), (6, .d (.rp 1003 0)), (8, .d (.rp 1004 0)), (14, .d (.rp 1007 0)), (16, .d (.rs 1029 0 s2.1.length)), (18, .d (iv s2.2)), (20, .d (.rs 1036 0 s7.1.length)), (22, .d (iv (IntKind.i64.wrap (s7.2 + 1)))), bxB 2005 (eXCategory.b a0), bxB 2007 (eXQuery.b a1), (2009, .r (.arr 1 [iv 0, nilv, nilv, nilv, nilv, nilv, nilv] [])), bxO 2015 30000 (eXSetFunctor.o v1), (2059, .r (.arr 1 (s2.1.flatMap (eS eI).o) [])), (2073, .r (.arr 1 (s7.1.flatMap (eS eI).o) []))] ++ rsS 30000 (eXSetFunctor.o v1)) .nil (by kernel_rfl) (by kernel_rfl) (l_n ?_)
        exact trl_start (ks := [4, 6, 8, 14, 16, 18, 20, 22, 2005, 2007, 2009, 2015, 2059, 2073, 60003, 60005, 60007, 60009, 60011, 60013]) (by kernel_rfl) (ih9 (s7.1, IntKind.i64.wrap (s7.2 + 1)) hM)
    · have hM := ite_false' hM h11
      refine tr_condFe (e := decide (s7.2 < (a1.Left.length : Int))) h11 (by kernel_rfl) ?_
      refine tr_exit (q_x (l_x (b_h (q_n ?_))))
      obtain ⟨y19, hy19, hM⟩ := bind_some' hM
      have hy19' := idx_some hy19
      obtain ⟨v20, hv20, hM⟩ := bind_some' hM
      obtain ⟨h21, hM⟩ := chk_some hM
      refine tr_r hT hm [(5, .val (iv y19)), (7, .call [1036] [] [iv y19, .sl s7.1.length 0 (s7.1.flatMap (eS eI).b)] [] (.fr 1 v20.length (v20.flatMap eI.o))), (9, .app true)] [4, 6, 8, 14, 16, 18, 2005, 2007, 2009, 2015, 2171, 60003, 60005, 60007, 60009, 60011, 60013, 170001] ([(4, .d (.rp 1002 0)), (6, .d (.rp 1003 0)), (8, .d (.rp 1004 0)), (14, .d (.rp 1007 0)), (16, .d (.rs 1085 0 (s2.1.length + 1))), (18, .d (iv s2.2)), bxB 2005 (eXCategory.b a0), bxB 2007 (eXQuery.b a1), (2009, .r (.arr 1 [iv 0, nilv, nilv, nilv, nilv, nilv, nilv] [])), bxO 2015 30000 (eXSetFunctor.o v1), (2171, .r (.arr 1 (s2.1.flatMap (eS eI).o ++ [.rs 85000 0 v20.length]) [85000]))] ++ rsS 30000 (eXSetFunctor.o v1) ++ [(170001, .r (.arr 1 (v20.flatMap eI.o) []))]) (.cons hy19'.1 (.cons hy19'.2.1 (.cons (at_o0 eI_ok hy19'.2.2 (d := iv y19) (by kernel_rfl)) (cc (B := [1036]) (ρ := []) (rB := [(1036, .arr 1 (s7.1.flatMap (eS eI).o) [])]) ok121 (spec_l01Join_c y19 s7.1 _ hv20) (.cons (.same rfl) (.cons (.of1 (.rs (r := 1036) (sz := 1) (refs := []) (memB (by kernel_rfl)) (by kernel_rfl) (bor_flat (eS_ok eI_ok) _ _ _))) .nil)) (.inr ⟨(.fr (nb_flat eI_nb _)), trivial⟩) (.cons (lenO_flat (eS_ok eI_ok) s2.1) (.cons (by kernel_rfl : ([.rs 85000 0 v20.length] : List D).length = 1 * 1) (.cons h21 .nil))))))) (by kernel_rfl) (by kernel_rfl) (b_n (q_n ?_))
      refine Tr.by (imp_demE (r := 1085) (q := 85000) (sz := 1) (n := v20.length) (j := 0) (pre := s2.1.flatMap (eS eI).o) (l := [.rs 85000 0 v20.length]) (refs := [85000]) (refs' := []) (menO_flat (eS_ok eI_ok) _) (lenO_flat eI_ok v20) (by kernel_rfl) (by kernel_rfl) (by kernel_rfl) (by kernel_rfl) (by kernel_rfl)) ?_
      refine Tr.by (imp_cvE (r := 1085) (sz := 1) (refs := []) (flat_snoc (eS eI).o s2.1 v20) (menO_flat (eS_ok eI_ok) _) (by kernel_rfl)) ?_
      refine Tr.by (imp_cvD (k := 16) (congrArg (D.rs 1085 0) ((len_snoc s2.1 v20) : s2.1.length + 1 = (s2.1 ++ [v20]).length)) (by kernel_rfl)) ?_
      refine tr_r hT hm [] [4, 6, 8, 14, 16, 18, 2005, 2007, 2009, 2015, 2171, 60003, 60005, 60007, 60009, 60011, 60013] ([(4, .d (.rp 1002 0)), (6, .d (.rp 1003 0)), (8, .d (.rp 1004 0)), (14, .d (.rp 1007 0)), (16, .d (.rs 1085 0 ((s2.1 ++ [v20]).length))), (18, .d (iv (IntKind.i64.wrap (s2.2 + 1)))), bxB 2005 (eXCategory.b a0), bxB 2007 (eXQuery.b a1), (2009, .r (.arr 1 [iv 0, nilv, nilv, nilv, nilv, nilv, nilv] [])), bxO 2015 30000 (eXSetFunctor.o v1), (2171, .r (.arr 1 ((s2.1 ++ [v20]).flatMap (eS eI).o) []))] ++ rsS 30000 (eXSetFunctor.o v1)) .nil (by kernel_rfl) (by kernel_rfl) (l_n ?_)
      refine TrL.by (imp_sel (ks := [4, 6, 8, 14, 16, 18, 2005, 2007, 2009, 2015, 2171, 60003, 60005, 60007, 60009, 60011, 60013]) (st' := ([(4, .d (.rp 1002 0)), (6, .d (.rp 1003 0)), (8, .d (.rp 1004 0)), (14, .d (.rp 1007 0)), (16, .d (.rs 1085 0 ((s2.1 ++ [v20]).length))), (18, .d (iv (IntKind.i64.wrap (s2.2 + 1)))), bxB 2005 (eXCategory.b a0), bxB 2007 (eXQuery.b a1), (2009, .r (.arr 1 [iv 0, nilv, nilv, nilv, nilv, nilv, nilv] [])), bxO 2015 30000 (eXSetFunctor.o v1), (2171, .r (.arr 1 ((s2.1 ++ [v20]).flatMap (eS eI).o) []))] ++ rsS 30000 (eXSetFunctor.o v1))) (by kernel_rfl)) ?_
      refine TrL.by (imp_rename (r := 1085) (q := 1029) (by kernel_rfl) (Nat.le_of_ble_eq_true rfl)) ?_
      exact trl_start (ks := [4, 6, 8, 14, 16, 18, 2005, 2007, 2009, 2015, 2059, 60003, 60005, 60007, 60009, 60011, 60013]) (by kernel_rfl) (ih4 (s2.1 ++ [v20], IntKind.i64.wrap (s2.2 + 1)) hM)
  · have hM := ite_false' hM h6
    refine tr_condFe (e := decide (s2.2 < a0.Objects)) h6 (by kernel_rfl) ?_
    refine tr_exit (q_x (l_x (b_h (q_n ?_))))
    refine tr_seq ?_
    refine tr_sr hT hm [] [4, 6, 8, 14, 16, 24, 2005, 2007, 2009, 2015, 2059, 60003, 60005, 60007, 60009, 60011, 60013] ([(4, .d (.rp 1002 0)), (6, .d (.rp 1003 0)), (8, .d (.rp 1004 0)), (14, .d (.rp 1007 0)), (16, .d (.rs 1029 0 s2.1.length)), (24, .d (bv true)), bxB 2005 (eXCategory.b a0), bxB 2007 (eXQuery.b a1), (2009, .r (.arr 1 [iv 0, nilv, nilv, nilv, nilv, nilv, nilv] [])), bxO 2015 30000 (eXSetFunctor.o v1), (2059, .r (.arr 1 (s2.1.flatMap (eS eI).o) []))] ++ rsS 30000 (eXSetFunctor.o v1)) .nil (by kernel_rfl) (by kernel_rfl) ?_
    refine tr_block ?_
    refine tr_iterS (fun (s22 : (List (List Int)) × Bool) => ([(4, .d (.rp 1002 0)), (6, .d (.rp 1003 0)), (8, .d (.rp 1004 0)), (14, .d (.rp 1007 0)), (16, .d (.rs 1029 0 s22.1.length)), (24, .d (bv s22.2)), bxB 2005 (eXCategory.b a0), bxB 2007 (eXQuery.b a1), (2009, .r (.arr 1 [iv 0, nilv, nilv, nilv, nilv, nilv, nilv] [])), bxO 2015 30000 (eXSetFunctor.o v1), (2059, .r (.arr 1 (s22.1.flatMap (eS eI).o) []))] ++ rsS 30000 (eXSetFunctor.o v1))) (s2.1, true) [4, 6, 8, 14, 16, 24, 2005, 2007, 2009, 2015, 2059, 60003, 60005, 60007, 60009, 60011, 60013] (by kernel_rfl) hM ?_
    intro n25 next23 ih24 s22 hM
    refine tr_seq ?_
    refine tr_sr hT hm [] [4, 6, 8, 14, 16, 172, 2005, 2007, 2009, 2015, 2059, 60003, 60005, 60007, 60009, 60011, 60013] ([(4, .d (.rp 1002 0)), (6, .d (.rp 1003 0)), (8, .d (.rp 1004 0)), (14, .d (.rp 1007 0)), (16, .d (.rs 1029 0 s22.1.length)), (172, .d (bv s22.2)), bxB 2005 (eXCategory.b a0), bxB 2007 (eXQuery.b a1), (2009, .r (.arr 1 [iv 0, nilv, nilv, nilv, nilv, nilv, nilv] [])), bxO 2015 30000 (eXSetFunctor.o v1), (2059, .r (.arr 1 (s22.1.flatMap (eS eI).o) []))] ++ rsS 30000 (eXSetFunctor.o v1)) .nil (by kernel_rfl) (by kernel_rfl) ?_
    rcases Bool.eq_false_or_eq_true s22.2 with h26 | h26
    · have hM := ite_true' hM h26
      refine tr_condTe (e := s22.2) h26 (by kernel_rfl) ?_
      refine tr_skip (q_n ?_)
      refine tr_block ?_
      refine tr_sr hT hm [] [4, 6, 8, 14, 16, 24, 2005, 2007, 2009, 2015, 2059, 60003, 60005, 60007, 60009, 60011, 60013] ([(4, .d (.rp 1002 0)), (6, .d (.rp 1003 0)), (8, .d (.rp 1004 0)), (14, .d (.rp 1007 0)), (16, .d (.rs 1029 0 s22.1.length)), (24, .d (bv false)), bxB 2005 (eXCategory.b a0), bxB 2007 (eXQuery.b a1), (2009, .r (.arr 1 [iv 0, nilv, nilv, nilv, nilv, nilv, nilv] [])), bxO 2015 30000 (eXSetFunctor.o v1), (2059, .r (.arr 1 (s22.1.flatMap (eS eI).o) []))] ++ rsS 30000 (eXSetFunctor.o v1)) .nil (by kernel_rfl) (by kernel_rfl) ?_
      refine tr_sr hT hm [] [4, 6, 8, 14, 16, 24, 26, 2005, 2007, 2009, 2015, 2059, 60003, 60005, 60007, 60009, 60011, 60013] ([(4, .d (.rp 1002 0)), (6, .d (.rp 1003 0)), (8, .d (.rp 1004 0)), (14, .d (.rp 1007 0)), (16, .d (.rs 1029 0 s22.1.length)), (24, .d (bv false)), (26, .d (iv 0)), bxB 2005 (eXCategory.b a0), bxB 2007 (eXQuery.b a1), (2009, .r (.arr 1 [iv 0, nilv, nilv, nilv, nilv, nilv, nilv] [])), bxO 2015 30000 (eXSetFunctor.o v1), (2059, .r (.arr 1 (s22.1.flatMap (eS eI).o) []))] ++ rsS 30000 (eXSetFunctor.o v1)) .nil (by kernel_rfl) (by kernel_rfl) ?_
      refine tr_block ?_
      refine tr_iterS (fun (s27 : (List (List Int)) × Bool × Int) => ([(4, .d (.rp 1002 0)), (6, .d (.rp 1003 0)), (8, .d (.rp 1004 0)), (14, .d (.rp 1007 0)), (16, .d (.rs 1029 0 s27.1.length)), (24, .d (bv s27.2.1)), (26, .d (iv s27.2.2)), bxB 2005 (eXCategory.b a0), bxB 2007 (eXQuery.b a1), (2009, .r (.arr 1 [iv 0, nilv, nilv, nilv, nilv, nilv, nilv] [])), bxO 2015 30000 (eXSetFunctor.o v1), (2059, .r (.arr 1 (s27.1.flatMap (eS eI).o) []))] ++ rsS 30000 (eXSetFunctor.o v1))) (s22.1, false, 0) [4, 6, 8, 14, 16, 24, 26, 2005, 2007, 2009, 2015, 2059, 60003, 60005, 60007, 60009, 60011, 60013] (by kernel_rfl) hM ?_
      intro n30 next28 ih29 s27 hM
      refine tr_seq ?_
      refine tr_sr hT hm [] [4, 6, 8, 14, 16, 24, 26, 182, 2005, 2007, 2009, 2015, 2059, 60003, 60005, 60007, 60009, 60011, 60013] ([(4, .d (.rp 1002 0)), (6, .d (.rp 1003 0)), (8, .d (.rp 1004 0)), (14, .d (.rp 1007 0)), (16, .d (.rs 1029 0 s27.1.length)), (24, .d (bv s27.2.1)), (26, .d (iv s27.2.2)), (182, .d (bv (decide (s27.2.2 < (v1.Actions.length : Int))))), bxB 2005 (eXCategory.b a0), bxB 2007 (eXQuery.b a1), (2009, .r (.arr 1 [iv 0, nilv, nilv, nilv, nilv, nilv, nilv] [])), bxO 2015 30000 (eXSetFunctor.o v1), (2059, .r (.arr 1 (s27.1.flatMap (eS eI).o) []))] ++ rsS 30000 (eXSetFunctor.o v1)) .nil (by kernel_rfl) (by kernel_rfl) ?_
      rcases Bool.eq_false_or_eq_true (decide (s27.2.2 < (v1.Actions.length : Int))) with h31 | h31
      · have hM := ite_true' hM h31
        refine tr_condTe (e := decide (s27.2.2 < (v1.Actions.length : Int))) h31 (by kernel_rfl) ?_
        refine tr_skip (q_n ?_)
        refine tr_seq ?_
        refine tr_block ?_
        obtain ⟨y32, hy32, hM⟩ := bind_some' hM
        have hy32' := idx_some hy32
        obtain ⟨y33, hy33, hM⟩ := bind_some' hM
        have hy33' := idx_some hy33
        refine tr_sr hT hm [(4, .val (iv y32)), (9, .val (iv y33))] [4, 6, 8, 14, 16, 24, 26, 28, 30, 2005, 2007, 2009, 2015, 2059, 60003, 60005, 60007, 60009, 60011, 60013] ([(4, .d (.rp 1002 0)), (6, .d (.rp 1003 0)), (8, .d (.rp 1004 0)), (14, .d (.rp 1007 0)), (16, .d (.rs 1029 0 s27.1.length)), (24, .d (bv s27.2.1)), (26, .d (iv s27.2.2)), (28, .d (iv y32)), (30, .d (iv y33)), bxB 2005 (eXCategory.b a0), bxB 2007 (eXQuery.b a1), (2009, .r (.arr 1 [iv 0, nilv, nilv, nilv, nilv, nilv, nilv] [])), bxO 2015 30000 (eXSetFunctor.o v1), (2059, .r (.arr 1 (s27.1.flatMap (eS eI).o) []))] ++ rsS 30000 (eXSetFunctor.o v1)) (.cons hy32'.1 (.cons hy32'.2.1 (.cons (at_b0 eI_ok hy32'.2.2 (d := iv y32) (by kernel_rfl)) (.cons hy33'.1 (.cons hy33'.2.1 (.cons (at_b0 eI_ok hy33'.2.2 (d := iv y33) (by kernel_rfl)) .nil)))))) (by kernel_rfl) (by kernel_rfl) ?_
        refine tr_sr hT hm [] [4, 6, 8, 14, 16, 24, 26, 28, 30, 32, 2005, 2007, 2009, 2015, 2059, 2209, 60003, 60005, 60007, 60009, 60011, 60013] ([(4, .d (.rp 1002 0)), (6, .d (.rp 1003 0)), (8, .d (.rp 1004 0)), (14, .d (.rp 1007 0)), (16, .d (.rs 1029 0 s27.1.length)), (24, .d (bv s27.2.1)), (26, .d (iv s27.2.2)), (28, .d (iv y32)), (30, .d (iv y33)), (32, .d (.rs 1104 0 (([] : List (List Int)).length))), bxB 2005 (eXCategory.b a0), bxB 2007 (eXQuery.b a1), (2009, .r (.arr 1 [iv 0, nilv, nilv, nilv, nilv, nilv, nilv] [])), bxO 2015 30000 (eXSetFunctor.o v1), (2059, .r (.arr 1 (s27.1.flatMap (eS eI).o) [])), (2209, .r (.arr 1 (([] : List (List Int)).flatMap (eS eI).o) []))] ++ rsS 30000 (eXSetFunctor.o v1)) .nil (by kernel_rfl) (by kernel_rfl) ?_
        refine tr_seq ?_
        refine tr_sr hT hm [] [4, 6, 8, 14, 16, 24, 26, 28, 30, 32, 34, 2005, 2007, 2009, 2015, 2059, 2209, 60003, 60005, 60007, 60009, 60011, 60013] ([(4, .d (.rp 1002 0)), (6, .d (.rp 1003 0)), (8, .d (.rp 1004 0)), (14, .d (.rp 1007 0)), (16, .d (.rs 1029 0 s27.1.length)), (24, .d (bv s27.2.1)), (26, .d (iv s27.2.2)), (28, .d (iv y32)), (30, .d (iv y33)), (32, .d (.rs 1104 0 (([] : List (List Int)).length))), (34, .d (iv 0)), bxB 2005 (eXCategory.b a0), bxB 2007 (eXQuery.b a1), (2009, .r (.arr 1 [iv 0, nilv, nilv, nilv, nilv, nilv, nilv] [])), bxO 2015 30000 (eXSetFunctor.o v1), (2059, .r (.arr 1 (s27.1.flatMap (eS eI).o) [])), (2209, .r (.arr 1 (([] : List (List Int)).flatMap (eS eI).o) []))] ++ rsS 30000 (eXSetFunctor.o v1)) .nil (by kernel_rfl) (by kernel_rfl) ?_
        refine tr_block ?_
        refine tr_iterS (fun (s34 : (List (List Int)) × Int) => ([(4, .d (.rp 1002 0)), (6, .d (.rp 1003 0)), (8, .d (.rp 1004 0)), (14, .d (.rp 1007 0)), (16, .d (.rs 1029 0 s27.1.length)), (24, .d (bv s27.2.1)), (26, .d (iv s27.2.2)), (28, .d (iv y32)), (30, .d (iv y33)), (32, .d (.rs 1104 0 s34.1.length)), (34, .d (iv s34.2)), bxB 2005 (eXCategory.b a0), bxB 2007 (eXQuery.b a1), (2009, .r (.arr 1 [iv 0, nilv, nilv, nilv, nilv, nilv, nilv] [])), bxO 2015 30000 (eXSetFunctor.o v1), (2059, .r (.arr 1 (s27.1.flatMap (eS eI).o) [])), (2209, .r (.arr 1 (s34.1.flatMap (eS eI).o) []))] ++ rsS 30000 (eXSetFunctor.o v1))) (([] : List (List Int)), 0) [4, 6, 8, 14, 16, 24, 26, 28, 30, 32, 34, 2005, 2007, 2009, 2015, 2059, 2209, 60003, 60005, 60007, 60009, 60011, 60013] (by kernel_rfl) hM ?_
        intro n37 next35 ih36 s34 hM
        refine tr_seq ?_
        obtain ⟨y38, hy38, hM⟩ := bind_some' hM
        have hy38' := idx_some hy38
        refine Tr.by (imp_rowOut (r := 1029) (q := 703527) (i := y32) (xs := s27.1) (e := eI) (eS_ok eI_ok) hy38'.2.2 (by kernel_rfl) (by kernel_rfl)) ?_
        refine tr_sr hT hm [(4, .val (.rs 703527 0 y38.length))] [4, 6, 8, 14, 16, 24, 26, 28, 30, 32, 34, 222, 2005, 2007, 2009, 2015, 2059, 2209, 60003, 60005, 60007, 60009, 60011, 60013, 1407055] ([(4, .d (.rp 1002 0)), (6, .d (.rp 1003 0)), (8, .d (.rp 1004 0)), (14, .d (.rp 1007 0)), (16, .d (.rs 1029 0 s27.1.length)), (24, .d (bv s27.2.1)), (26, .d (iv s27.2.2)), (28, .d (iv y32)), (30, .d (iv y33)), (32, .d (.rs 1104 0 s34.1.length)), (34, .d (iv s34.2)), (222, .d (bv (decide (s34.2 < (y38.length : Int))))), bxB 2005 (eXCategory.b a0), bxB 2007 (eXQuery.b a1), (2009, .r (.arr 1 [iv 0, nilv, nilv, nilv, nilv, nilv, nilv] [])), bxO 2015 30000 (eXSetFunctor.o v1), (2059, .r (.arr 1 ((s27.1.flatMap (eS eI).o).set (0 + y32.toNat * 1) (.rs 703527 0 y38.length)) [703527])), (2209, .r (.arr 1 (s34.1.flatMap (eS eI).o) []))] ++ rsS 30000 (eXSetFunctor.o v1) ++ [(1407055, .r (.arr 1 (y38.flatMap eI.o) []))]) (.cons hy38'.1 (.cons hy38'.2.1 (.cons (set_at (d := .rs 703527 0 y38.length) (lt_flat (eS_ok eI_ok) (by kernel_rfl) hy38'.2.2)) .nil))) (by kernel_rfl) (by kernel_rfl) ?_
        refine Tr.by (imp_rowSame (r := 1029) (q := 703527) (n := y38.length) (i := y32) (xs := s27.1) (e := eI) (x := y38) eI_ok hy38'.2.2 rfl (by kernel_rfl) (by kernel_rfl) (by kernel_rfl)) ?_
        rcases Bool.eq_false_or_eq_true (decide (s34.2 < (y38.length : Int))) with h39 | h39
        · have hM := ite_true' hM h39
          refine tr_condTe (e := decide (s34.2 < (y38.length : Int))) h39 (by kernel_rfl) ?_
          refine tr_skip (q_n ?_)
          refine tr_seq ?_
          refine tr_block ?_
          refine Tr.by (imp_rowOut (r := 1029) (q := 703531) (i := y32) (xs := s27.1) (e := eI) (eS_ok eI_ok) hy38'.2.2 (by kernel_rfl) (by kernel_rfl)) ?_
          obtain ⟨y40, hy40, hM⟩ := bind_some' hM
          have hy40' := idx_some hy40
          obtain ⟨v41, hv41, hM⟩ := bind_some' hM
          refine tr_sr hT hm [(3, .val (.rs 703531 0 y38.length)), (7, .val (.rs 703531 0 y38.length)), (10, .val (iv y40)), (11, .call [703531] [] [.sl y38.length 0 (y38.flatMap eI.b), iv y40] [] (iv v41))] [4, 6, 8, 14, 16, 24, 26, 28, 30, 32, 34, 36, 2005, 2007, 2009, 2015, 2059, 2209, 60003, 60005, 60007, 60009, 60011, 60013, 1407063] ([(4, .d (.rp 1002 0)), (6, .d (.rp 1003 0)), (8, .d (.rp 1004 0)), (14, .d (.rp 1007 0)), (16, .d (.rs 1029 0 s27.1.length)), (24, .d (bv s27.2.1)), (26, .d (iv s27.2.2)), (28, .d (iv y32)), (30, .d (iv y33)), (32, .d (.rs 1104 0 s34.1.length)), (34, .d (iv s34.2)), (36, .d (iv v41)), bxB 2005 (eXCategory.b a0), bxB 2007 (eXQuery.b a1), (2009, .r (.arr 1 [iv 0, nilv, nilv, nilv, nilv, nilv, nilv] [])), bxO 2015 30000 (eXSetFunctor.o v1), (2059, .r (.arr 1 ((s27.1.flatMap (eS eI).o).set (0 + y32.toNat * 1) (.rs 703531 0 y38.length)) [703531])), (2209, .r (.arr 1 (s34.1.flatMap (eS eI).o) []))] ++ rsS 30000 (eXSetFunctor.o v1) ++ [(1407063, .r (.arr 1 (y38.flatMap eI.o) []))]) (.cons hy38'.1 (.cons hy38'.2.1 (.cons (set_at (d := .rs 703531 0 y38.length) (lt_flat (eS_ok eI_ok) (by kernel_rfl) hy38'.2.2)) (.cons hy38'.1 (.cons hy38'.2.1 (.cons (set_at (d := .rs 703531 0 y38.length) (lt_flat (eS_ok eI_ok) (by kernel_rfl) hy38'.2.2)) (.cons hy40'.1 (.cons hy40'.2.1 (.cons (at_o0 eI_ok hy40'.2.2 (d := iv y40) (by kernel_rfl)) (cc (B := [703531]) (ρ := []) (rB := [(703531, .arr 1 (y38.flatMap eI.o) [])]) ok122 (spec_l01Index_c y38 y40 _ hv41) (.cons (.of1 (.rs (r := 703531) (sz := 1) (refs := []) (memB (by kernel_rfl)) (by kernel_rfl) (bor_flat eI_ok _ _ _))) (.cons (.same rfl) .nil)) (.inr ⟨.v, trivial⟩) .nil)))))))))) (by kernel_rfl) (by kernel_rfl) ?_
          refine Tr.by (imp_rowSame (r := 1029) (q := 703531) (n := y38.length) (i := y32) (xs := s27.1) (e := eI) (x := y38) eI_ok hy38'.2.2 rfl (by kernel_rfl) (by kernel_rfl) (by kernel_rfl)) ?_
          obtain ⟨y42, hy42, hM⟩ := bind_some' hM
          have hy42' := idx_some hy42
          refine Tr.by (imp_rowOut (r := 30006) (q := 703532) (i := s27.2.2) (xs := v1.Actions) (e := eI) (eS_ok eI_ok) hy42'.2.2 (by kernel_rfl) (by kernel_rfl)) ?_
          obtain ⟨y43, hy43, hM⟩ := bind_some' hM
          have hy43' := idx_some hy43
          obtain ⟨y44, hy44, hM⟩ := bind_some' hM
          have hy44' := idx_some hy44
          refine tr_sr hT hm [(4, .val (.rs 703532 0 y42.length)), (7, .val (iv y43)), (12, .val (.rs 703532 0 y42.length)), (15, .val (iv y44))] [4, 6, 8, 14, 16, 24, 26, 28, 30, 32, 34, 38, 40, 2005, 2007, 2009, 2015, 2059, 2209, 60003, 60005, 60007, 60009, 60011, 60013, 1407065] ([(4, .d (.rp 1002 0)), (6, .d (.rp 1003 0)), (8, .d (.rp 1004 0)), (14, .d (.rp 1007 0)), (16, .d (.rs 1029 0 s27.1.length)), (24, .d (bv s27.2.1)), (26, .d (iv s27.2.2)), (28, .d (iv y32)), (30, .d (iv y33)), (32, .d (.rs 1104 0 s34.1.length)), (34, .d (iv s34.2)), (38, .d (iv y43)), (40, .d (iv y44)), bxB 2005 (eXCategory.b a0), bxB 2007 (eXQuery.b a1), (2009, .r (.arr 1 [iv 0, nilv, nilv, nilv, nilv, nilv, nilv] [])), bxO 2015 30000 (eXSetFunctor.o v1), (2059, .r (.arr 1 (s27.1.flatMap (eS eI).o) [])), (2209, .r (.arr 1 (s34.1.flatMap (eS eI).o) []))] ++ rsS 30000 (eXCategory.o v1.Shape) ++ [(60011, .r (.arr 1 (v1.Sizes.flatMap eI.o) [])), (60013, .r (.arr 1 ((v1.Actions.flatMap (eS eI).o).set (0 + s27.2.2.toNat * 1) (.rs 703532 0 y42.length)) [703532])), (1407065, .r (.arr 1 (y42.flatMap eI.o) []))]) (.cons hy42'.1 (.cons hy42'.2.1 (.cons (set_at (d := .rs 703532 0 y42.length) (lt_flat (eS_ok eI_ok) (by kernel_rfl) hy42'.2.2)) (.cons hy43'.1 (.cons hy43'.2.1 (.cons (at_o0 eI_ok hy43'.2.2 (d := iv y43) (by kernel_rfl)) (.cons hy42'.1 (.cons hy42'.2.1 (.cons (set_at (d := .rs 703532 0 y42.length) (lt_flat (eS_ok eI_ok) (by kernel_rfl) hy42'.2.2)) (.cons hy44'.1 (.cons hy44'.2.1 (.cons (at_o0 eI_ok hy44'.2.2 (d := iv y44) (by kernel_rfl)) .nil)))))))))))) (by kernel_rfl) (by kernel_rfl) ?_
          refine Tr.by (imp_rowSame (r := 30006) (q := 703532) (n := y42.length) (i := s27.2.2) (xs := v1.Actions) (e := eI) (x := y42) eI_ok hy42'.2.2 rfl (by kernel_rfl) (by kernel_rfl) (by kernel_rfl)) ?_
          obtain ⟨y45, hy45, hM⟩ := bind_some' hM
          have hy45' := idx_some hy45
          refine Tr.by (imp_rowOut (r := 1029) (q := 703533) (i := y33) (xs := s27.1) (e := eI) (eS_ok eI_ok) hy45'.2.2 (by kernel_rfl) (by kernel_rfl)) ?_
          obtain ⟨y46, hy46, hM⟩ := bind_some' hM
          have hy46' := idx_some hy46
          obtain ⟨y47, hy47, hM⟩ := bind_some' hM
          have hy47' := idx_some hy47
          refine tr_sr hT hm [(3, .val (.rs 703533 0 y45.length)), (6, .val (iv y46)), (10, .val (.rs 703533 0 y45.length)), (13, .val (iv y47))] [4, 6, 8, 14, 16, 24, 26, 28, 30, 32, 34, 38, 40, 312, 2005, 2007, 2009, 2015, 2059, 2209, 60003, 60005, 60007, 60009, 60011, 60013, 1407067] ([(4, .d (.rp 1002 0)), (6, .d (.rp 1003 0)), (8, .d (.rp 1004 0)), (14, .d (.rp 1007 0)), (16, .d (.rs 1029 0 s27.1.length)), (24, .d (bv s27.2.1)), (26, .d (iv s27.2.2)), (28, .d (iv y32)), (30, .d (iv y33)), (32, .d (.rs 1104 0 s34.1.length)), (34, .d (iv s34.2)), (38, .d (iv y43)), (40, .d (iv y44)), (312, .d (bv (y46 != y47))), bxB 2005 (eXCategory.b a0), bxB 2007 (eXQuery.b a1), (2009, .r (.arr 1 [iv 0, nilv, nilv, nilv, nilv, nilv, nilv] [])), bxO 2015 30000 (eXSetFunctor.o v1), (2059, .r (.arr 1 ((s27.1.flatMap (eS eI).o).set (0 + y33.toNat * 1) (.rs 703533 0 y45.length)) [703533])), (2209, .r (.arr 1 (s34.1.flatMap (eS eI).o) []))] ++ rsS 30000 (eXSetFunctor.o v1) ++ [(1407067, .r (.arr 1 (y45.flatMap eI.o) []))]) (.cons hy45'.1 (.cons hy45'.2.1 (.cons (set_at (d := .rs 703533 0 y45.length) (lt_flat (eS_ok eI_ok) (by kernel_rfl) hy45'.2.2)) (.cons hy46'.1 (.cons hy46'.2.1 (.cons (at_o0 eI_ok hy46'.2.2 (d := iv y46) (by kernel_rfl)) (.cons hy45'.1 (.cons hy45'.2.1 (.cons (set_at (d := .rs 703533 0 y45.length) (lt_flat (eS_ok eI_ok) (by kernel_rfl) hy45'.2.2)) (.cons hy47'.1 (.cons hy47'.2.1 (.cons (at_o0 eI_ok hy47'.2.2 (d := iv y47) (by kernel_rfl)) .nil)))))))))))) (by kernel_rfl) (by kernel_rfl) ?_
          refine Tr.by (imp_rowSame (r := 1029) (q := 703533) (n := y45.length) (i := y33) (xs := s27.1) (e := eI) (x := y45) eI_ok hy45'.2.2 rfl (by kernel_rfl) (by kernel_rfl) (by kernel_rfl)) ?_
          rcases Bool.eq_false_or_eq_true (y46 != y47) with h48 | h48
          · have hM := ite_true' hM h48
            refine tr_condTe (e := y46 != y47) h48 (by kernel_rfl) ?_
            obtain ⟨h49, hM⟩ := chk_some hM
            refine tr_r hT hm [(5, .app true)] [4, 6, 8, 14, 16, 24, 26, 28, 30, 32, 34, 2005, 2007, 2009, 2015, 2059, 2321, 2325, 60003, 60005, 60007, 60009, 60011, 60013] ([(4, .d (.rp 1002 0)), (6, .d (.rp 1003 0)), (8, .d (.rp 1004 0)), (14, .d (.rp 1007 0)), (16, .d (.rs 1029 0 s27.1.length)), (24, .d (bv s27.2.1)), (26, .d (iv s27.2.2)), (28, .d (iv y32)), (30, .d (iv y33)), (32, .d (.rs 1162 0 (s34.1.length + 1))), (34, .d (iv s34.2)), bxB 2005 (eXCategory.b a0), bxB 2007 (eXQuery.b a1), (2009, .r (.arr 1 [iv 0, nilv, nilv, nilv, nilv, nilv, nilv] [])), bxO 2015 30000 (eXSetFunctor.o v1), (2059, .r (.arr 1 (s27.1.flatMap (eS eI).o) [])), (2321, .r (.arr 1 (([y43, y44] : List Int).flatMap eI.o) [])), (2325, .r (.arr 1 (s34.1.flatMap (eS eI).o ++ [.rs 1160 0 (([y43, y44] : List Int).length)]) [1160]))] ++ rsS 30000 (eXSetFunctor.o v1)) (.cons (lenO_flat (eS_ok eI_ok) s34.1) (.cons (by kernel_rfl : ([.rs 1160 0 (([y43, y44] : List Int).length)] : List D).length = 1 * 1) (.cons h49 .nil))) (by kernel_rfl) (by kernel_rfl) (b_n (q_n ?_))
            refine Tr.by (imp_demE (r := 1162) (q := 1160) (sz := 1) (n := (([y43, y44] : List Int).length)) (j := 0) (pre := s34.1.flatMap (eS eI).o) (l := [.rs 1160 0 (([y43, y44] : List Int).length)]) (refs := [1160]) (refs' := []) (menO_flat (eS_ok eI_ok) _) (lenO_flat eI_ok ([y43, y44] : List Int)) (by kernel_rfl) (by kernel_rfl) (by kernel_rfl) (by kernel_rfl) (by kernel_rfl)) ?_
            refine Tr.by (imp_cvE (r := 1162) (sz := 1) (refs := []) (flat_snoc (eS eI).o s34.1 [y43, y44]) (menO_flat (eS_ok eI_ok) _) (by kernel_rfl)) ?_
            refine Tr.by (imp_cvD (k := 32) (congrArg (D.rs 1162 0) ((len_snoc s34.1 [y43, y44]) : s34.1.length + 1 = (s34.1 ++ [[y43, y44]]).length)) (by kernel_rfl)) ?_
            refine tr_r hT hm [] [4, 6, 8, 14, 16, 24, 26, 28, 30, 32, 34, 2005, 2007, 2009, 2015, 2059, 2325, 60003, 60005, 60007, 60009, 60011, 60013] ([(4, .d (.rp 1002 0)), (6, .d (.rp 1003 0)), (8, .d (.rp 1004 0)), (14, .d (.rp 1007 0)), (16, .d (.rs 1029 0 s27.1.length)), (24, .d (bv s27.2.1)), (26, .d (iv s27.2.2)), (28, .d (iv y32)), (30, .d (iv y33)), (32, .d (.rs 1162 0 ((s34.1 ++ [[y43, y44]]).length))), (34, .d (iv (IntKind.i64.wrap (s34.2 + 1)))), bxB 2005 (eXCategory.b a0), bxB 2007 (eXQuery.b a1), (2009, .r (.arr 1 [iv 0, nilv, nilv, nilv, nilv, nilv, nilv] [])), bxO 2015 30000 (eXSetFunctor.o v1), (2059, .r (.arr 1 (s27.1.flatMap (eS eI).o) [])), (2325, .r (.arr 1 ((s34.1 ++ [[y43, y44]]).flatMap (eS eI).o) []))] ++ rsS 30000 (eXSetFunctor.o v1)) .nil (by kernel_rfl) (by kernel_rfl) (l_n ?_)
            refine TrL.by (imp_sel (ks := [4, 6, 8, 14, 16, 24, 26, 28, 30, 32, 34, 2005, 2007, 2009, 2015, 2059, 2325, 60003, 60005, 60007, 60009, 60011, 60013]) (st' := ([(4, .d (.rp 1002 0)), (6, .d (.rp 1003 0)), (8, .d (.rp 1004 0)), (14, .d (.rp 1007 0)), (16, .d (.rs 1029 0 s27.1.length)), (24, .d (bv s27.2.1)), (26, .d (iv s27.2.2)), (28, .d (iv y32)), (30, .d (iv y33)), (32, .d (.rs 1162 0 ((s34.1 ++ [[y43, y44]]).length))), (34, .d (iv (IntKind.i64.wrap (s34.2 + 1)))), bxB 2005 (eXCategory.b a0), bxB 2007 (eXQuery.b a1), (2009, .r (.arr 1 [iv 0, nilv, nilv, nilv, nilv, nilv, nilv] [])), bxO 2015 30000 (eXSetFunctor.o v1), (2059, .r (.arr 1 (s27.1.flatMap (eS eI).o) [])), (2325, .r (.arr 1 ((s34.1 ++ [[y43, y44]]).flatMap (eS eI).o) []))] ++ rsS 30000 (eXSetFunctor.o v1))) (by kernel_rfl)) ?_
            refine TrL.by (imp_rename (r := 1162) (q := 1104) (by kernel_rfl) (Nat.le_of_ble_eq_true rfl)) ?_
            exact trl_start (ks := [4, 6, 8, 14, 16, 24, 26, 28, 30, 32, 34, 2005, 2007, 2009, 2015, 2059, 2209, 60003, 60005, 60007, 60009, 60011, 60013]) (by kernel_rfl) (ih36 (s34.1 ++ [[y43, y44]], IntKind.i64.wrap (s34.2 + 1)) hM)
          · have hM := ite_false' hM h48
            refine tr_condFe (e := y46 != y47) h48 (by kernel_rfl) ?_
            refine tr_skip (b_n (q_n ?_))
            refine tr_r hT hm [] [4, 6, 8, 14, 16, 24, 26, 28, 30, 32, 34, 2005, 2007, 2009, 2015, 2059, 2209, 60003, 60005, 60007, 60009, 60011, 60013] ([(4, .d (.rp 1002 0)), (6, .d (.rp 1003 0)), (8, .d (.rp 1004 0)), (14, .d (.rp 1007 0)), (16, .d (.rs 1029 0 s27.1.length)), (24, .d (bv s27.2.1)), (26, .d (iv s27.2.2)), (28, .d (iv y32)), (30, .d (iv y33)), (32, .d (.rs 1104 0 s34.1.length)), (34, .d (iv (IntKind.i64.wrap (s34.2 + 1)))), bxB 2005 (eXCategory.b a0), bxB 2007 (eXQuery.b a1), (2009, .r (.arr 1 [iv 0, nilv, nilv, nilv, nilv, nilv, nilv] [])), bxO 2015 30000 (eXSetFunctor.o v1), (2059, .r (.arr 1 (s27.1.flatMap (eS eI).o) [])), (2209, .r (.arr 1 (s34.1.flatMap (eS eI).o) []))] ++ rsS 30000 (eXSetFunctor.o v1)) .nil (by kernel_rfl) (by kernel_rfl) (l_n ?_)
            exact trl_start (ks := [4, 6, 8, 14, 16, 24, 26, 28, 30, 32, 34, 2005, 2007, 2009, 2015, 2059, 2209, 60003, 60005, 60007, 60009, 60011, 60013]) (by kernel_rfl) (ih36 (s34.1, IntKind.i64.wrap (s34.2 + 1)) hM)
        · have hM := ite_false' hM h39
          refine tr_condFe (e := decide (s34.2 < (y38.length : Int))) h39 (by kernel_rfl) ?_
          refine tr_exit (q_x (l_x (b_h (q_n ?_))))
          refine tr_sr hT hm [] [4, 6, 8, 14, 16, 24, 26, 30, 32, 330, 2005, 2007, 2009, 2015, 2059, 2209, 60003, 60005, 60007, 60009, 60011, 60013] ([(4, .d (.rp 1002 0)), (6, .d (.rp 1003 0)), (8, .d (.rp 1004 0)), (14, .d (.rp 1007 0)), (16, .d (.rs 1029 0 s27.1.length)), (24, .d (bv s27.2.1)), (26, .d (iv s27.2.2)), (30, .d (iv y33)), (32, .d (.rs 1104 0 s34.1.length)), (330, .d (bv (decide ((s34.1.length : Int) > 0)))), bxB 2005 (eXCategory.b a0), bxB 2007 (eXQuery.b a1), (2009, .r (.arr 1 [iv 0, nilv, nilv, nilv, nilv, nilv, nilv] [])), bxO 2015 30000 (eXSetFunctor.o v1), (2059, .r (.arr 1 (s27.1.flatMap (eS eI).o) [])), (2209, .r (.arr 1 (s34.1.flatMap (eS eI).o) []))] ++ rsS 30000 (eXSetFunctor.o v1)) .nil (by kernel_rfl) (by kernel_rfl) ?_
          rcases Bool.eq_false_or_eq_true (decide ((s34.1.length : Int) > 0)) with h50 | h50
          · have hM := ite_true' hM h50
            refine tr_condTe (e := decide ((s34.1.length : Int) > 0)) h50 (by kernel_rfl) ?_
            obtain ⟨y51, hy51, hM⟩ := bind_some' hM
            have hy51' := idx_some hy51
            obtain ⟨y52, hy52, hM⟩ := bind_some' hM
            have hy52' := idx_some hy52
            refine Tr.by (imp_rowOut (r := 1029) (q := 703534) (i := y33) (xs := s27.1) (e := eI) (eS_ok eI_ok) hy52'.2.2 (by kernel_rfl) (by kernel_rfl)) ?_
            obtain ⟨v53, hv53, hM⟩ := bind_some' hM
            obtain ⟨h54, hM⟩ := chk_some hM
            obtain ⟨v55, hv55, hM⟩ := bind_some' hM
            refine tr_sr hT hm [(6, .val (iv y51)), (10, .val (.rs 703534 0 y52.length)), (11, .call [703534] [] [.sl y52.length 0 (y52.flatMap eI.b)] [] (.fr 1 v53.length (v53.flatMap (eS eI).o))), (13, .app true), (14, .call [1179] [] [iv y51, .sl (v53 ++ s34.1).length 0 ((v53 ++ s34.1).flatMap (eS eI).b)] [] (.fr 1 v55.length (v55.flatMap eI.o)))] [4, 6, 8, 14, 16, 26, 2005, 2007, 2009, 2015, 2059, 60003, 60005, 60007, 60009, 60011, 60013, 364001, 1407069] ([(4, .d (.rp 1002 0)), (6, .d (.rp 1003 0)), (8, .d (.rp 1004 0)), (14, .d (.rp 1007 0)), (16, .d (.rs 1029 0 s27.1.length)), (26, .d (iv s27.2.2)), bxB 2005 (eXCategory.b a0), bxB 2007 (eXQuery.b a1), (2009, .r (.arr 1 [iv 0, nilv, nilv, nilv, nilv, nilv, nilv] [])), bxO 2015 30000 (eXSetFunctor.o v1), (2059, .r (.arr 1 (((s27.1.flatMap (eS eI).o).set (0 + y33.toNat * 1) (.rs 703534 0 y52.length)).take (0 + y33.toNat * 1) ++ [.rs 182000 0 v55.length] ++ ((s27.1.flatMap (eS eI).o).set (0 + y33.toNat * 1) (.rs 703534 0 y52.length)).drop (0 + y33.toNat * 1 + 1)) [703534, 182000]))] ++ rsS 30000 (eXSetFunctor.o v1) ++ [(364001, .r (.arr 1 (v55.flatMap eI.o) [])), (1407069, .r (.arr 1 (y52.flatMap eI.o) []))]) (.cons hy51'.1 (.cons hy51'.2.1 (.cons (at_o0 eI_ok hy51'.2.2 (d := iv y51) (by kernel_rfl)) (.cons hy52'.1 (.cons hy52'.2.1 (.cons (set_at (d := .rs 703534 0 y52.length) (lt_flat (eS_ok eI_ok) (by kernel_rfl) hy52'.2.2)) (cc (B := [703534]) (ρ := []) (rB := [(703534, .arr 1 (y52.flatMap eI.o) [])]) ok123 (spec_l01Pairs_c y52 _ hv53) (.cons (.of1 (.rs (r := 703534) (sz := 1) (refs := []) (memB (by kernel_rfl)) (by kernel_rfl) (bor_flat eI_ok _ _ _))) .nil) (.inr ⟨(.fr (nb_flat (eS_nb eI_nb) _)), trivial⟩) (.cons (lenO_flat (eS_ok eI_ok) v53) (.cons (lenO_flat (eS_ok eI_ok) s34.1) (.cons h54 (cc (B := [1179]) (ρ := []) (rB := [(1179, .arr 1 (v53.flatMap (eS eI).o ++ s34.1.flatMap (eS eI).o) [])]) ok121 (spec_l01Join_c y51 (v53 ++ s34.1) _ hv55) (.cons (.same rfl) (.cons (Bor.then (.of1 (.rs (r := 1179) (sz := 1) (refs := []) (memB (by kernel_rfl)) (by kernel_rfl) (borc_eq (flat_app (eS eI).o v53 s34.1) (bor_flat (eS_ok eI_ok) _ _ _)))) (pass_sub rfl (Sub.of_eq (congrArg (fun n => D.sl n 0 ((v53 ++ s34.1).flatMap (eS eI).b)) (((len_app v53 s34.1)).symm).symm)))) .nil)) (.inr ⟨(.fr (nb_flat eI_nb _)), trivial⟩) (.cons hy52'.1 (.cons hy52'.2.1 (.cons (store_le_set (j := 0 + y33.toNat * 1) (d := .rs 703534 0 y52.length) (eS_ok eI_ok) hy52'.2.2) .nil)))))))))))))) (by kernel_rfl) (by kernel_rfl) ?_
            refine Tr.by (imp_rowPut (r := 1029) (t := 182000) (q := 703534) (n := y52.length) eI_ok (y := v55) hy52'.2.2 (rfl) (by kernel_rfl) (by kernel_rfl) (by kernel_rfl)) ?_
            refine Tr.by (imp_cvD (k := 16) (congrArg (D.rs 1029 0) (List.length_set.symm : s27.1.length = (s27.1.set y33.toNat v55).length)) (by kernel_rfl)) ?_
            refine tr_r hT hm [] [4, 6, 8, 14, 16, 24, 26, 2005, 2007, 2009, 2015, 2059, 60003, 60005, 60007, 60009, 60011, 60013] ([(4, .d (.rp 1002 0)), (6, .d (.rp 1003 0)), (8, .d (.rp 1004 0)), (14, .d (.rp 1007 0)), (16, .d (.rs 1029 0 ((s27.1.set y33.toNat v55).length))), (24, .d (bv true)), (26, .d (iv s27.2.2)), bxB 2005 (eXCategory.b a0), bxB 2007 (eXQuery.b a1), (2009, .r (.arr 1 [iv 0, nilv, nilv, nilv, nilv, nilv, nilv] [])), bxO 2015 30000 (eXSetFunctor.o v1), (2059, .r (.arr 1 ((s27.1.set y33.toNat v55).flatMap (eS eI).o) []))] ++ rsS 30000 (eXSetFunctor.o v1)) .nil (by kernel_rfl) (by kernel_rfl) (b_n (q_n ?_))
            refine tr_r hT hm [] [4, 6, 8, 14, 16, 24, 26, 2005, 2007, 2009, 2015, 2059, 60003, 60005, 60007, 60009, 60011, 60013] ([(4, .d (.rp 1002 0)), (6, .d (.rp 1003 0)), (8, .d (.rp 1004 0)), (14, .d (.rp 1007 0)), (16, .d (.rs 1029 0 ((s27.1.set y33.toNat v55).length))), (24, .d (bv true)), (26, .d (iv (IntKind.i64.wrap (s27.2.2 + 1)))), bxB 2005 (eXCategory.b a0), bxB 2007 (eXQuery.b a1), (2009, .r (.arr 1 [iv 0, nilv, nilv, nilv, nilv, nilv, nilv] [])), bxO 2015 30000 (eXSetFunctor.o v1), (2059, .r (.arr 1 ((s27.1.set y33.toNat v55).flatMap (eS eI).o) []))] ++ rsS 30000 (eXSetFunctor.o v1)) .nil (by kernel_rfl) (by kernel_rfl) (l_n ?_)
            exact trl_start (ks := [4, 6, 8, 14, 16, 24, 26, 2005, 2007, 2009, 2015, 2059, 60003, 60005, 60007, 60009, 60011, 60013]) (by kernel_rfl) (ih29 (s27.1.set y33.toNat v55, true, IntKind.i64.wrap (s27.2.2 + 1)) hM)
          · have hM := ite_false' hM h50
            refine tr_condFe (e := decide ((s34.1.length : Int) > 0)) h50 (by kernel_rfl) ?_
            refine tr_skip (b_n (q_n ?_))
            refine tr_r hT hm [] [4, 6, 8, 14, 16, 24, 26, 2005, 2007, 2009, 2015, 2059, 60003, 60005, 60007, 60009, 60011, 60013] ([(4, .d (.rp 1002 0)), (6, .d (.rp 1003 0)), (8, .d (.rp 1004 0)), (14, .d (.rp 1007 0)), (16, .d (.rs 1029 0 s27.1.length)), (24, .d (bv s27.2.1)), (26, .d (iv (IntKind.i64.wrap (s27.2.2 + 1)))), bxB 2005 (eXCategory.b a0), bxB 2007 (eXQuery.b a1), (2009, .r (.arr 1 [iv 0, nilv, nilv, nilv, nilv, nilv, nilv] [])), bxO 2015 30000 (eXSetFunctor.o v1), (2059, .r (.arr 1 (s27.1.flatMap (eS eI).o) []))] ++ rsS 30000 (eXSetFunctor.o v1)) .nil (by kernel_rfl) (by kernel_rfl) (l_n ?_)
            exact trl_start (ks := [4, 6, 8, 14, 16, 24, 26, 2005, 2007, 2009, 2015, 2059, 60003, 60005, 60007, 60009, 60011, 60013]) (by kernel_rfl) (ih29 (s27.1, s27.2.1, IntKind.i64.wrap (s27.2.2 + 1)) hM)
      · have hM := ite_false' hM h31
        refine tr_condFe (e := decide (s27.2.2 < (v1.Actions.length : Int))) h31 (by kernel_rfl) ?_
        refine tr_exit (q_x (l_x (b_h (b_n (l_n ?_)))))
        exact trl_start (ks := [4, 6, 8, 14, 16, 24, 2005, 2007, 2009, 2015, 2059, 60003, 60005, 60007, 60009, 60011, 60013]) (by kernel_rfl) (ih24 (s27.1, s27.2.1) hM)
    · have hM := ite_false' hM h26
      refine tr_condFe (e := s22.2) h26 (by kernel_rfl) ?_
      refine tr_exit (q_x (l_x (b_h (q_n ?_))))
      obtain ⟨v56, hv56, hM⟩ := bind_some' hM
      refine tr_sr hT hm [(2, .call (rsR 30000 (eXSetFunctor.o v1) ++ [1029]) [] [.agg (eXSetFunctor.b v1), .sl s22.1.length 0 (s22.1.flatMap (eS eI).b)] [] (.agg (eXSetFunctor.o v56)))] [4, 6, 8, 16, 42, 44, 2005, 2007, 2009, 2043, 2059, 2371, 372003, 372005, 372007, 372009, 372011, 372013] ([(4, .d (.rp 1002 0)), (6, .d (.rp 1003 0)), (8, .d (.rp 1004 0)), (16, .d (.rs 1029 0 s22.1.length)), (42, .d (.rp 1021 0)), (44, .d (.rs 1185 0 (([] : List Int).length))), bxB 2005 (eXCategory.b a0), bxB 2007 (eXQuery.b a1), (2009, .r (.arr 1 [iv 0, nilv, nilv, nilv, nilv, nilv, nilv] [])), bxO 2043 186000 (eXSetFunctor.o v56), (2059, .r (.arr 1 (s22.1.flatMap (eS eI).o) [])), (2371, .r (.arr 1 (([] : List Int).flatMap eI.o) []))] ++ rsS 186000 (eXSetFunctor.o v56)) (cc (B := (rsR 30000 (eXSetFunctor.o v1) ++ [1029])) (ρ := []) (rB := (rsP 30000 (eXSetFunctor.o v1) ++ [(1029, .arr 1 (s22.1.flatMap (eS eI).o) [])])) ok124 (spec_l21Quotient_c v1 s22.1 _ hv56) (.cons (bor_rs eXSetFunctor_r (q := 30000) (x := v1) (by kernel_rfl) (by kernel_rfl)) (.cons (.of1 (.rs (r := 1029) (sz := 1) (refs := []) (memB (by kernel_rfl)) (by kernel_rfl) (bor_flat (eS_ok eI_ok) _ _ _))) .nil)) (.inr ⟨(.agg (eXSetFunctor_nb _)), trivial⟩) (.cons (Nat.le_of_ble_eq_true (n := 7) (m := 7) rfl) .nil)) (by kernel_rfl) (by kernel_rfl) ?_
      refine tr_seq ?_
      refine tr_sr hT hm [] [4, 6, 8, 16, 42, 44, 46, 2005, 2007, 2009, 2043, 2059, 2371, 372003, 372005, 372007, 372009, 372011, 372013] ([(4, .d (.rp 1002 0)), (6, .d (.rp 1003 0)), (8, .d (.rp 1004 0)), (16, .d (.rs 1029 0 s22.1.length)), (42, .d (.rp 1021 0)), (44, .d (.rs 1185 0 (([] : List Int).length))), (46, .d (iv 0)), bxB 2005 (eXCategory.b a0), bxB 2007 (eXQuery.b a1), (2009, .r (.arr 1 [iv 0, nilv, nilv, nilv, nilv, nilv, nilv] [])), bxO 2043 186000 (eXSetFunctor.o v56), (2059, .r (.arr 1 (s22.1.flatMap (eS eI).o) [])), (2371, .r (.arr 1 (([] : List Int).flatMap eI.o) []))] ++ rsS 186000 (eXSetFunctor.o v56)) .nil (by kernel_rfl) (by kernel_rfl) ?_
      refine tr_block ?_
      refine tr_iterS (fun (s57 : (List Int) × Int) => ([(4, .d (.rp 1002 0)), (6, .d (.rp 1003 0)), (8, .d (.rp 1004 0)), (16, .d (.rs 1029 0 s22.1.length)), (42, .d (.rp 1021 0)), (44, .d (.rs 1185 0 s57.1.length)), (46, .d (iv s57.2)), bxB 2005 (eXCategory.b a0), bxB 2007 (eXQuery.b a1), (2009, .r (.arr 1 [iv 0, nilv, nilv, nilv, nilv, nilv, nilv] [])), bxO 2043 186000 (eXSetFunctor.o v56), (2059, .r (.arr 1 (s22.1.flatMap (eS eI).o) [])), (2371, .r (.arr 1 (s57.1.flatMap eI.o) []))] ++ rsS 186000 (eXSetFunctor.o v56))) (([] : List Int), 0) [4, 6, 8, 16, 42, 44, 46, 2005, 2007, 2009, 2043, 2059, 2371, 372003, 372005, 372007, 372009, 372011, 372013] (by kernel_rfl) hM ?_
      intro n60 next58 ih59 s57 hM
      refine tr_seq ?_
      refine tr_sr hT hm [] [4, 6, 8, 16, 42, 44, 46, 380, 2005, 2007, 2009, 2043, 2059, 2371, 372003, 372005, 372007, 372009, 372011, 372013] ([(4, .d (.rp 1002 0)), (6, .d (.rp 1003 0)), (8, .d (.rp 1004 0)), (16, .d (.rs 1029 0 s22.1.length)), (42, .d (.rp 1021 0)), (44, .d (.rs 1185 0 s57.1.length)), (46, .d (iv s57.2)), (380, .d (bv (decide (s57.2 < (a1.Variables.length : Int))))), bxB 2005 (eXCategory.b a0), bxB 2007 (eXQuery.b a1), (2009, .r (.arr 1 [iv 0, nilv, nilv, nilv, nilv, nilv, nilv] [])), bxO 2043 186000 (eXSetFunctor.o v56), (2059, .r (.arr 1 (s22.1.flatMap (eS eI).o) [])), (2371, .r (.arr 1 (s57.1.flatMap eI.o) []))] ++ rsS 186000 (eXSetFunctor.o v56)) .nil (by kernel_rfl) (by kernel_rfl) ?_
      rcases Bool.eq_false_or_eq_true (decide (s57.2 < (a1.Variables.length : Int))) with h61 | h61
      · have hM := ite_true' hM h61
        refine tr_condTe (e := decide (s57.2 < (a1.Variables.length : Int))) h61 (by kernel_rfl) ?_
        refine tr_skip (q_n ?_)
        refine tr_seq ?_
        refine tr_block ?_
        obtain ⟨y62, hy62, hM⟩ := bind_some' hM
        have hy62' := idx_some hy62
        refine tr_sr hT hm [(4, .val (iv y62))] [4, 6, 8, 16, 42, 44, 46, 48, 2005, 2007, 2009, 2043, 2059, 2371, 372003, 372005, 372007, 372009, 372011, 372013] ([(4, .d (.rp 1002 0)), (6, .d (.rp 1003 0)), (8, .d (.rp 1004 0)), (16, .d (.rs 1029 0 s22.1.length)), (42, .d (.rp 1021 0)), (44, .d (.rs 1185 0 s57.1.length)), (46, .d (iv s57.2)), (48, .d (iv y62)), bxB 2005 (eXCategory.b a0), bxB 2007 (eXQuery.b a1), (2009, .r (.arr 1 [iv 0, nilv, nilv, nilv, nilv, nilv, nilv] [])), bxO 2043 186000 (eXSetFunctor.o v56), (2059, .r (.arr 1 (s22.1.flatMap (eS eI).o) [])), (2371, .r (.arr 1 (s57.1.flatMap eI.o) []))] ++ rsS 186000 (eXSetFunctor.o v56)) (.cons hy62'.1 (.cons hy62'.2.1 (.cons (at_b0 eI_ok hy62'.2.2 (d := iv y62) (by kernel_rfl)) .nil))) (by kernel_rfl) (by kernel_rfl) ?_
        obtain ⟨y63, hy63, hM⟩ := bind_some' hM
        have hy63' := idx_some hy63
        refine Tr.by (imp_rowOut (r := 1029) (q := 703540) (i := y62) (xs := s22.1) (e := eI) (eS_ok eI_ok) hy63'.2.2 (by kernel_rfl) (by kernel_rfl)) ?_
        obtain ⟨y64, hy64, hM⟩ := bind_some' hM
        have hy64' := idx_some hy64
        obtain ⟨v65, hv65, hM⟩ := bind_some' hM
        obtain ⟨y66, hy66, hM⟩ := bind_some' hM
        have hy66' := idx_some hy66
        obtain ⟨h67, hM⟩ := chk_some hM
        refine tr_r hT hm [(4, .val (.rs 703540 0 y63.length)), (12, .val (iv y64)), (14, .call [] [] [.agg (eXCategory.b a0), .agg (eXQuery.b a1), .agg [iv s57.2, iv y64]] [] (iv v65)), (16, .val (iv y66)), (18, .app true)] [4, 6, 8, 16, 42, 44, 46, 2005, 2007, 2009, 2043, 2059, 2433, 372003, 372005, 372007, 372009, 372011, 372013, 1407081] ([(4, .d (.rp 1002 0)), (6, .d (.rp 1003 0)), (8, .d (.rp 1004 0)), (16, .d (.rs 1029 0 s22.1.length)), (42, .d (.rp 1021 0)), (44, .d (.rs 1216 0 (s57.1.length + (([y66] : List Int).length)))), (46, .d (iv s57.2)), bxB 2005 (eXCategory.b a0), bxB 2007 (eXQuery.b a1), (2009, .r (.arr 1 [iv 0, nilv, nilv, nilv, nilv, nilv, nilv] [])), bxO 2043 186000 (eXSetFunctor.o v56), (2059, .r (.arr 1 ((s22.1.flatMap (eS eI).o).set (0 + y62.toNat * 1) (.rs 703540 0 y63.length)) [703540])), (2433, .r (.arr 1 (s57.1.flatMap eI.o ++ ([y66] : List Int).flatMap eI.o) []))] ++ rsS 186000 (eXSetFunctor.o v56) ++ [(1407081, .r (.arr 1 (y63.flatMap eI.o) []))]) (.cons hy63'.1 (.cons hy63'.2.1 (.cons (set_at (d := .rs 703540 0 y63.length) (lt_flat (eS_ok eI_ok) (by kernel_rfl) hy63'.2.2)) (.cons hy64'.1 (.cons hy64'.2.1 (.cons (at_b0 eI_ok hy64'.2.2 (d := iv y64) (by kernel_rfl)) (cc0 ok120 (spec_l38Pair_c a0 a1 (⟨s57.2, y64⟩ : XTerm) _ hv65) (by kernel_rfl) (.cons hy66'.1 (.cons hy66'.2.1 (.cons (at_o0 eI_ok hy66'.2.2 (d := iv y66) (by kernel_rfl)) (.cons (lenO_flat eI_ok s57.1) (.cons (lenO_flat eI_ok ([y66] : List Int)) (.cons h67 .nil))))))))))))) (by kernel_rfl) (by kernel_rfl) (b_n (q_n ?_))
        refine Tr.by (imp_cvE (r := 1216) (sz := 1) (refs := []) (flat_app eI.o s57.1 ([y66] : List Int)) (menO_flat eI_ok _) (by kernel_rfl)) ?_
        refine Tr.by (imp_cvD (k := 44) (congrArg (D.rs 1216 0) ((len_app s57.1 ([y66] : List Int)) : s57.1.length + (([y66] : List Int).length) = (s57.1 ++ ([y66] : List Int)).length)) (by kernel_rfl)) ?_
        refine Tr.by (imp_rowSame (r := 1029) (q := 703540) (n := y63.length) (i := y62) (xs := s22.1) (e := eI) (x := y63) eI_ok hy63'.2.2 rfl (by kernel_rfl) (by kernel_rfl) (by kernel_rfl)) ?_
        refine tr_r hT hm [] [4, 6, 8, 16, 42, 44, 46, 2005, 2007, 2009, 2043, 2059, 2433, 372003, 372005, 372007, 372009, 372011, 372013] ([(4, .d (.rp 1002 0)), (6, .d (.rp 1003 0)), (8, .d (.rp 1004 0)), (16, .d (.rs 1029 0 s22.1.length)), (42, .d (.rp 1021 0)), (44, .d (.rs 1216 0 ((s57.1 ++ ([y66] : List Int)).length))), (46, .d (iv (IntKind.i64.wrap (s57.2 + 1)))), bxB 2005 (eXCategory.b a0), bxB 2007 (eXQuery.b a1), (2009, .r (.arr 1 [iv 0, nilv, nilv, nilv, nilv, nilv, nilv] [])), bxO 2043 186000 (eXSetFunctor.o v56), (2059, .r (.arr 1 (s22.1.flatMap (eS eI).o) [])), (2433, .r (.arr 1 ((s57.1 ++ ([y66] : List Int)).flatMap eI.o) []))] ++ rsS 186000 (eXSetFunctor.o v56)) .nil (by kernel_rfl) (by kernel_rfl) (l_n ?_)
        refine TrL.by (imp_sel (ks := [4, 6, 8, 16, 42, 44, 46, 2005, 2007, 2009, 2043, 2059, 2433, 372003, 372005, 372007, 372009, 372011, 372013]) (st' := ([(4, .d (.rp 1002 0)), (6, .d (.rp 1003 0)), (8, .d (.rp 1004 0)), (16, .d (.rs 1029 0 s22.1.length)), (42, .d (.rp 1021 0)), (44, .d (.rs 1216 0 ((s57.1 ++ ([y66] : List Int)).length))), (46, .d (iv (IntKind.i64.wrap (s57.2 + 1)))), bxB 2005 (eXCategory.b a0), bxB 2007 (eXQuery.b a1), (2009, .r (.arr 1 [iv 0, nilv, nilv, nilv, nilv, nilv, nilv] [])), bxO 2043 186000 (eXSetFunctor.o v56), (2059, .r (.arr 1 (s22.1.flatMap (eS eI).o) [])), (2433, .r (.arr 1 ((s57.1 ++ ([y66] : List Int)).flatMap eI.o) []))] ++ rsS 186000 (eXSetFunctor.o v56))) (by kernel_rfl)) ?_
        refine TrL.by (imp_rename (r := 1216) (q := 1185) (by kernel_rfl) (Nat.le_of_ble_eq_true rfl)) ?_
        exact trl_start (ks := [4, 6, 8, 16, 42, 44, 46, 2005, 2007, 2009, 2043, 2059, 2371, 372003, 372005, 372007, 372009, 372011, 372013]) (by kernel_rfl) (ih59 (s57.1 ++ ([y66] : List Int), IntKind.i64.wrap (s57.2 + 1)) hM)
      · have hM := ite_false' hM h61
        refine tr_condFe (e := decide (s57.2 < (a1.Variables.length : Int))) h61 (by kernel_rfl) ?_
        refine tr_exit (q_x (l_x (b_h (q_n ?_))))
        obtain ⟨v68, hv68, hM⟩ := bind_some' hM
        refine tr_sr hT hm [(3, .call (rsR 186000 (eXSetFunctor.o v56)) [] [.agg (eXSetFunctor.b v56)] [] (iv v68))] [8, 10, 12, 2009, 2371, 372003, 372005, 372007, 372009, 372011, 372013] ([(8, .d (.rp 1004 0)), (10, .d (.rs 1185 0 s57.1.length)), (12, .d (bv (v68 == 0))), bxO 2009 186000 (eXSetFunctor.o v56), (2371, .r (.arr 1 (s57.1.flatMap eI.o) []))] ++ rsS 186000 (eXSetFunctor.o v56)) (cc (B := (rsR 186000 (eXSetFunctor.o v56))) (ρ := []) (rB := (rsP 186000 (eXSetFunctor.o v56))) ok125 (spec_l21Made_c v56 _ hv68) (.cons (bor_rs eXSetFunctor_r (q := 186000) (x := v56) (by kernel_rfl) (by kernel_rfl)) .nil) (.inr ⟨.v, trivial⟩) (.cons (Nat.le_of_ble_eq_true (n := 7) (m := 7) rfl) .nil)) (by kernel_rfl) (by kernel_rfl) ?_
        refine tr_ret (rg_r ?_)
        obtain rfl := Option.some.inj hM
        exact retg (names := []) (.cons (lenO_flat eI_ok v56.Shape.From) (.cons (lenO_flat eI_ok v56.Shape.To) (.cons (lenO_flat eI_ok v56.Shape.Identity) (.cons (lenO_flat (eS_ok eI_ok) v56.Shape.Composites) (.cons (lenO_flat eI_ok v56.Sizes) (.cons (lenO_flat (eS_ok eI_ok) v56.Actions) (.cons (lenO_flat eI_ok s57.1) .nil))))))) (by kernel_rfl)

theorem ok47 : CallOk Try.prog 47 := callOk_of Try.func47 (by kernel_rfl) (by kernel_rfl)
theorem spec_l38Implied_c (a0 : XCategory) (a1 : XQuery) (a2 : XTerm) (a3 : XTerm) (r : Bool × Bool) (hM : M.spec_l38Implied a0 a1 a2 a3 = some r) :
    FnC Try.prog 47 [] [.agg (eXCategory.b a0), .agg (eXQuery.b a1), .agg (eXTerm.b a2), .agg (eXTerm.b a3)] [] (.tup [bv r.1, bv r.2]) := by
  refine fnc_startG (N := 49) (np := 500) hT Try.func47 rfl rfl (by kernel_rfl) ?_
  unfold M.spec_l38Implied at hM
  refine tr_start (ks := [0, 2, 4, 6]) (st' := [(0, .d (.agg (eXCategory.b a0))), (2, .d (.agg (eXQuery.b a1))), (4, .d (.agg (eXTerm.b a2))), (6, .d (.agg (eXTerm.b a3)))]) (by kernel_rfl) ?_
  refine tr_sr hT hm [] [8, 10, 12, 14, 2009, 2011, 2013, 2015] [(8, .d (.rp 1004 0)), (10, .d (.rp 1005 0)), (12, .d (.rp 1006 0)), (14, .d (.rp 1007 0)), bxB 2009 (eXCategory.b a0), bxB 2011 (eXQuery.b a1), bxB 2013 (eXTerm.b a2), bxB 2015 (eXTerm.b a3)] .nil (by kernel_rfl) (by kernel_rfl) ?_
  obtain ⟨v1, hv1, hM⟩ := bind_some' hM
  refine tr_sr hT hm [(2, .call [] [] [.agg (eXCategory.b a0), .agg (eXQuery.b a1)] [] (.tup [.agg (eXSetFunctor.o v1.1), .fr 1 v1.2.1.length (v1.2.1.flatMap eI.o), bv v1.2.2]))] [12, 14, 20, 22, 24, 2013, 2015, 2021, 36003, 36005, 36007, 36009, 36011, 36013, 36201] ([(12, .d (.rp 1006 0)), (14, .d (.rp 1007 0)), (20, .d (.rp 1010 0)), (22, .d (.rs 18100 0 v1.2.1.length)), (24, .d (bv v1.2.2)), bxB 2013 (eXTerm.b a2), bxB 2015 (eXTerm.b a3), bxO 2021 18000 (eXSetFunctor.o v1.1)] ++ rsS 18000 (eXSetFunctor.o v1.1) ++ [(36201, .r (.arr 1 (v1.2.1.flatMap eI.o) []))]) (cc0 ok83 (spec_l38Canonical_c a0 a1 _ hv1) (by kernel_rfl) (.cons (Nat.le_of_ble_eq_true (n := 7) (m := 7) rfl) .nil)) (by kernel_rfl) (by kernel_rfl) ?_
  refine tr_seq ?_
  refine tr_sr hT hm [] [12, 14, 20, 22, 42, 2013, 2015, 2021, 36003, 36005, 36007, 36009, 36011, 36013, 36201] ([(12, .d (.rp 1006 0)), (14, .d (.rp 1007 0)), (20, .d (.rp 1010 0)), (22, .d (.rs 18100 0 v1.2.1.length)), (42, .d (bv (!v1.2.2))), bxB 2013 (eXTerm.b a2), bxB 2015 (eXTerm.b a3), bxO 2021 18000 (eXSetFunctor.o v1.1)] ++ rsS 18000 (eXSetFunctor.o v1.1) ++ [(36201, .r (.arr 1 (v1.2.1.flatMap eI.o) []))]) .nil (by kernel_rfl) (by kernel_rfl) ?_
  rcases Bool.eq_false_or_eq_true v1.2.2 with h2 | h2
  · have hM := ite_true' hM h2
    refine tr_condFe (e := !v1.2.2) (congrArg not h2) (by kernel_rfl) ?_
    refine tr_skip (q_n ?_)
    refine Tr.by (imp_freeze (B := [1010, 18001, 18002, 18003, 18004, 18005, 18006]) (cv := [(10, .pt (eXSetFunctor.b v1.1) 0)]) (.cons (by kernel_rfl) (.of1 (.rp (r := 1010) (sz := 1) (cells := [iv v1.1.Shape.Objects, .rs 18001 0 v1.1.Shape.From.length, .rs 18002 0 v1.1.Shape.To.length, .rs 18003 0 v1.1.Shape.Identity.length, .rs 18004 0 v1.1.Shape.Composites.length, .rs 18005 0 v1.1.Sizes.length, .rs 18006 0 v1.1.Actions.length]) (refs := [18001, 18002, 18003, 18004, 18005, 18006]) (memB (by kernel_rfl)) (by kernel_rfl) (.cons .v (.cons (.rs (r := 18001) (sz := 1) (refs := []) (memB (by kernel_rfl)) (by kernel_rfl) (bor_flat eI_ok _ _ _)) (.cons (.rs (r := 18002) (sz := 1) (refs := []) (memB (by kernel_rfl)) (by kernel_rfl) (bor_flat eI_ok _ _ _)) (.cons (.rs (r := 18003) (sz := 1) (refs := []) (memB (by kernel_rfl)) (by kernel_rfl) (bor_flat eI_ok _ _ _)) (.cons (.rs (r := 18004) (sz := 1) (refs := []) (memB (by kernel_rfl)) (by kernel_rfl) (bor_flat (eS_ok eI_ok) _ _ _)) (.cons (.rs (r := 18005) (sz := 1) (refs := []) (memB (by kernel_rfl)) (by kernel_rfl) (bor_flat eI_ok _ _ _)) (.cons (.rs (r := 18006) (sz := 1) (refs := []) (memB (by kernel_rfl)) (by kernel_rfl) (bor_flat (eS_ok eI_ok) _ _ _)) .nil))))))))) .nil)) ?_
    obtain ⟨y3, hy3, hM⟩ := bind_some' hM
    have hy3' := idx_some hy3
    obtain ⟨y4, hy4, hM⟩ := bind_some' hM
    have hy4' := idx_some hy4
    obtain ⟨y5, hy5, hM⟩ := bind_some' hM
    have hy5' := idx_some hy5
    obtain ⟨y6, hy6, hM⟩ := bind_some' hM
    have hy6' := idx_some hy6
    obtain ⟨y7, hy7, hM⟩ := bind_some' hM
    have hy7' := idx_some hy7
    obtain ⟨y8, hy8, hM⟩ := bind_some' hM
    have hy8' := idx_some hy8
    refine tr_sr hT hm [(5, .val (.sl y3.length 0 (y3.flatMap eI.b))), (10, .val (iv y4)), (12, .val (iv y5)), (18, .val (.sl y6.length 0 (y6.flatMap eI.b))), (23, .val (iv y7)), (25, .val (iv y8))] [16, 18] [(16, .d (bv (y5 == y8))), (18, .d (bv true))] (.cons hy3'.1 (.cons hy3'.2.1 (.cons (at_b0 (eS_ok eI_ok) hy3'.2.2 (d := .sl y3.length 0 (y3.flatMap eI.b)) (by kernel_rfl)) (.cons hy4'.1 (.cons hy4'.2.1 (.cons (at_o0 eI_ok hy4'.2.2 (d := iv y4) (by kernel_rfl)) (.cons hy5'.1 (.cons hy5'.2.1 (.cons (at_b0 eI_ok hy5'.2.2 (d := iv y5) (by kernel_rfl)) (.cons hy6'.1 (.cons hy6'.2.1 (.cons (at_b0 (eS_ok eI_ok) hy6'.2.2 (d := .sl y6.length 0 (y6.flatMap eI.b)) (by kernel_rfl)) (.cons hy7'.1 (.cons hy7'.2.1 (.cons (at_o0 eI_ok hy7'.2.2 (d := iv y7) (by kernel_rfl)) (.cons hy8'.1 (.cons hy8'.2.1 (.cons (at_b0 eI_ok hy8'.2.2 (d := iv y8) (by kernel_rfl)) .nil)))))))))))))))))) (by kernel_rfl) (by kernel_rfl) ?_
    refine tr_ret (rg_r ?_)
    obtain rfl := Option.some.inj hM
    exact retg (names := []) .nil (by kernel_rfl)
  · have hM := ite_false' hM h2
    refine tr_condTe (e := !v1.2.2) (congrArg not h2) (by kernel_rfl) ?_
    refine tr_sr hT hm [] [16, 18] [(16, .d (bv false)), (18, .d (bv false))] .nil (by kernel_rfl) (by kernel_rfl) ?_
    refine tr_ret (q_r (rg_r ?_))
    obtain rfl := Option.some.inj hM
    exact retg (names := []) .nil (by kernel_rfl)

theorem ok17 : CallOk Try.prog 17 := callOk_of Try.func17 (by kernel_rfl) (by kernel_rfl)
theorem spec_IsImplied_c (a0 : XCategory) (a1 : XQuery) (a2 : XTerm) (a3 : XTerm) (r : Bool × Int) (hM : M.spec_IsImplied a0 a1 a2 a3 = some r) :
    FnC Try.prog 17 [] [.agg (eXCategory.b a0), .agg (eXQuery.b a1), .agg (eXTerm.b a2), .agg (eXTerm.b a3)] [] (.tup [bv r.1, iv r.2]) := by
  refine fnc_startG (N := 56) (np := 500) hT Try.func17 rfl rfl (by kernel_rfl) ?_
  unfold M.spec_IsImplied at hM
  refine tr_start (ks := [0, 2, 4, 6]) (st' := [(0, .d (.agg (eXCategory.b a0))), (2, .d (.agg (eXQuery.b a1))), (4, .d (.agg (eXTerm.b a2))), (6, .d (.agg (eXTerm.b a3)))]) (by kernel_rfl) ?_
  refine tr_sr hT hm [] [8, 10, 12, 14, 2009, 2011, 2013, 2015] [(8, .d (.rp 1004 0)), (10, .d (.rp 1005 0)), (12, .d (.rp 1006 0)), (14, .d (.rp 1007 0)), bxB 2009 (eXCategory.b a0), bxB 2011 (eXQuery.b a1), bxB 2013 (eXTerm.b a2), bxB 2015 (eXTerm.b a3)] .nil (by kernel_rfl) (by kernel_rfl) ?_
  refine tr_seq ?_
  obtain ⟨v1, hv1, hM⟩ := bind_some' hM
  refine tr_sr hT hm [(2, .call [] [] [.agg (eXCategory.b a0), .agg (eXQuery.b a1)] [] (bv v1))] [8, 10, 12, 14, 30, 2009, 2011, 2013, 2015] [(8, .d (.rp 1004 0)), (10, .d (.rp 1005 0)), (12, .d (.rp 1006 0)), (14, .d (.rp 1007 0)), (30, .d (bv (!v1))), bxB 2009 (eXCategory.b a0), bxB 2011 (eXQuery.b a1), bxB 2013 (eXTerm.b a2), bxB 2015 (eXTerm.b a3)] (cc0 ok45 (spec_IsQuery_c a0 a1 _ hv1) (by kernel_rfl) .nil) (by kernel_rfl) (by kernel_rfl) ?_
  rcases Bool.eq_false_or_eq_true v1 with h2 | h2
  · have hM := ite_true' hM h2
    refine tr_condFe (e := !v1) (congrArg not h2) (by kernel_rfl) ?_
    refine tr_skip (q_n ?_)
    refine tr_seq ?_
    obtain ⟨v3, hv3, hM⟩ := bind_some' hM
    rcases Bool.eq_false_or_eq_true v3 with h4 | h4
    · have hM := ite_true' hM h4
      obtain ⟨v5, hv5, hM⟩ := bind_some' hM
      rcases Bool.eq_false_or_eq_true v5 with h6 | h6
      · have hM := ite_true' hM h6
        obtain ⟨y7, hy7, hM⟩ := bind_some' hM
        have hy7' := idx_some hy7
        obtain ⟨y8, hy8, hM⟩ := bind_some' hM
        have hy8' := idx_some hy8
        refine tr_sr hT hm [(4, .call [] [] [.agg (eXCategory.b a0), .sl a1.Variables.length 0 (a1.Variables.flatMap eI.b), .agg (eXTerm.b a2)] [] (bv v3)), (6, .val (bv false)), (11, .call [] [] [.agg (eXCategory.b a0), .sl a1.Variables.length 0 (a1.Variables.flatMap eI.b), .agg (eXTerm.b a3)] [] (bv v5)), (14, .val (bv false)), (20, .val (iv y7)), (26, .val (iv y8))] [8, 10, 12, 14, 88, 2009, 2011, 2013, 2015] [(8, .d (.rp 1004 0)), (10, .d (.rp 1005 0)), (12, .d (.rp 1006 0)), (14, .d (.rp 1007 0)), (88, .d (bv (y7 != y8))), bxB 2009 (eXCategory.b a0), bxB 2011 (eXQuery.b a1), bxB 2013 (eXTerm.b a2), bxB 2015 (eXTerm.b a3)] (cc0 ok46 (spec_l38Term_c a0 a1.Variables a2 _ hv3) (by kernel_rfl) (.cons (congrArg (fun b => bv b) (congrArg not h4)) (cc0 ok46 (spec_l38Term_c a0 a1.Variables a3 _ hv5) (by kernel_rfl) (.cons (congrArg (fun b => bv b) (congrArg not h6)) (.cons hy7'.1 (.cons hy7'.2.1 (.cons (at_b0 eI_ok hy7'.2.2 (d := iv y7) (by kernel_rfl)) (.cons hy8'.1 (.cons hy8'.2.1 (.cons (at_b0 eI_ok hy8'.2.2 (d := iv y8) (by kernel_rfl)) .nil)))))))))) (by kernel_rfl) (by kernel_rfl) ?_
        rcases Bool.eq_false_or_eq_true (y7 != y8) with h9 | h9
        · have hM := ite_true' hM h9
          refine tr_condTe (e := y7 != y8) h9 (by kernel_rfl) ?_
          refine tr_sr hT hm [] [16, 18] [(16, .d (bv false)), (18, .d (iv 2))] .nil (by kernel_rfl) (by kernel_rfl) ?_
          refine tr_ret (q_r (rg_r ?_))
          obtain rfl := Option.some.inj hM
          exact retg (names := []) .nil (by kernel_rfl)
        · have hM := ite_false' hM h9
          refine tr_condFe (e := y7 != y8) h9 (by kernel_rfl) ?_
          refine tr_skip (q_n ?_)
          obtain ⟨v10, hv10, hM⟩ := bind_some' hM
          refine tr_sr hT hm [(4, .call [] [] [.agg (eXCategory.b a0), .agg (eXQuery.b a1), .agg (eXTerm.b a2), .agg (eXTerm.b a3)] [] (.tup [bv v10.1, bv v10.2]))] [20, 22] [(20, .d (bv v10.1)), (22, .d (bv v10.2))] (cc0 ok47 (spec_l38Implied_c a0 a1 a2 a3 _ hv10) (by kernel_rfl) .nil) (by kernel_rfl) (by kernel_rfl) ?_
          refine tr_seq ?_
          refine tr_sr hT hm [] [20, 108] [(20, .d (bv v10.1)), (108, .d (bv (!v10.2)))] .nil (by kernel_rfl) (by kernel_rfl) ?_
          rcases Bool.eq_false_or_eq_true v10.2 with h11 | h11
          · have hM := ite_true' hM h11
            refine tr_condFe (e := !v10.2) (congrArg not h11) (by kernel_rfl) ?_
            refine tr_skip (q_n ?_)
            refine tr_sr hT hm [] [16, 18] [(16, .d (bv v10.1)), (18, .d (iv 0))] .nil (by kernel_rfl) (by kernel_rfl) ?_
            refine tr_ret (rg_r ?_)
            obtain rfl := Option.some.inj hM
            exact retg (names := []) .nil (by kernel_rfl)
          · have hM := ite_false' hM h11
            refine tr_condTe (e := !v10.2) (congrArg not h11) (by kernel_rfl) ?_
            refine tr_sr hT hm [] [16, 18] [(16, .d (bv false)), (18, .d (iv 3))] .nil (by kernel_rfl) (by kernel_rfl) ?_
            refine tr_ret (q_r (rg_r ?_))
            obtain rfl := Option.some.inj hM
            exact retg (names := []) .nil (by kernel_rfl)
      · have hM := ite_false' hM h6
        refine tr_sr hT hm [(4, .call [] [] [.agg (eXCategory.b a0), .sl a1.Variables.length 0 (a1.Variables.flatMap eI.b), .agg (eXTerm.b a2)] [] (bv v3)), (6, .val (bv false)), (11, .call [] [] [.agg (eXCategory.b a0), .sl a1.Variables.length 0 (a1.Variables.flatMap eI.b), .agg (eXTerm.b a3)] [] (bv v5)), (14, .val (bv true))] [8, 10, 12, 14, 88, 2009, 2011, 2013, 2015] [(8, .d (.rp 1004 0)), (10, .d (.rp 1005 0)), (12, .d (.rp 1006 0)), (14, .d (.rp 1007 0)), (88, .d (bv true)), bxB 2009 (eXCategory.b a0), bxB 2011 (eXQuery.b a1), bxB 2013 (eXTerm.b a2), bxB 2015 (eXTerm.b a3)] (cc0 ok46 (spec_l38Term_c a0 a1.Variables a2 _ hv3) (by kernel_rfl) (.cons (congrArg (fun b => bv b) (congrArg not h4)) (cc0 ok46 (spec_l38Term_c a0 a1.Variables a3 _ hv5) (by kernel_rfl) (.cons (congrArg (fun b => bv b) (congrArg not h6)) .nil)))) (by kernel_rfl) (by kernel_rfl) ?_
        refine tr_condT (by kernel_rfl) ?_
        refine tr_sr hT hm [] [16, 18] [(16, .d (bv false)), (18, .d (iv 2))] .nil (by kernel_rfl) (by kernel_rfl) ?_
        refine tr_ret (q_r (rg_r ?_))
        obtain rfl := Option.some.inj hM
        exact retg (names := []) .nil (by kernel_rfl)
    · have hM := ite_false' hM h4
      refine tr_sr hT hm [(4, .call [] [] [.agg (eXCategory.b a0), .sl a1.Variables.length 0 (a1.Variables.flatMap eI.b), .agg (eXTerm.b a2)] [] (bv v3)), (6, .val (bv true))] [8, 10, 12, 14, 88, 2009, 2011, 2013, 2015] [(8, .d (.rp 1004 0)), (10, .d (.rp 1005 0)), (12, .d (.rp 1006 0)), (14, .d (.rp 1007 0)), (88, .d (bv true)), bxB 2009 (eXCategory.b a0), bxB 2011 (eXQuery.b a1), bxB 2013 (eXTerm.b a2), bxB 2015 (eXTerm.b a3)] (cc0 ok46 (spec_l38Term_c a0 a1.Variables a2 _ hv3) (by kernel_rfl) (.cons (congrArg (fun b => bv b) (congrArg not h4)) .nil)) (by kernel_rfl) (by kernel_rfl) ?_
      refine tr_condT (by kernel_rfl) ?_
      refine tr_sr hT hm [] [16, 18] [(16, .d (bv false)), (18, .d (iv 2))] .nil (by kernel_rfl) (by kernel_rfl) ?_
      refine tr_ret (q_r (rg_r ?_))
      obtain rfl := Option.some.inj hM
      exact retg (names := []) .nil (by kernel_rfl)
  · have hM := ite_false' hM h2
    refine tr_condTe (e := !v1) (congrArg not h2) (by kernel_rfl) ?_
    refine tr_sr hT hm [] [16, 18] [(16, .d (bv false)), (18, .d (iv 1))] .nil (by kernel_rfl) (by kernel_rfl) ?_
    refine tr_ret (q_r (rg_r ?_))
    obtain rfl := Option.some.inj hM
    exact retg (names := []) .nil (by kernel_rfl)

theorem ok85 : CallOk Try.prog 85 := callOk_of Try.func85 (by kernel_rfl) (by kernel_rfl)
theorem impl_Category_isTerm_c (a0 : XCategory) (a1 : XQuery) (a2 : XTerm) (r : Bool) (hM : M.impl_Category_isTerm a0 a1 a2 = some r) :
    FnC Try.prog 85 [] [.pt (eXCategory.b a0) 0, .pt (eXQuery.b a1) 0, .agg (eXTerm.b a2)] [] (bv r) := by
  refine fnc_startG (N := 43) (np := 500) hT Try.func85 rfl rfl (by kernel_rfl) ?_
  unfold M.impl_Category_isTerm at hM
  refine tr_start (ks := [0, 2, 4]) (st' := [(0, .d (.pt (eXCategory.b a0) 0)), (2, .d (.pt (eXQuery.b a1) 0)), (4, .d (.agg (eXTerm.b a2)))]) (by kernel_rfl) ?_
  refine tr_sr hT hm [] [0, 2, 10, 2011] [(0, .d (.pt (eXCategory.b a0) 0)), (2, .d (.pt (eXQuery.b a1) 0)), (10, .d (.rp 1005 0)), bxB 2011 (eXTerm.b a2)] .nil (by kernel_rfl) (by kernel_rfl) ?_
  obtain ⟨v1, hv1, hM⟩ := bind_some' hM
  rcases Bool.eq_false_or_eq_true v1 with h2 | h2
  · have hM := ite_true' hM h2
    obtain ⟨v3, hv3, hM⟩ := bind_some' hM
    obtain ⟨v4, hv4, hM⟩ := bind_some' hM
    rcases Bool.eq_false_or_eq_true v4 with h5 | h5
    · have hM := ite_true' hM h5
      obtain ⟨y6, hy6, hM⟩ := bind_some' hM
      have hy6' := idx_some hy6
      obtain ⟨y7, hy7, hM⟩ := bind_some' hM
      have hy7' := idx_some hy7
      refine tr_sr hT hm [(8, .call [] [] [iv a2.Variable, iv 0, iv (IntKind.i64.wrap ((a1.Variables.length : Int) - 1))] [] (bv v1)), (9, .val (bv true)), (13, .call [] [] [.pt (eXCategory.b a0) 0] [] (iv v3)), (15, .call [] [] [iv a2.Arrow, iv 0, iv (IntKind.i64.wrap (v3 - 1))] [] (bv v4)), (17, .val (bv true)), (25, .val (iv y6)), (33, .val (iv y7))] [12] [(12, .d (bv (y6 == y7)))] (cc0 ok126 (impl_inRange_c a2.Variable 0 (IntKind.i64.wrap ((a1.Variables.length : Int) - 1)) _ hv1) (by kernel_rfl) (.cons (congrArg (fun b => bv b) h2) (cc0 ok114 (impl_Category_arrows_c a0 _ hv3) (by kernel_rfl) (cc0 ok126 (impl_inRange_c a2.Arrow 0 (IntKind.i64.wrap (v3 - 1)) _ hv4) (by kernel_rfl) (.cons (congrArg (fun b => bv b) h5) (.cons hy6'.1 (.cons hy6'.2.1 (.cons (at_b0 eI_ok hy6'.2.2 (d := iv y6) (by kernel_rfl)) (.cons hy7'.1 (.cons hy7'.2.1 (.cons (at_b0 eI_ok hy7'.2.2 (d := iv y7) (by kernel_rfl)) .nil))))))))))) (by kernel_rfl) (by kernel_rfl) ?_
      refine tr_ret (rg_r ?_)
      obtain rfl := Option.some.inj hM
      exact retg (names := []) .nil (by kernel_rfl)
    · have hM := ite_false' hM h5
      refine tr_sr hT hm [(8, .call [] [] [iv a2.Variable, iv 0, iv (IntKind.i64.wrap ((a1.Variables.length : Int) - 1))] [] (bv v1)), (9, .val (bv true)), (13, .call [] [] [.pt (eXCategory.b a0) 0] [] (iv v3)), (15, .call [] [] [iv a2.Arrow, iv 0, iv (IntKind.i64.wrap (v3 - 1))] [] (bv v4)), (17, .val (bv false))] [12] [(12, .d (bv false))] (cc0 ok126 (impl_inRange_c a2.Variable 0 (IntKind.i64.wrap ((a1.Variables.length : Int) - 1)) _ hv1) (by kernel_rfl) (.cons (congrArg (fun b => bv b) h2) (cc0 ok114 (impl_Category_arrows_c a0 _ hv3) (by kernel_rfl) (cc0 ok126 (impl_inRange_c a2.Arrow 0 (IntKind.i64.wrap (v3 - 1)) _ hv4) (by kernel_rfl) (.cons (congrArg (fun b => bv b) h5) .nil))))) (by kernel_rfl) (by kernel_rfl) ?_
      refine tr_ret (rg_r ?_)
      obtain rfl := Option.some.inj hM
      exact retg (names := []) .nil (by kernel_rfl)
  · have hM := ite_false' hM h2
    refine tr_sr hT hm [(8, .call [] [] [iv a2.Variable, iv 0, iv (IntKind.i64.wrap ((a1.Variables.length : Int) - 1))] [] (bv v1)), (9, .val (bv false))] [12] [(12, .d (bv false))] (cc0 ok126 (impl_inRange_c a2.Variable 0 (IntKind.i64.wrap ((a1.Variables.length : Int) - 1)) _ hv1) (by kernel_rfl) (.cons (congrArg (fun b => bv b) h2) .nil)) (by kernel_rfl) (by kernel_rfl) ?_
    refine tr_ret (rg_r ?_)
    obtain rfl := Option.some.inj hM
    exact retg (names := []) .nil (by kernel_rfl)

theorem ok50 : CallOk Try.prog 50 := callOk_of Try.func50 (by kernel_rfl) (by kernel_rfl)
theorem impl_Category_isCondition_c (a0 : XCategory) (a1 : XQuery) (a2 : XTerm) (a3 : XTerm) (r : Bool) (hM : M.impl_Category_isCondition a0 a1 a2 a3 = some r) :
    FnC Try.prog 50 [] [.pt (eXCategory.b a0) 0, .pt (eXQuery.b a1) 0, .agg (eXTerm.b a2), .agg (eXTerm.b a3)] [] (bv r) := by
  refine fnc_startG (N := 38) (np := 500) hT Try.func50 rfl rfl (by kernel_rfl) ?_
  unfold M.impl_Category_isCondition at hM
  refine tr_start (ks := [0, 2, 4, 6]) (st' := [(0, .d (.pt (eXCategory.b a0) 0)), (2, .d (.pt (eXQuery.b a1) 0)), (4, .d (.agg (eXTerm.b a2))), (6, .d (.agg (eXTerm.b a3)))]) (by kernel_rfl) ?_
  refine tr_sr hT hm [] [0, 2, 12, 14, 2013, 2015] [(0, .d (.pt (eXCategory.b a0) 0)), (2, .d (.pt (eXQuery.b a1) 0)), (12, .d (.rp 1006 0)), (14, .d (.rp 1007 0)), bxB 2013 (eXTerm.b a2), bxB 2015 (eXTerm.b a3)] .nil (by kernel_rfl) (by kernel_rfl) ?_
  obtain ⟨v1, hv1, hM⟩ := bind_some' hM
  rcases Bool.eq_false_or_eq_true v1 with h2 | h2
  · have hM := ite_true' hM h2
    obtain ⟨v3, hv3, hM⟩ := bind_some' hM
    rcases Bool.eq_false_or_eq_true v3 with h4 | h4
    · have hM := ite_true' hM h4
      obtain ⟨y5, hy5, hM⟩ := bind_some' hM
      have hy5' := idx_some hy5
      obtain ⟨y6, hy6, hM⟩ := bind_some' hM
      have hy6' := idx_some hy6
      refine tr_sr hT hm [(3, .call [] [] [.pt (eXCategory.b a0) 0, .pt (eXQuery.b a1) 0, .agg (eXTerm.b a2)] [] (bv v1)), (4, .val (bv true)), (8, .call [] [] [.pt (eXCategory.b a0) 0, .pt (eXQuery.b a1) 0, .agg (eXTerm.b a3)] [] (bv v3)), (10, .val (bv true)), (18, .val (iv y5)), (26, .val (iv y6))] [16] [(16, .d (bv (y5 == y6)))] (cc0 ok85 (impl_Category_isTerm_c a0 a1 a2 _ hv1) (by kernel_rfl) (.cons (congrArg (fun b => bv b) h2) (cc0 ok85 (impl_Category_isTerm_c a0 a1 a3 _ hv3) (by kernel_rfl) (.cons (congrArg (fun b => bv b) h4) (.cons hy5'.1 (.cons hy5'.2.1 (.cons (at_b0 eI_ok hy5'.2.2 (d := iv y5) (by kernel_rfl)) (.cons hy6'.1 (.cons hy6'.2.1 (.cons (at_b0 eI_ok hy6'.2.2 (d := iv y6) (by kernel_rfl)) .nil)))))))))) (by kernel_rfl) (by kernel_rfl) ?_
      refine tr_ret (rg_r ?_)
      obtain rfl := Option.some.inj hM
      exact retg (names := []) .nil (by kernel_rfl)
    · have hM := ite_false' hM h4
      refine tr_sr hT hm [(3, .call [] [] [.pt (eXCategory.b a0) 0, .pt (eXQuery.b a1) 0, .agg (eXTerm.b a2)] [] (bv v1)), (4, .val (bv true)), (8, .call [] [] [.pt (eXCategory.b a0) 0, .pt (eXQuery.b a1) 0, .agg (eXTerm.b a3)] [] (bv v3)), (10, .val (bv false))] [16] [(16, .d (bv false))] (cc0 ok85 (impl_Category_isTerm_c a0 a1 a2 _ hv1) (by kernel_rfl) (.cons (congrArg (fun b => bv b) h2) (cc0 ok85 (impl_Category_isTerm_c a0 a1 a3 _ hv3) (by kernel_rfl) (.cons (congrArg (fun b => bv b) h4) .nil)))) (by kernel_rfl) (by kernel_rfl) ?_
      refine tr_ret (rg_r ?_)
      obtain rfl := Option.some.inj hM
      exact retg (names := []) .nil (by kernel_rfl)
  · have hM := ite_false' hM h2
    refine tr_sr hT hm [(3, .call [] [] [.pt (eXCategory.b a0) 0, .pt (eXQuery.b a1) 0, .agg (eXTerm.b a2)] [] (bv v1)), (4, .val (bv false))] [16] [(16, .d (bv false))] (cc0 ok85 (impl_Category_isTerm_c a0 a1 a2 _ hv1) (by kernel_rfl) (.cons (congrArg (fun b => bv b) h2) .nil)) (by kernel_rfl) (by kernel_rfl) ?_
    refine tr_ret (rg_r ?_)
    obtain rfl := Option.some.inj hM
    exact retg (names := []) .nil (by kernel_rfl)

end Go.Proofs.Ythafadgnjkmfkaa.WzI
