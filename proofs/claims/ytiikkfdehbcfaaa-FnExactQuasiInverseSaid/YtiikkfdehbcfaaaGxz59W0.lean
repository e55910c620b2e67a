/- Walks. Printed by wip/gen. -/
import Derived.Test.YtiikkfdehbcfaaaGxz59W
namespace Go.Proofs.Ytiikkfdehbcfaaa.Wz59
open Go.Gx Go.Proofs.Ytiikkfdehbcfaaa.WvB Go.Proofs.Ytiikkfdehbcfaaa.WyN Go.Proofs.Ytiikkfdehbcfaaa.WzV Go.Proofs.Ytiikkfdehbcfaaa.WzA Go.Proofs.Ytiikkfdehbcfaaa.WvH Go.Proofs.Ytiikkfdehbcfaaa.WzS Go.Proofs.Ytiikkfdehbcfaaa.WzP

theorem ok241 : CallOk Try.prog 241 := callOk_of Try.func241 (by kernel_rfl) (by kernel_rfl)
theorem spec_l06Full_c (a0 : XFunctor) (r : Bool) (hM : M.spec_l06Full a0 = some r) :
    FnC Try.prog 241 [] [.agg (eXFunctor.b a0)] [] (bv r) := by
  refine fnc_startG (N := 56) (np := 500) hT Try.func241 rfl rfl (by kernel_rfl) ?_
  unfold M.spec_l06Full at hM
  refine tr_start (ks := [0]) (st' := [(0, .d (.agg (eXFunctor.b a0)))]) (by kernel_rfl) ?_
  refine tr_sr hT hm [] [2, 2003] [(2, .d (.rp 1001 0)), bxB 2003 (eXFunctor.b a0)] .nil (by kernel_rfl) (by kernel_rfl) ?_
  refine tr_seq ?_
  refine tr_sr hT hm [] [2, 6, 2003] [(2, .d (.rp 1001 0)), (6, .d (iv 0)), bxB 2003 (eXFunctor.b a0)] .nil (by kernel_rfl) (by kernel_rfl) ?_
  refine tr_block ?_
  refine tr_iterS (fun (s1 : Int) => [(2, .d (.rp 1001 0)), (6, .d (iv s1)), bxB 2003 (eXFunctor.b a0)]) 0 [2, 6, 2003] (by kernel_rfl) hM ?_
  intro n4 next2 ih3 s1 hM
  refine tr_seq ?_
  refine tr_sr hT hm [] [2, 6, 24, 2003] [(2, .d (.rp 1001 0)), (6, .d (iv s1)), (24, .d (bv (decide (s1 < a0.Source.Objects)))), bxB 2003 (eXFunctor.b a0)] .nil (by kernel_rfl) (by kernel_rfl) ?_
  rcases Bool.eq_false_or_eq_true (decide (s1 < a0.Source.Objects)) with h5 | h5
  · have hM := ite_true' hM h5
    refine tr_condTe (e := decide (s1 < a0.Source.Objects)) h5 (by kernel_rfl) ?_
    refine tr_skip (q_n ?_)
    refine tr_seq ?_
    refine tr_block ?_
    refine tr_sr hT hm [] [2, 6, 8, 2003] [(2, .d (.rp 1001 0)), (6, .d (iv s1)), (8, .d (iv 0)), bxB 2003 (eXFunctor.b a0)] .nil (by kernel_rfl) (by kernel_rfl) ?_
    refine tr_block ?_
    refine tr_iterS (fun (s6 : Int) => [(2, .d (.rp 1001 0)), (6, .d (iv s1)), (8, .d (iv s6)), bxB 2003 (eXFunctor.b a0)]) 0 [2, 6, 8, 2003] (by kernel_rfl) hM ?_
    intro n9 next7 ih8 s6 hM
    refine tr_seq ?_
    refine tr_sr hT hm [] [2, 6, 8, 38, 2003] [(2, .d (.rp 1001 0)), (6, .d (iv s1)), (8, .d (iv s6)), (38, .d (bv (decide (s6 < a0.Source.Objects)))), bxB 2003 (eXFunctor.b a0)] .nil (by kernel_rfl) (by kernel_rfl) ?_
    rcases Bool.eq_false_or_eq_true (decide (s6 < a0.Source.Objects)) with h10 | h10
    · have hM := ite_true' hM h10
      refine tr_condTe (e := decide (s6 < a0.Source.Objects)) h10 (by kernel_rfl) ?_
      refine tr_skip (q_n ?_)
      refine tr_seq ?_
      refine tr_block ?_
      obtain ⟨v11, hv11, hM⟩ := bind_some' hM
      obtain ⟨v12, hv12, hM⟩ := bind_some' hM
      refine tr_sr hT hm [(4, .call [] [] [.agg (eXCategory.b a0.Source), iv s1, iv s6] [] (.fr 1 v11.length (v11.flatMap eI.o))), (7, .call [28000] [] [.sl v11.length 0 (v11.flatMap eI.b), .sl a0.Arrows.length 0 (a0.Arrows.flatMap eI.b)] [] (.fr 1 v12.length (v12.flatMap eI.o)))] [2, 6, 8, 10, 2003, 62001] [(2, .d (.rp 1001 0)), (6, .d (iv s1)), (8, .d (iv s6)), (10, .d (.rs 31000 0 v12.length)), bxB 2003 (eXFunctor.b a0), (62001, .r (.arr 1 (v12.flatMap eI.o) []))] (cc0 ok192 (spec_l02Hom_c a0.Source s1 s6 _ hv11) (by kernel_rfl) (cc (B := [28000]) (ρ := []) (rB := [(28000, .arr 1 (v11.flatMap eI.o) [])]) ok279 (spec_l01Then_c v11 a0.Arrows _ hv12) (.cons (.of1 (.rs (r := 28000) (sz := 1) (refs := []) (memB (by kernel_rfl)) (by kernel_rfl) (bor_flat eI_ok _ _ _))) (.cons (.same rfl) .nil)) (.inr ⟨(.fr (nb_flat eI_nb _)), trivial⟩) .nil)) (by kernel_rfl) (by kernel_rfl) ?_
      obtain ⟨y13, hy13, hM⟩ := bind_some' hM
      have hy13' := idx_some hy13
      obtain ⟨y14, hy14, hM⟩ := bind_some' hM
      have hy14' := idx_some hy14
      obtain ⟨v15, hv15, hM⟩ := bind_some' hM
      refine tr_sr hT hm [(6, .val (iv y13)), (11, .val (iv y14)), (12, .call [] [] [.agg (eXCategory.b a0.Target), iv y13, iv y14] [] (.fr 1 v15.length (v15.flatMap eI.o)))] [2, 6, 8, 10, 12, 2003, 62001, 88001] [(2, .d (.rp 1001 0)), (6, .d (iv s1)), (8, .d (iv s6)), (10, .d (.rs 31000 0 v12.length)), (12, .d (.rs 44000 0 v15.length)), bxB 2003 (eXFunctor.b a0), (62001, .r (.arr 1 (v12.flatMap eI.o) [])), (88001, .r (.arr 1 (v15.flatMap eI.o) []))] (.cons hy13'.1 (.cons hy13'.2.1 (.cons (at_b0 eI_ok hy13'.2.2 (d := iv y13) (by kernel_rfl)) (.cons hy14'.1 (.cons hy14'.2.1 (.cons (at_b0 eI_ok hy14'.2.2 (d := iv y14) (by kernel_rfl)) (cc0 ok192 (spec_l02Hom_c a0.Target y13 y14 _ hv15) (by kernel_rfl) .nil))))))) (by kernel_rfl) (by kernel_rfl) ?_
      refine tr_sr hT hm [] [2, 6, 8, 10, 12, 14, 2003, 62001, 88001] [(2, .d (.rp 1001 0)), (6, .d (iv s1)), (8, .d (iv s6)), (10, .d (.rs 31000 0 v12.length)), (12, .d (.rs 44000 0 v15.length)), (14, .d (iv 0)), bxB 2003 (eXFunctor.b a0), (62001, .r (.arr 1 (v12.flatMap eI.o) [])), (88001, .r (.arr 1 (v15.flatMap eI.o) []))] .nil (by kernel_rfl) (by kernel_rfl) ?_
      refine tr_block ?_
      refine tr_iterS (fun (s16 : Int) => [(2, .d (.rp 1001 0)), (6, .d (iv s1)), (8, .d (iv s6)), (10, .d (.rs 31000 0 v12.length)), (12, .d (.rs 44000 0 v15.length)), (14, .d (iv s16)), bxB 2003 (eXFunctor.b a0), (62001, .r (.arr 1 (v12.flatMap eI.o) [])), (88001, .r (.arr 1 (v15.flatMap eI.o) []))]) 0 [2, 6, 8, 10, 12, 14, 2003, 62001, 88001] (by kernel_rfl) hM ?_
      intro n19 next17 ih18 s16 hM
      refine tr_seq ?_
      refine tr_sr hT hm [] [2, 6, 8, 10, 12, 14, 92, 2003, 62001, 88001] [(2, .d (.rp 1001 0)), (6, .d (iv s1)), (8, .d (iv s6)), (10, .d (.rs 31000 0 v12.length)), (12, .d (.rs 44000 0 v15.length)), (14, .d (iv s16)), (92, .d (bv (decide (s16 < (v15.length : Int))))), bxB 2003 (eXFunctor.b a0), (62001, .r (.arr 1 (v12.flatMap eI.o) [])), (88001, .r (.arr 1 (v15.flatMap eI.o) []))] .nil (by kernel_rfl) (by kernel_rfl) ?_
      rcases Bool.eq_false_or_eq_true (decide (s16 < (v15.length : Int))) with h20 | h20
      · have hM := ite_true' hM h20
        refine tr_condTe (e := decide (s16 < (v15.length : Int))) h20 (by kernel_rfl) ?_
        refine tr_skip (q_n ?_)
        refine tr_seq ?_
        refine tr_block ?_
        obtain ⟨y21, hy21, hM⟩ := bind_some' hM
        have hy21' := idx_some hy21
        obtain ⟨v22, hv22, hM⟩ := bind_some' hM
        refine tr_sr hT hm [(4, .val (iv y21)), (5, .call [31000] [] [.sl v12.length 0 (v12.flatMap eI.b), iv y21] [] (bv v22))] [2, 6, 8, 10, 12, 14, 110, 2003, 62001, 88001] [(2, .d (.rp 1001 0)), (6, .d (iv s1)), (8, .d (iv s6)), (10, .d (.rs 31000 0 v12.length)), (12, .d (.rs 44000 0 v15.length)), (14, .d (iv s16)), (110, .d (bv (!v22))), bxB 2003 (eXFunctor.b a0), (62001, .r (.arr 1 (v12.flatMap eI.o) [])), (88001, .r (.arr 1 (v15.flatMap eI.o) []))] (.cons hy21'.1 (.cons hy21'.2.1 (.cons (at_o0 eI_ok hy21'.2.2 (d := iv y21) (by kernel_rfl)) (cc (B := [31000]) (ρ := []) (rB := [(31000, .arr 1 (v12.flatMap eI.o) [])]) ok101 (spec_l01Has_c v12 y21 _ hv22) (.cons (.of1 (.rs (r := 31000) (sz := 1) (refs := []) (memB (by kernel_rfl)) (by kernel_rfl) (bor_flat eI_ok _ _ _))) (.cons (.same rfl) .nil)) (.inr ⟨.v, trivial⟩) .nil)))) (by kernel_rfl) (by kernel_rfl) ?_
        rcases Bool.eq_false_or_eq_true v22 with h23 | h23
        · have hM := ite_true' hM h23
          refine tr_condFe (e := !v22) (congrArg not h23) (by kernel_rfl) ?_
          refine tr_skip (b_n (q_n ?_))
          refine tr_r hT hm [] [2, 6, 8, 10, 12, 14, 2003, 62001, 88001] [(2, .d (.rp 1001 0)), (6, .d (iv s1)), (8, .d (iv s6)), (10, .d (.rs 31000 0 v12.length)), (12, .d (.rs 44000 0 v15.length)), (14, .d (iv (IntKind.i64.wrap (s16 + 1)))), bxB 2003 (eXFunctor.b a0), (62001, .r (.arr 1 (v12.flatMap eI.o) [])), (88001, .r (.arr 1 (v15.flatMap eI.o) []))] .nil (by kernel_rfl) (by kernel_rfl) (l_n ?_)
          exact trl_start (ks := [2, 6, 8, 10, 12, 14, 2003, 62001, 88001]) (by kernel_rfl) (ih18 (IntKind.i64.wrap (s16 + 1)) hM)
        · have hM := ite_false' hM h23
          refine tr_condTe (e := !v22) (congrArg not h23) (by kernel_rfl) ?_
          refine tr_sr hT hm [] [4] [(4, .d (bv false))] .nil (by kernel_rfl) (by kernel_rfl) ?_
          refine tr_ret (b_r (q_r (l_r (b_r (b_r (q_r (l_r (b_r (b_r (q_r (l_r (b_r (q_r (rg_r ?_))))))))))))))
          obtain rfl := Option.some.inj hM
          exact retg (names := []) .nil (by kernel_rfl)
      · have hM := ite_false' hM h20
        refine tr_condFe (e := decide (s16 < (v15.length : Int))) h20 (by kernel_rfl) ?_
        refine tr_exit (q_x (l_x (b_h (b_n (q_n ?_)))))
        refine tr_r hT hm [] [2, 6, 8, 2003] [(2, .d (.rp 1001 0)), (6, .d (iv s1)), (8, .d (iv (IntKind.i64.wrap (s6 + 1)))), bxB 2003 (eXFunctor.b a0)] .nil (by kernel_rfl) (by kernel_rfl) (l_n ?_)
        exact trl_start (ks := [2, 6, 8, 2003]) (by kernel_rfl) (ih8 (IntKind.i64.wrap (s6 + 1)) hM)
    · have hM := ite_false' hM h10
      refine tr_condFe (e := decide (s6 < a0.Source.Objects)) h10 (by kernel_rfl) ?_
      refine tr_exit (q_x (l_x (b_h (b_n (q_n ?_)))))
      refine tr_r hT hm [] [2, 6, 2003] [(2, .d (.rp 1001 0)), (6, .d (iv (IntKind.i64.wrap (s1 + 1)))), bxB 2003 (eXFunctor.b a0)] .nil (by kernel_rfl) (by kernel_rfl) (l_n ?_)
      exact trl_start (ks := [2, 6, 2003]) (by kernel_rfl) (ih3 (IntKind.i64.wrap (s1 + 1)) hM)
  · have hM := ite_false' hM h5
    refine tr_condFe (e := decide (s1 < a0.Source.Objects)) h5 (by kernel_rfl) ?_
    refine tr_exit (q_x (l_x (b_h (q_n ?_))))
    refine tr_sr hT hm [] [4] [(4, .d (bv true))] .nil (by kernel_rfl) (by kernel_rfl) ?_
    refine tr_ret (rg_r ?_)
    obtain rfl := Option.some.inj hM
    exact retg (names := []) .nil (by kernel_rfl)

theorem ok242 : CallOk Try.prog 242 := callOk_of Try.func242 (by kernel_rfl) (by kernel_rfl)
theorem spec_l06Faithful_c (a0 : XFunctor) (r : Bool) (hM : M.spec_l06Faithful a0 = some r) :
    FnC Try.prog 242 [] [.agg (eXFunctor.b a0)] [] (bv r) := by
  refine fnc_startG (N := 35) (np := 500) hT Try.func242 rfl rfl (by kernel_rfl) ?_
  unfold M.spec_l06Faithful at hM
  refine tr_start (ks := [0]) (st' := [(0, .d (.agg (eXFunctor.b a0)))]) (by kernel_rfl) ?_
  refine tr_sr hT hm [] [2, 2003] [(2, .d (.rp 1001 0)), bxB 2003 (eXFunctor.b a0)] .nil (by kernel_rfl) (by kernel_rfl) ?_
  refine tr_seq ?_
  refine tr_sr hT hm [] [2, 6, 2003] [(2, .d (.rp 1001 0)), (6, .d (iv 0)), bxB 2003 (eXFunctor.b a0)] .nil (by kernel_rfl) (by kernel_rfl) ?_
  refine tr_block ?_
  refine tr_iterS (fun (s1 : Int) => [(2, .d (.rp 1001 0)), (6, .d (iv s1)), bxB 2003 (eXFunctor.b a0)]) 0 [2, 6, 2003] (by kernel_rfl) hM ?_
  intro n4 next2 ih3 s1 hM
  refine tr_seq ?_
  refine tr_sr hT hm [] [2, 6, 18, 2003] [(2, .d (.rp 1001 0)), (6, .d (iv s1)), (18, .d (bv (decide (s1 < (a0.Arrows.length : Int))))), bxB 2003 (eXFunctor.b a0)] .nil (by kernel_rfl) (by kernel_rfl) ?_
  rcases Bool.eq_false_or_eq_true (decide (s1 < (a0.Arrows.length : Int))) with h5 | h5
  · have hM := ite_true' hM h5
    refine tr_condTe (e := decide (s1 < (a0.Arrows.length : Int))) h5 (by kernel_rfl) ?_
    refine tr_skip (q_n ?_)
    refine tr_seq ?_
    refine tr_block ?_
    refine tr_sr hT hm [] [2, 6, 8, 2003] [(2, .d (.rp 1001 0)), (6, .d (iv s1)), (8, .d (iv 0)), bxB 2003 (eXFunctor.b a0)] .nil (by kernel_rfl) (by kernel_rfl) ?_
    refine tr_block ?_
    refine tr_iterS (fun (s6 : Int) => [(2, .d (.rp 1001 0)), (6, .d (iv s1)), (8, .d (iv s6)), bxB 2003 (eXFunctor.b a0)]) 0 [2, 6, 8, 2003] (by kernel_rfl) hM ?_
    intro n9 next7 ih8 s6 hM
    refine tr_seq ?_
    refine tr_sr hT hm [] [2, 6, 8, 28, 2003] [(2, .d (.rp 1001 0)), (6, .d (iv s1)), (8, .d (iv s6)), (28, .d (bv (decide (s6 < s1)))), bxB 2003 (eXFunctor.b a0)] .nil (by kernel_rfl) (by kernel_rfl) ?_
    rcases Bool.eq_false_or_eq_true (decide (s6 < s1)) with h10 | h10
    · have hM := ite_true' hM h10
      refine tr_condTe (e := decide (s6 < s1)) h10 (by kernel_rfl) ?_
      refine tr_skip (q_n ?_)
      refine tr_seq ?_
      refine tr_block ?_
      obtain ⟨v11, hv11, hM⟩ := bind_some' hM
      rcases Bool.eq_false_or_eq_true v11 with h12 | h12
      · have hM := ite_true' hM h12
        obtain ⟨y13, hy13, hM⟩ := bind_some' hM
        have hy13' := idx_some hy13
        obtain ⟨y14, hy14, hM⟩ := bind_some' hM
        have hy14' := idx_some hy14
        refine tr_sr hT hm [(4, .call [] [] [.agg (eXCategory.b a0.Source), iv s1, iv s6] [] (bv v11)), (5, .val (bv true)), (10, .val (iv y13)), (15, .val (iv y14))] [2, 6, 8, 68, 2003] [(2, .d (.rp 1001 0)), (6, .d (iv s1)), (8, .d (iv s6)), (68, .d (bv (y13 == y14))), bxB 2003 (eXFunctor.b a0)] (cc0 ok265 (spec_l03Parallel_c a0.Source s1 s6 _ hv11) (by kernel_rfl) (.cons (congrArg (fun b => bv b) h12) (.cons hy13'.1 (.cons hy13'.2.1 (.cons (at_b0 eI_ok hy13'.2.2 (d := iv y13) (by kernel_rfl)) (.cons hy14'.1 (.cons hy14'.2.1 (.cons (at_b0 eI_ok hy14'.2.2 (d := iv y14) (by kernel_rfl)) .nil)))))))) (by kernel_rfl) (by kernel_rfl) ?_
        rcases Bool.eq_false_or_eq_true (y13 == y14) with h15 | h15
        · have hM := ite_true' hM h15
          refine tr_condTe (e := y13 == y14) h15 (by kernel_rfl) ?_
          refine tr_sr hT hm [] [4] [(4, .d (bv false))] .nil (by kernel_rfl) (by kernel_rfl) ?_
          refine tr_ret (b_r (q_r (l_r (b_r (b_r (q_r (l_r (b_r (q_r (rg_r ?_))))))))))
          obtain rfl := Option.some.inj hM
          exact retg (names := []) .nil (by kernel_rfl)
        · have hM := ite_false' hM h15
          refine tr_condFe (e := y13 == y14) h15 (by kernel_rfl) ?_
          refine tr_skip (b_n (q_n ?_))
          refine tr_r hT hm [] [2, 6, 8, 2003] [(2, .d (.rp 1001 0)), (6, .d (iv s1)), (8, .d (iv (IntKind.i64.wrap (s6 + 1)))), bxB 2003 (eXFunctor.b a0)] .nil (by kernel_rfl) (by kernel_rfl) (l_n ?_)
          exact trl_start (ks := [2, 6, 8, 2003]) (by kernel_rfl) (ih8 (IntKind.i64.wrap (s6 + 1)) hM)
      · have hM := ite_false' hM h12
        refine tr_sr hT hm [(4, .call [] [] [.agg (eXCategory.b a0.Source), iv s1, iv s6] [] (bv v11)), (5, .val (bv false))] [2, 6, 8, 68, 2003] [(2, .d (.rp 1001 0)), (6, .d (iv s1)), (8, .d (iv s6)), (68, .d (bv false)), bxB 2003 (eXFunctor.b a0)] (cc0 ok265 (spec_l03Parallel_c a0.Source s1 s6 _ hv11) (by kernel_rfl) (.cons (congrArg (fun b => bv b) h12) .nil)) (by kernel_rfl) (by kernel_rfl) ?_
        refine tr_condF (by kernel_rfl) ?_
        refine tr_skip (b_n (q_n ?_))
        refine tr_r hT hm [] [2, 6, 8, 2003] [(2, .d (.rp 1001 0)), (6, .d (iv s1)), (8, .d (iv (IntKind.i64.wrap (s6 + 1)))), bxB 2003 (eXFunctor.b a0)] .nil (by kernel_rfl) (by kernel_rfl) (l_n ?_)
        exact trl_start (ks := [2, 6, 8, 2003]) (by kernel_rfl) (ih8 (IntKind.i64.wrap (s6 + 1)) hM)
    · have hM := ite_false' hM h10
      refine tr_condFe (e := decide (s6 < s1)) h10 (by kernel_rfl) ?_
      refine tr_exit (q_x (l_x (b_h (b_n (q_n ?_)))))
      refine tr_r hT hm [] [2, 6, 2003] [(2, .d (.rp 1001 0)), (6, .d (iv (IntKind.i64.wrap (s1 + 1)))), bxB 2003 (eXFunctor.b a0)] .nil (by kernel_rfl) (by kernel_rfl) (l_n ?_)
      exact trl_start (ks := [2, 6, 2003]) (by kernel_rfl) (ih3 (IntKind.i64.wrap (s1 + 1)) hM)
  · have hM := ite_false' hM h5
    refine tr_condFe (e := decide (s1 < (a0.Arrows.length : Int))) h5 (by kernel_rfl) ?_
    refine tr_exit (q_x (l_x (b_h (q_n ?_))))
    refine tr_sr hT hm [] [4] [(4, .d (bv true))] .nil (by kernel_rfl) (by kernel_rfl) ?_
    refine tr_ret (rg_r ?_)
    obtain rfl := Option.some.inj hM
    exact retg (names := []) .nil (by kernel_rfl)

theorem ok243 : CallOk Try.prog 243 := callOk_of Try.func243 (by kernel_rfl) (by kernel_rfl)
theorem spec_l06Surjective_c (a0 : XFunctor) (r : Bool) (hM : M.spec_l06Surjective a0 = some r) :
    FnC Try.prog 243 [] [.agg (eXFunctor.b a0)] [] (bv r) := by
  refine fnc_startG (N := 34) (np := 500) hT Try.func243 rfl rfl (by kernel_rfl) ?_
  unfold M.spec_l06Surjective at hM
  refine tr_start (ks := [0]) (st' := [(0, .d (.agg (eXFunctor.b a0)))]) (by kernel_rfl) ?_
  refine tr_sr hT hm [] [2, 2003] [(2, .d (.rp 1001 0)), bxB 2003 (eXFunctor.b a0)] .nil (by kernel_rfl) (by kernel_rfl) ?_
  refine tr_seq ?_
  refine tr_sr hT hm [] [2, 6, 2003] [(2, .d (.rp 1001 0)), (6, .d (iv 0)), bxB 2003 (eXFunctor.b a0)] .nil (by kernel_rfl) (by kernel_rfl) ?_
  refine tr_block ?_
  refine tr_iterS (fun (s1 : Int) => [(2, .d (.rp 1001 0)), (6, .d (iv s1)), bxB 2003 (eXFunctor.b a0)]) 0 [2, 6, 2003] (by kernel_rfl) hM ?_
  intro n4 next2 ih3 s1 hM
  refine tr_seq ?_
  refine tr_sr hT hm [] [2, 6, 20, 2003] [(2, .d (.rp 1001 0)), (6, .d (iv s1)), (20, .d (bv (decide (s1 < a0.Target.Objects)))), bxB 2003 (eXFunctor.b a0)] .nil (by kernel_rfl) (by kernel_rfl) ?_
  rcases Bool.eq_false_or_eq_true (decide (s1 < a0.Target.Objects)) with h5 | h5
  · have hM := ite_true' hM h5
    refine tr_condTe (e := decide (s1 < a0.Target.Objects)) h5 (by kernel_rfl) ?_
    refine tr_skip (q_n ?_)
    refine tr_seq ?_
    refine tr_block ?_
    refine tr_sr hT hm [] [2, 6, 8, 2003] [(2, .d (.rp 1001 0)), (6, .d (iv s1)), (8, .d (bv false)), bxB 2003 (eXFunctor.b a0)] .nil (by kernel_rfl) (by kernel_rfl) ?_
    refine tr_seq ?_
    refine tr_sr hT hm [] [2, 6, 8, 10, 2003] [(2, .d (.rp 1001 0)), (6, .d (iv s1)), (8, .d (bv false)), (10, .d (iv 0)), bxB 2003 (eXFunctor.b a0)] .nil (by kernel_rfl) (by kernel_rfl) ?_
    refine tr_block ?_
    refine tr_iterS (fun (s6 : Bool × Int) => [(2, .d (.rp 1001 0)), (6, .d (iv s1)), (8, .d (bv s6.1)), (10, .d (iv s6.2)), bxB 2003 (eXFunctor.b a0)]) (false, 0) [2, 6, 8, 10, 2003] (by kernel_rfl) hM ?_
    intro n9 next7 ih8 s6 hM
    refine tr_seq ?_
    refine tr_sr hT hm [] [2, 6, 8, 10, 34, 2003] [(2, .d (.rp 1001 0)), (6, .d (iv s1)), (8, .d (bv s6.1)), (10, .d (iv s6.2)), (34, .d (bv (decide (s6.2 < (a0.Objects.length : Int))))), bxB 2003 (eXFunctor.b a0)] .nil (by kernel_rfl) (by kernel_rfl) ?_
    rcases Bool.eq_false_or_eq_true (decide (s6.2 < (a0.Objects.length : Int))) with h10 | h10
    · have hM := ite_true' hM h10
      refine tr_condTe (e := decide (s6.2 < (a0.Objects.length : Int))) h10 (by kernel_rfl) ?_
      refine tr_skip (q_n ?_)
      refine tr_seq ?_
      refine tr_block ?_
      rcases Bool.eq_false_or_eq_true s6.1 with h11 | h11
      · have hM := ite_true' hM h11
        refine tr_r hT hm [(1, .val (bv true))] [2, 6, 8, 10, 2003] [(2, .d (.rp 1001 0)), (6, .d (iv s1)), (8, .d (bv true)), (10, .d (iv s6.2)), bxB 2003 (eXFunctor.b a0)] (.cons (congrArg (fun b => bv b) h11) .nil) (by kernel_rfl) (by kernel_rfl) (b_n (q_n ?_))
        refine tr_r hT hm [] [2, 6, 8, 10, 2003] [(2, .d (.rp 1001 0)), (6, .d (iv s1)), (8, .d (bv true)), (10, .d (iv (IntKind.i64.wrap (s6.2 + 1)))), bxB 2003 (eXFunctor.b a0)] .nil (by kernel_rfl) (by kernel_rfl) (l_n ?_)
        exact trl_start (ks := [2, 6, 8, 10, 2003]) (by kernel_rfl) (ih8 (true, IntKind.i64.wrap (s6.2 + 1)) hM)
      · have hM := ite_false' hM h11
        obtain ⟨y12, hy12, hM⟩ := bind_some' hM
        have hy12' := idx_some hy12
        obtain ⟨v13, hv13, hM⟩ := bind_some' hM
        refine tr_r hT hm [(1, .val (bv false)), (8, .val (iv y12)), (10, .call [] [] [.agg (eXCategory.b a0.Target), iv y12, iv s1] [] (bv v13))] [2, 6, 8, 10, 2003] [(2, .d (.rp 1001 0)), (6, .d (iv s1)), (8, .d (bv v13)), (10, .d (iv s6.2)), bxB 2003 (eXFunctor.b a0)] (.cons (congrArg (fun b => bv b) h11) (.cons hy12'.1 (.cons hy12'.2.1 (.cons (at_b0 eI_ok hy12'.2.2 (d := iv y12) (by kernel_rfl)) (cc0 ok258 (spec_l06Alike_c a0.Target y12 s1 _ hv13) (by kernel_rfl) .nil))))) (by kernel_rfl) (by kernel_rfl) (b_n (q_n ?_))
        refine tr_r hT hm [] [2, 6, 8, 10, 2003] [(2, .d (.rp 1001 0)), (6, .d (iv s1)), (8, .d (bv v13)), (10, .d (iv (IntKind.i64.wrap (s6.2 + 1)))), bxB 2003 (eXFunctor.b a0)] .nil (by kernel_rfl) (by kernel_rfl) (l_n ?_)
        exact trl_start (ks := [2, 6, 8, 10, 2003]) (by kernel_rfl) (ih8 (v13, IntKind.i64.wrap (s6.2 + 1)) hM)
    · have hM := ite_false' hM h10
      refine tr_condFe (e := decide (s6.2 < (a0.Objects.length : Int))) h10 (by kernel_rfl) ?_
      refine tr_exit (q_x (l_x (b_h (q_n ?_))))
      refine tr_sr hT hm [] [2, 6, 66, 2003] [(2, .d (.rp 1001 0)), (6, .d (iv s1)), (66, .d (bv (!s6.1))), bxB 2003 (eXFunctor.b a0)] .nil (by kernel_rfl) (by kernel_rfl) ?_
      rcases Bool.eq_false_or_eq_true s6.1 with h14 | h14
      · have hM := ite_true' hM h14
        refine tr_condFe (e := !s6.1) (congrArg not h14) (by kernel_rfl) ?_
        refine tr_skip (b_n (q_n ?_))
        refine tr_r hT hm [] [2, 6, 2003] [(2, .d (.rp 1001 0)), (6, .d (iv (IntKind.i64.wrap (s1 + 1)))), bxB 2003 (eXFunctor.b a0)] .nil (by kernel_rfl) (by kernel_rfl) (l_n ?_)
        exact trl_start (ks := [2, 6, 2003]) (by kernel_rfl) (ih3 (IntKind.i64.wrap (s1 + 1)) hM)
      · have hM := ite_false' hM h14
        refine tr_condTe (e := !s6.1) (congrArg not h14) (by kernel_rfl) ?_
        refine tr_sr hT hm [] [4] [(4, .d (bv false))] .nil (by kernel_rfl) (by kernel_rfl) ?_
        refine tr_ret (b_r (q_r (l_r (b_r (q_r (rg_r ?_))))))
        obtain rfl := Option.some.inj hM
        exact retg (names := []) .nil (by kernel_rfl)
  · have hM := ite_false' hM h5
    refine tr_condFe (e := decide (s1 < a0.Target.Objects)) h5 (by kernel_rfl) ?_
    refine tr_exit (q_x (l_x (b_h (q_n ?_))))
    refine tr_sr hT hm [] [4] [(4, .d (bv true))] .nil (by kernel_rfl) (by kernel_rfl) ?_
    refine tr_ret (rg_r ?_)
    obtain rfl := Option.some.inj hM
    exact retg (names := []) .nil (by kernel_rfl)

theorem ok150 : CallOk Try.prog 150 := callOk_of Try.func150 (by kernel_rfl) (by kernel_rfl)
theorem spec_l11Equivalence_c (a0 : XFunctor) (r : Bool) (hM : M.spec_l11Equivalence a0 = some r) :
    FnC Try.prog 150 [] [.agg (eXFunctor.b a0)] [] (bv r) := by
  refine fnc_startG (N := 13) (np := 500) hT Try.func150 rfl rfl (by kernel_rfl) ?_
  unfold M.spec_l11Equivalence at hM
  refine tr_start (ks := [0]) (st' := [(0, .d (.agg (eXFunctor.b a0)))]) (by kernel_rfl) ?_
  refine tr_sr hT hm [] [2, 2003] [(2, .d (.rp 1001 0)), bxB 2003 (eXFunctor.b a0)] .nil (by kernel_rfl) (by kernel_rfl) ?_
  obtain ⟨v1, hv1, hM⟩ := bind_some' hM
  rcases Bool.eq_false_or_eq_true v1 with h2 | h2
  · have hM := ite_true' hM h2
    obtain ⟨v3, hv3, hM⟩ := bind_some' hM
    rcases Bool.eq_false_or_eq_true v3 with h4 | h4
    · have hM := ite_true' hM h4
      obtain ⟨v5, hv5, hM⟩ := bind_some' hM
      refine tr_sr hT hm [(1, .call [] [] [.agg (eXFunctor.b a0)] [] (bv v1)), (2, .val (bv true)), (4, .call [] [] [.agg (eXFunctor.b a0)] [] (bv v3)), (6, .val (bv true)), (8, .call [] [] [.agg (eXFunctor.b a0)] [] (bv v5))] [4] [(4, .d (bv v5))] (cc0 ok241 (spec_l06Full_c a0 _ hv1) (by kernel_rfl) (.cons (congrArg (fun b => bv b) h2) (cc0 ok242 (spec_l06Faithful_c a0 _ hv3) (by kernel_rfl) (.cons (congrArg (fun b => bv b) h4) (cc0 ok243 (spec_l06Surjective_c a0 _ hv5) (by kernel_rfl) .nil))))) (by kernel_rfl) (by kernel_rfl) ?_
      refine tr_ret (rg_r ?_)
      obtain rfl := Option.some.inj hM
      exact retg (names := []) .nil (by kernel_rfl)
    · have hM := ite_false' hM h4
      refine tr_sr hT hm [(1, .call [] [] [.agg (eXFunctor.b a0)] [] (bv v1)), (2, .val (bv true)), (4, .call [] [] [.agg (eXFunctor.b a0)] [] (bv v3)), (6, .val (bv false))] [4] [(4, .d (bv false))] (cc0 ok241 (spec_l06Full_c a0 _ hv1) (by kernel_rfl) (.cons (congrArg (fun b => bv b) h2) (cc0 ok242 (spec_l06Faithful_c a0 _ hv3) (by kernel_rfl) (.cons (congrArg (fun b => bv b) h4) .nil)))) (by kernel_rfl) (by kernel_rfl) ?_
      refine tr_ret (rg_r ?_)
      obtain rfl := Option.some.inj hM
      exact retg (names := []) .nil (by kernel_rfl)
  · have hM := ite_false' hM h2
    refine tr_sr hT hm [(1, .call [] [] [.agg (eXFunctor.b a0)] [] (bv v1)), (2, .val (bv false))] [4] [(4, .d (bv false))] (cc0 ok241 (spec_l06Full_c a0 _ hv1) (by kernel_rfl) (.cons (congrArg (fun b => bv b) h2) .nil)) (by kernel_rfl) (by kernel_rfl) ?_
    refine tr_ret (rg_r ?_)
    obtain rfl := Option.some.inj hM
    exact retg (names := []) .nil (by kernel_rfl)

theorem ok244 : CallOk Try.prog 244 := callOk_of Try.func244 (by kernel_rfl) (by kernel_rfl)
theorem spec_l11Pair_c (a0 : XFunctor) (a1 : Int) (r : Int × Int) (hM : M.spec_l11Pair a0 a1 = some r) :
    FnC Try.prog 244 [] [.agg (eXFunctor.b a0), iv a1] [] (.tup [iv r.1, iv r.2]) := by
  refine fnc_startG (N := 28) (np := 500) hT Try.func244 rfl rfl (by kernel_rfl) ?_
  unfold M.spec_l11Pair at hM
  refine tr_start (ks := [0, 2]) (st' := [(0, .d (.agg (eXFunctor.b a0))), (2, .d (iv a1))]) (by kernel_rfl) ?_
  refine tr_sr hT hm [] [2, 4, 2005] [(2, .d (iv a1)), (4, .d (.rp 1002 0)), bxB 2005 (eXFunctor.b a0)] .nil (by kernel_rfl) (by kernel_rfl) ?_
  refine tr_seq ?_
  refine tr_sr hT hm [] [2, 4, 12, 2005] [(2, .d (iv a1)), (4, .d (.rp 1002 0)), (12, .d (iv 0)), bxB 2005 (eXFunctor.b a0)] .nil (by kernel_rfl) (by kernel_rfl) ?_
  refine tr_block ?_
  refine tr_iterS (fun (s1 : Int) => [(2, .d (iv a1)), (4, .d (.rp 1002 0)), (12, .d (iv s1)), bxB 2005 (eXFunctor.b a0)]) 0 [2, 4, 12, 2005] (by kernel_rfl) hM ?_
  intro n4 next2 ih3 s1 hM
  refine tr_seq ?_
  refine tr_sr hT hm [] [2, 4, 12, 24, 2005] [(2, .d (iv a1)), (4, .d (.rp 1002 0)), (12, .d (iv s1)), (24, .d (bv (decide (s1 < a0.Source.Objects)))), bxB 2005 (eXFunctor.b a0)] .nil (by kernel_rfl) (by kernel_rfl) ?_
  rcases Bool.eq_false_or_eq_true (decide (s1 < a0.Source.Objects)) with h5 | h5
  · have hM := ite_true' hM h5
    refine tr_condTe (e := decide (s1 < a0.Source.Objects)) h5 (by kernel_rfl) ?_
    refine tr_skip (q_n ?_)
    refine tr_seq ?_
    refine tr_block ?_
    obtain ⟨y6, hy6, hM⟩ := bind_some' hM
    have hy6' := idx_some hy6
    obtain ⟨v7, hv7, hM⟩ := bind_some' hM
    refine tr_sr hT hm [(6, .val (iv y6)), (8, .call [] [] [.agg (eXCategory.b a0.Target), iv y6, iv a1] [] (iv v7))] [2, 4, 12, 14, 2005] [(2, .d (iv a1)), (4, .d (.rp 1002 0)), (12, .d (iv s1)), (14, .d (iv v7)), bxB 2005 (eXFunctor.b a0)] (.cons hy6'.1 (.cons hy6'.2.1 (.cons (at_b0 eI_ok hy6'.2.2 (d := iv y6) (by kernel_rfl)) (cc0 ok191 (spec_l11Least_c a0.Target y6 a1 _ hv7) (by kernel_rfl) .nil)))) (by kernel_rfl) (by kernel_rfl) ?_
    refine tr_sr hT hm [] [2, 4, 12, 14, 50, 2005] [(2, .d (iv a1)), (4, .d (.rp 1002 0)), (12, .d (iv s1)), (14, .d (iv v7)), (50, .d (bv (decide (v7 ≥ 0)))), bxB 2005 (eXFunctor.b a0)] .nil (by kernel_rfl) (by kernel_rfl) ?_
    rcases Bool.eq_false_or_eq_true (decide (v7 ≥ 0)) with h8 | h8
    · have hM := ite_true' hM h8
      refine tr_condTe (e := decide (v7 ≥ 0)) h8 (by kernel_rfl) ?_
      refine tr_sr hT hm [] [8, 10] [(8, .d (iv s1)), (10, .d (iv v7))] .nil (by kernel_rfl) (by kernel_rfl) ?_
      refine tr_ret (b_r (q_r (l_r (b_r (q_r (rg_r ?_))))))
      obtain rfl := Option.some.inj hM
      exact retg (names := []) .nil (by kernel_rfl)
    · have hM := ite_false' hM h8
      refine tr_condFe (e := decide (v7 ≥ 0)) h8 (by kernel_rfl) ?_
      refine tr_skip (b_n (q_n ?_))
      refine tr_r hT hm [] [2, 4, 12, 2005] [(2, .d (iv a1)), (4, .d (.rp 1002 0)), (12, .d (iv (IntKind.i64.wrap (s1 + 1)))), bxB 2005 (eXFunctor.b a0)] .nil (by kernel_rfl) (by kernel_rfl) (l_n ?_)
      exact trl_start (ks := [2, 4, 12, 2005]) (by kernel_rfl) (ih3 (IntKind.i64.wrap (s1 + 1)) hM)
  · have hM := ite_false' hM h5
    refine tr_condFe (e := decide (s1 < a0.Source.Objects)) h5 (by kernel_rfl) ?_
    refine tr_exit (q_x (l_x (b_h (q_n ?_))))
    refine tr_sr hT hm [] [8, 10] [(8, .d (iv (-1))), (10, .d (iv (-1)))] .nil (by kernel_rfl) (by kernel_rfl) ?_
    refine tr_ret (rg_r ?_)
    obtain rfl := Option.some.inj hM
    exact retg (names := []) .nil (by kernel_rfl)

theorem ok245 : CallOk Try.prog 245 := callOk_of Try.func245 (by kernel_rfl) (by kernel_rfl)
theorem spec_l11Before_c (a0 : XFunctor) (a1 : Int) (a2 : Int) (a3 : Int) (r : Int) (hM : M.spec_l11Before a0 a1 a2 a3 = some r) :
    FnC Try.prog 245 [] [.agg (eXFunctor.b a0), iv a1, iv a2, iv a3] [] (iv r) := by
  refine fnc_startG (N := 36) (np := 500) hT Try.func245 rfl rfl (by kernel_rfl) ?_
  unfold M.spec_l11Before at hM
  refine tr_start (ks := [0, 2, 4, 6]) (st' := [(0, .d (.agg (eXFunctor.b a0))), (2, .d (iv a1)), (4, .d (iv a2)), (6, .d (iv a3))]) (by kernel_rfl) ?_
  refine tr_sr hT hm [] [2, 4, 6, 8, 2009] [(2, .d (iv a1)), (4, .d (iv a2)), (6, .d (iv a3)), (8, .d (.rp 1004 0)), bxB 2009 (eXFunctor.b a0)] .nil (by kernel_rfl) (by kernel_rfl) ?_
  obtain ⟨v1, hv1, hM⟩ := bind_some' hM
  refine tr_sr hT hm [(4, .call [] [] [.agg (eXCategory.b a0.Source), iv a1, iv a2] [] (.fr 1 v1.length (v1.flatMap eI.o)))] [6, 8, 18, 2009, 34001] [(6, .d (iv a3)), (8, .d (.rp 1004 0)), (18, .d (.rs 17000 0 v1.length)), bxB 2009 (eXFunctor.b a0), (34001, .r (.arr 1 (v1.flatMap eI.o) []))] (cc0 ok192 (spec_l02Hom_c a0.Source a1 a2 _ hv1) (by kernel_rfl) .nil) (by kernel_rfl) (by kernel_rfl) ?_
  refine tr_seq ?_
  refine tr_sr hT hm [] [6, 8, 18, 20, 2009, 34001] [(6, .d (iv a3)), (8, .d (.rp 1004 0)), (18, .d (.rs 17000 0 v1.length)), (20, .d (iv 0)), bxB 2009 (eXFunctor.b a0), (34001, .r (.arr 1 (v1.flatMap eI.o) []))] .nil (by kernel_rfl) (by kernel_rfl) ?_
  refine tr_block ?_
  refine tr_iterS (fun (s2 : Int) => [(6, .d (iv a3)), (8, .d (.rp 1004 0)), (18, .d (.rs 17000 0 v1.length)), (20, .d (iv s2)), bxB 2009 (eXFunctor.b a0), (34001, .r (.arr 1 (v1.flatMap eI.o) []))]) 0 [6, 8, 18, 20, 2009, 34001] (by kernel_rfl) hM ?_
  intro n5 next3 ih4 s2 hM
  refine tr_seq ?_
  refine tr_sr hT hm [] [6, 8, 18, 20, 38, 2009, 34001] [(6, .d (iv a3)), (8, .d (.rp 1004 0)), (18, .d (.rs 17000 0 v1.length)), (20, .d (iv s2)), (38, .d (bv (decide (s2 < (v1.length : Int))))), bxB 2009 (eXFunctor.b a0), (34001, .r (.arr 1 (v1.flatMap eI.o) []))] .nil (by kernel_rfl) (by kernel_rfl) ?_
  rcases Bool.eq_false_or_eq_true (decide (s2 < (v1.length : Int))) with h6 | h6
  · have hM := ite_true' hM h6
    refine tr_condTe (e := decide (s2 < (v1.length : Int))) h6 (by kernel_rfl) ?_
    refine tr_skip (q_n ?_)
    refine tr_seq ?_
    refine tr_block ?_
    obtain ⟨y7, hy7, hM⟩ := bind_some' hM
    have hy7' := idx_some hy7
    obtain ⟨y8, hy8, hM⟩ := bind_some' hM
    have hy8' := idx_some hy8
    refine tr_sr hT hm [(5, .val (iv y7)), (7, .val (iv y8))] [6, 8, 18, 20, 62, 2009, 34001] [(6, .d (iv a3)), (8, .d (.rp 1004 0)), (18, .d (.rs 17000 0 v1.length)), (20, .d (iv s2)), (62, .d (bv (y8 == a3))), bxB 2009 (eXFunctor.b a0), (34001, .r (.arr 1 (v1.flatMap eI.o) []))] (.cons hy7'.1 (.cons hy7'.2.1 (.cons (at_o0 eI_ok hy7'.2.2 (d := iv y7) (by kernel_rfl)) (.cons hy8'.1 (.cons hy8'.2.1 (.cons (at_b0 eI_ok hy8'.2.2 (d := iv y8) (by kernel_rfl)) .nil)))))) (by kernel_rfl) (by kernel_rfl) ?_
    rcases Bool.eq_false_or_eq_true (y8 == a3) with h9 | h9
    · have hM := ite_true' hM h9
      refine tr_condTe (e := y8 == a3) h9 (by kernel_rfl) ?_
      refine tr_sr hT hm [(3, .val (iv y7))] [16] [(16, .d (iv y7))] (.cons hy7'.1 (.cons hy7'.2.1 (.cons (at_o0 eI_ok hy7'.2.2 (d := iv y7) (by kernel_rfl)) .nil))) (by kernel_rfl) (by kernel_rfl) ?_
      refine tr_ret (b_r (q_r (l_r (b_r (q_r (rg_r ?_))))))
      obtain rfl := Option.some.inj hM
      exact retg (names := []) .nil (by kernel_rfl)
    · have hM := ite_false' hM h9
      refine tr_condFe (e := y8 == a3) h9 (by kernel_rfl) ?_
      refine tr_skip (b_n (q_n ?_))
      refine tr_r hT hm [] [6, 8, 18, 20, 2009, 34001] [(6, .d (iv a3)), (8, .d (.rp 1004 0)), (18, .d (.rs 17000 0 v1.length)), (20, .d (iv (IntKind.i64.wrap (s2 + 1)))), bxB 2009 (eXFunctor.b a0), (34001, .r (.arr 1 (v1.flatMap eI.o) []))] .nil (by kernel_rfl) (by kernel_rfl) (l_n ?_)
      exact trl_start (ks := [6, 8, 18, 20, 2009, 34001]) (by kernel_rfl) (ih4 (IntKind.i64.wrap (s2 + 1)) hM)
  · have hM := ite_false' hM h6
    refine tr_condFe (e := decide (s2 < (v1.length : Int))) h6 (by kernel_rfl) ?_
    refine tr_exit (q_x (l_x (b_h (q_n ?_))))
    refine tr_sr hT hm [] [16] [(16, .d (iv (-1)))] .nil (by kernel_rfl) (by kernel_rfl) ?_
    refine tr_ret (rg_r ?_)
    obtain rfl := Option.some.inj hM
    exact retg (names := []) .nil (by kernel_rfl)

theorem ok151 : CallOk Try.prog 151 := callOk_of Try.func151 (by kernel_rfl) (by kernel_rfl)
theorem spec_l11Quasi_c (a0 : XFunctor) (r : XFunctor × (List Int)) (hM : M.spec_l11Quasi a0 = some r) :
    FnC Try.prog 151 [] [.agg (eXFunctor.b a0)] [] (.tup [.agg (eXFunctor.o r.1), .fr 1 r.2.length (r.2.flatMap eI.o)]) := by
  refine fnc_startG (N := 93) (np := 500) hT Try.func151 rfl rfl (by kernel_rfl) ?_
  unfold M.spec_l11Quasi at hM
  refine tr_start (ks := [0]) (st' := [(0, .d (.agg (eXFunctor.b a0)))]) (by kernel_rfl) ?_
  refine tr_sr hT hm [] [2, 4, 2003, 2005] [(2, .d (.rp 1001 0)), (4, .d (.rp 1002 0)), bxB 2003 (eXFunctor.b a0), (2005, .r (.arr 1 [iv 0, nilv, nilv, nilv, nilv, iv 0, nilv, nilv, nilv, nilv, nilv, nilv] []))] .nil (by kernel_rfl) (by kernel_rfl) ?_
  refine tr_sr hT hm [] [2, 4, 8, 2003, 2005, 2009] [(2, .d (.rp 1001 0)), (4, .d (.rp 1002 0)), (8, .d (.rp 1004 0)), bxB 2003 (eXFunctor.b a0), (2005, .r (.arr 1 [iv 0, nilv, nilv, nilv, nilv, iv 0, nilv, nilv, nilv, nilv, nilv, nilv] [])), bxB 2009 (eXCategory.b a0.Target)] (.cons (Nat.le_of_ble_eq_true (n := 5) (m := 5) rfl) .nil) (by kernel_rfl) (by kernel_rfl) ?_
  refine tr_sr hT hm [] [2, 4, 8, 10, 12, 14, 2003, 2005, 2009, 2035, 2037, 2039] [(2, .d (.rp 1001 0)), (4, .d (.rp 1002 0)), (8, .d (.rp 1004 0)), (10, .d (.rs 1017 0 (([] : List Int).length))), (12, .d (.rs 1018 0 (([] : List Int).length))), (14, .d (.rs 1019 0 (([] : List Int).length))), bxB 2003 (eXFunctor.b a0), (2005, .r (.arr 1 [iv 0, nilv, nilv, nilv, nilv, iv 0, nilv, nilv, nilv, nilv, nilv, nilv] [])), bxB 2009 (eXCategory.b a0.Target), (2035, .r (.arr 1 (([] : List Int).flatMap eI.o) [])), (2037, .r (.arr 1 (([] : List Int).flatMap eI.o) [])), (2039, .r (.arr 1 (([] : List Int).flatMap eI.o) []))] .nil (by kernel_rfl) (by kernel_rfl) ?_
  refine tr_seq ?_
  refine tr_sr hT hm [] [2, 4, 8, 10, 12, 14, 16, 2003, 2005, 2009, 2035, 2037, 2039] [(2, .d (.rp 1001 0)), (4, .d (.rp 1002 0)), (8, .d (.rp 1004 0)), (10, .d (.rs 1017 0 (([] : List Int).length))), (12, .d (.rs 1018 0 (([] : List Int).length))), (14, .d (.rs 1019 0 (([] : List Int).length))), (16, .d (iv 0)), bxB 2003 (eXFunctor.b a0), (2005, .r (.arr 1 [iv 0, nilv, nilv, nilv, nilv, iv 0, nilv, nilv, nilv, nilv, nilv, nilv] [])), bxB 2009 (eXCategory.b a0.Target), (2035, .r (.arr 1 (([] : List Int).flatMap eI.o) [])), (2037, .r (.arr 1 (([] : List Int).flatMap eI.o) [])), (2039, .r (.arr 1 (([] : List Int).flatMap eI.o) []))] .nil (by kernel_rfl) (by kernel_rfl) ?_
  refine tr_block ?_
  refine tr_iterS (fun (s1 : (List Int) × (List Int) × Int) => [(2, .d (.rp 1001 0)), (4, .d (.rp 1002 0)), (8, .d (.rp 1004 0)), (10, .d (.rs 1017 0 s1.1.length)), (12, .d (.rs 1018 0 s1.2.1.length)), (14, .d (.rs 1019 0 (([] : List Int).length))), (16, .d (iv s1.2.2)), bxB 2003 (eXFunctor.b a0), (2005, .r (.arr 1 [iv 0, nilv, nilv, nilv, nilv, iv 0, nilv, nilv, nilv, nilv, nilv, nilv] [])), bxB 2009 (eXCategory.b a0.Target), (2035, .r (.arr 1 (s1.1.flatMap eI.o) [])), (2037, .r (.arr 1 (s1.2.1.flatMap eI.o) [])), (2039, .r (.arr 1 (([] : List Int).flatMap eI.o) []))]) (([] : List Int), ([] : List Int), 0) [2, 4, 8, 10, 12, 14, 16, 2003, 2005, 2009, 2035, 2037, 2039] (by kernel_rfl) hM ?_
  intro n4 next2 ih3 s1 hM
  refine tr_seq ?_
  refine tr_sr hT hm [] [2, 4, 8, 10, 12, 14, 16, 46, 2003, 2005, 2009, 2035, 2037, 2039] [(2, .d (.rp 1001 0)), (4, .d (.rp 1002 0)), (8, .d (.rp 1004 0)), (10, .d (.rs 1017 0 s1.1.length)), (12, .d (.rs 1018 0 s1.2.1.length)), (14, .d (.rs 1019 0 (([] : List Int).length))), (16, .d (iv s1.2.2)), (46, .d (bv (decide (s1.2.2 < a0.Target.Objects)))), bxB 2003 (eXFunctor.b a0), (2005, .r (.arr 1 [iv 0, nilv, nilv, nilv, nilv, iv 0, nilv, nilv, nilv, nilv, nilv, nilv] [])), bxB 2009 (eXCategory.b a0.Target), (2035, .r (.arr 1 (s1.1.flatMap eI.o) [])), (2037, .r (.arr 1 (s1.2.1.flatMap eI.o) [])), (2039, .r (.arr 1 (([] : List Int).flatMap eI.o) []))] .nil (by kernel_rfl) (by kernel_rfl) ?_
  rcases Bool.eq_false_or_eq_true (decide (s1.2.2 < a0.Target.Objects)) with h5 | h5
  · have hM := ite_true' hM h5
    refine tr_condTe (e := decide (s1.2.2 < a0.Target.Objects)) h5 (by kernel_rfl) ?_
    refine tr_skip (q_n ?_)
    refine tr_seq ?_
    refine tr_block ?_
    obtain ⟨v6, hv6, hM⟩ := bind_some' hM
    refine tr_sr hT hm [(2, .call [] [] [.agg (eXFunctor.b a0), iv s1.2.2] [] (.tup [iv v6.1, iv v6.2]))] [2, 4, 8, 10, 12, 14, 16, 18, 20, 2003, 2005, 2009, 2035, 2037, 2039] [(2, .d (.rp 1001 0)), (4, .d (.rp 1002 0)), (8, .d (.rp 1004 0)), (10, .d (.rs 1017 0 s1.1.length)), (12, .d (.rs 1018 0 s1.2.1.length)), (14, .d (.rs 1019 0 (([] : List Int).length))), (16, .d (iv s1.2.2)), (18, .d (iv v6.1)), (20, .d (iv v6.2)), bxB 2003 (eXFunctor.b a0), (2005, .r (.arr 1 [iv 0, nilv, nilv, nilv, nilv, iv 0, nilv, nilv, nilv, nilv, nilv, nilv] [])), bxB 2009 (eXCategory.b a0.Target), (2035, .r (.arr 1 (s1.1.flatMap eI.o) [])), (2037, .r (.arr 1 (s1.2.1.flatMap eI.o) [])), (2039, .r (.arr 1 (([] : List Int).flatMap eI.o) []))] (cc0 ok244 (spec_l11Pair_c a0 s1.2.2 _ hv6) (by kernel_rfl) .nil) (by kernel_rfl) (by kernel_rfl) ?_
    obtain ⟨h7, hM⟩ := chk_some hM
    refine tr_sr hT hm [(3, .app true)] [2, 4, 8, 10, 12, 14, 16, 20, 2003, 2005, 2009, 2037, 2039, 2071] [(2, .d (.rp 1001 0)), (4, .d (.rp 1002 0)), (8, .d (.rp 1004 0)), (10, .d (.rs 1035 0 (s1.1.length + (([v6.1] : List Int).length)))), (12, .d (.rs 1018 0 s1.2.1.length)), (14, .d (.rs 1019 0 (([] : List Int).length))), (16, .d (iv s1.2.2)), (20, .d (iv v6.2)), bxB 2003 (eXFunctor.b a0), (2005, .r (.arr 1 [iv 0, nilv, nilv, nilv, nilv, iv 0, nilv, nilv, nilv, nilv, nilv, nilv] [])), bxB 2009 (eXCategory.b a0.Target), (2037, .r (.arr 1 (s1.2.1.flatMap eI.o) [])), (2039, .r (.arr 1 (([] : List Int).flatMap eI.o) [])), (2071, .r (.arr 1 (s1.1.flatMap eI.o ++ ([v6.1] : List Int).flatMap eI.o) []))] (.cons (lenO_flat eI_ok s1.1) (.cons (lenO_flat eI_ok ([v6.1] : List Int)) (.cons h7 .nil))) (by kernel_rfl) (by kernel_rfl) ?_
    refine Tr.by (imp_cvE (r := 1035) (sz := 1) (refs := []) (flat_app eI.o s1.1 ([v6.1] : List Int)) (menO_flat eI_ok _) (by kernel_rfl)) ?_
    refine Tr.by (imp_cvD (k := 10) (congrArg (D.rs 1035 0) ((len_app s1.1 ([v6.1] : List Int)) : s1.1.length + (([v6.1] : List Int).length) = (s1.1 ++ ([v6.1] : List Int)).length)) (by kernel_rfl)) ?_
    obtain ⟨h8, hM⟩ := chk_some hM
    refine tr_r hT hm [(3, .app true)] [2, 4, 8, 10, 12, 14, 16, 2003, 2005, 2009, 2039, 2071, 2079] [(2, .d (.rp 1001 0)), (4, .d (.rp 1002 0)), (8, .d (.rp 1004 0)), (10, .d (.rs 1035 0 ((s1.1 ++ ([v6.1] : List Int)).length))), (12, .d (.rs 1039 0 (s1.2.1.length + (([v6.2] : List Int).length)))), (14, .d (.rs 1019 0 (([] : List Int).length))), (16, .d (iv s1.2.2)), bxB 2003 (eXFunctor.b a0), (2005, .r (.arr 1 [iv 0, nilv, nilv, nilv, nilv, iv 0, nilv, nilv, nilv, nilv, nilv, nilv] [])), bxB 2009 (eXCategory.b a0.Target), (2039, .r (.arr 1 (([] : List Int).flatMap eI.o) [])), (2071, .r (.arr 1 ((s1.1 ++ ([v6.1] : List Int)).flatMap eI.o) [])), (2079, .r (.arr 1 (s1.2.1.flatMap eI.o ++ ([v6.2] : List Int).flatMap eI.o) []))] (.cons (lenO_flat eI_ok s1.2.1) (.cons (lenO_flat eI_ok ([v6.2] : List Int)) (.cons h8 .nil))) (by kernel_rfl) (by kernel_rfl) (b_n (q_n ?_))
    refine Tr.by (imp_cvE (r := 1039) (sz := 1) (refs := []) (flat_app eI.o s1.2.1 ([v6.2] : List Int)) (menO_flat eI_ok _) (by kernel_rfl)) ?_
    refine Tr.by (imp_cvD (k := 12) (congrArg (D.rs 1039 0) ((len_app s1.2.1 ([v6.2] : List Int)) : s1.2.1.length + (([v6.2] : List Int).length) = (s1.2.1 ++ ([v6.2] : List Int)).length)) (by kernel_rfl)) ?_
    refine tr_r hT hm [] [2, 4, 8, 10, 12, 14, 16, 2003, 2005, 2009, 2039, 2071, 2079] [(2, .d (.rp 1001 0)), (4, .d (.rp 1002 0)), (8, .d (.rp 1004 0)), (10, .d (.rs 1035 0 ((s1.1 ++ ([v6.1] : List Int)).length))), (12, .d (.rs 1039 0 ((s1.2.1 ++ ([v6.2] : List Int)).length))), (14, .d (.rs 1019 0 (([] : List Int).length))), (16, .d (iv (IntKind.i64.wrap (s1.2.2 + 1)))), bxB 2003 (eXFunctor.b a0), (2005, .r (.arr 1 [iv 0, nilv, nilv, nilv, nilv, iv 0, nilv, nilv, nilv, nilv, nilv, nilv] [])), bxB 2009 (eXCategory.b a0.Target), (2039, .r (.arr 1 (([] : List Int).flatMap eI.o) [])), (2071, .r (.arr 1 ((s1.1 ++ ([v6.1] : List Int)).flatMap eI.o) [])), (2079, .r (.arr 1 ((s1.2.1 ++ ([v6.2] : List Int)).flatMap eI.o) []))] .nil (by kernel_rfl) (by kernel_rfl) (l_n ?_)
    refine TrL.by (imp_sel (ks := [2, 4, 8, 10, 12, 14, 16, 2003, 2005, 2009, 2039, 2071, 2079]) (st' := [(2, .d (.rp 1001 0)), (4, .d (.rp 1002 0)), (8, .d (.rp 1004 0)), (10, .d (.rs 1035 0 ((s1.1 ++ ([v6.1] : List Int)).length))), (12, .d (.rs 1039 0 ((s1.2.1 ++ ([v6.2] : List Int)).length))), (14, .d (.rs 1019 0 (([] : List Int).length))), (16, .d (iv (IntKind.i64.wrap (s1.2.2 + 1)))), bxB 2003 (eXFunctor.b a0), (2005, .r (.arr 1 [iv 0, nilv, nilv, nilv, nilv, iv 0, nilv, nilv, nilv, nilv, nilv, nilv] [])), bxB 2009 (eXCategory.b a0.Target), (2039, .r (.arr 1 (([] : List Int).flatMap eI.o) [])), (2071, .r (.arr 1 ((s1.1 ++ ([v6.1] : List Int)).flatMap eI.o) [])), (2079, .r (.arr 1 ((s1.2.1 ++ ([v6.2] : List Int)).flatMap eI.o) []))]) (by kernel_rfl)) ?_
    refine TrL.by (imp_rename (r := 1035) (q := 1017) (by kernel_rfl) (Nat.le_of_ble_eq_true rfl)) ?_
    refine TrL.by (imp_rename (r := 1039) (q := 1018) (by kernel_rfl) (Nat.le_of_ble_eq_true rfl)) ?_
    exact trl_start (ks := [2, 4, 8, 10, 12, 14, 16, 2003, 2005, 2009, 2035, 2037, 2039]) (by kernel_rfl) (ih3 (s1.1 ++ ([v6.1] : List Int), s1.2.1 ++ ([v6.2] : List Int), IntKind.i64.wrap (s1.2.2 + 1)) hM)
  · have hM := ite_false' hM h5
    refine tr_condFe (e := decide (s1.2.2 < a0.Target.Objects)) h5 (by kernel_rfl) ?_
    refine tr_exit (q_x (l_x (b_h (q_n ?_))))
    refine tr_seq ?_
    refine tr_sr hT hm [] [2, 4, 8, 10, 12, 14, 22, 2003, 2005, 2009, 2035, 2037, 2039] [(2, .d (.rp 1001 0)), (4, .d (.rp 1002 0)), (8, .d (.rp 1004 0)), (10, .d (.rs 1017 0 s1.1.length)), (12, .d (.rs 1018 0 s1.2.1.length)), (14, .d (.rs 1019 0 (([] : List Int).length))), (22, .d (iv 0)), bxB 2003 (eXFunctor.b a0), (2005, .r (.arr 1 [iv 0, nilv, nilv, nilv, nilv, iv 0, nilv, nilv, nilv, nilv, nilv, nilv] [])), bxB 2009 (eXCategory.b a0.Target), (2035, .r (.arr 1 (s1.1.flatMap eI.o) [])), (2037, .r (.arr 1 (s1.2.1.flatMap eI.o) [])), (2039, .r (.arr 1 (([] : List Int).flatMap eI.o) []))] .nil (by kernel_rfl) (by kernel_rfl) ?_
    refine tr_block ?_
    refine tr_iterS (fun (s9 : (List Int) × Int) => [(2, .d (.rp 1001 0)), (4, .d (.rp 1002 0)), (8, .d (.rp 1004 0)), (10, .d (.rs 1017 0 s1.1.length)), (12, .d (.rs 1018 0 s1.2.1.length)), (14, .d (.rs 1019 0 s9.1.length)), (22, .d (iv s9.2)), bxB 2003 (eXFunctor.b a0), (2005, .r (.arr 1 [iv 0, nilv, nilv, nilv, nilv, iv 0, nilv, nilv, nilv, nilv, nilv, nilv] [])), bxB 2009 (eXCategory.b a0.Target), (2035, .r (.arr 1 (s1.1.flatMap eI.o) [])), (2037, .r (.arr 1 (s1.2.1.flatMap eI.o) [])), (2039, .r (.arr 1 (s9.1.flatMap eI.o) []))]) (([] : List Int), 0) [2, 4, 8, 10, 12, 14, 22, 2003, 2005, 2009, 2035, 2037, 2039] (by kernel_rfl) hM ?_
    intro n12 next10 ih11 s9 hM
    refine tr_seq ?_
    refine tr_sr hT hm [] [2, 4, 8, 10, 12, 14, 22, 88, 2003, 2005, 2009, 2035, 2037, 2039] [(2, .d (.rp 1001 0)), (4, .d (.rp 1002 0)), (8, .d (.rp 1004 0)), (10, .d (.rs 1017 0 s1.1.length)), (12, .d (.rs 1018 0 s1.2.1.length)), (14, .d (.rs 1019 0 s9.1.length)), (22, .d (iv s9.2)), (88, .d (bv (decide (s9.2 < (a0.Target.From.length : Int))))), bxB 2003 (eXFunctor.b a0), (2005, .r (.arr 1 [iv 0, nilv, nilv, nilv, nilv, iv 0, nilv, nilv, nilv, nilv, nilv, nilv] [])), bxB 2009 (eXCategory.b a0.Target), (2035, .r (.arr 1 (s1.1.flatMap eI.o) [])), (2037, .r (.arr 1 (s1.2.1.flatMap eI.o) [])), (2039, .r (.arr 1 (s9.1.flatMap eI.o) []))] .nil (by kernel_rfl) (by kernel_rfl) ?_
    rcases Bool.eq_false_or_eq_true (decide (s9.2 < (a0.Target.From.length : Int))) with h13 | h13
    · have hM := ite_true' hM h13
      refine tr_condTe (e := decide (s9.2 < (a0.Target.From.length : Int))) h13 (by kernel_rfl) ?_
      refine tr_skip (q_n ?_)
      refine tr_seq ?_
      refine tr_block ?_
      obtain ⟨y14, hy14, hM⟩ := bind_some' hM
      have hy14' := idx_some hy14
      obtain ⟨y15, hy15, hM⟩ := bind_some' hM
      have hy15' := idx_some hy15
      refine tr_sr hT hm [(4, .val (iv y14)), (9, .val (iv y15))] [2, 4, 8, 10, 12, 14, 22, 24, 26, 2003, 2005, 2009, 2035, 2037, 2039] [(2, .d (.rp 1001 0)), (4, .d (.rp 1002 0)), (8, .d (.rp 1004 0)), (10, .d (.rs 1017 0 s1.1.length)), (12, .d (.rs 1018 0 s1.2.1.length)), (14, .d (.rs 1019 0 s9.1.length)), (22, .d (iv s9.2)), (24, .d (iv y14)), (26, .d (iv y15)), bxB 2003 (eXFunctor.b a0), (2005, .r (.arr 1 [iv 0, nilv, nilv, nilv, nilv, iv 0, nilv, nilv, nilv, nilv, nilv, nilv] [])), bxB 2009 (eXCategory.b a0.Target), (2035, .r (.arr 1 (s1.1.flatMap eI.o) [])), (2037, .r (.arr 1 (s1.2.1.flatMap eI.o) [])), (2039, .r (.arr 1 (s9.1.flatMap eI.o) []))] (.cons hy14'.1 (.cons hy14'.2.1 (.cons (at_b0 eI_ok hy14'.2.2 (d := iv y14) (by kernel_rfl)) (.cons hy15'.1 (.cons hy15'.2.1 (.cons (at_b0 eI_ok hy15'.2.2 (d := iv y15) (by kernel_rfl)) .nil)))))) (by kernel_rfl) (by kernel_rfl) ?_
      obtain ⟨y16, hy16, hM⟩ := bind_some' hM
      have hy16' := idx_some hy16
      obtain ⟨v17, hv17, hM⟩ := bind_some' hM
      obtain ⟨y18, hy18, hM⟩ := bind_some' hM
      have hy18' := idx_some hy18
      obtain ⟨v19, hv19, hM⟩ := bind_some' hM
      obtain ⟨v20, hv20, hM⟩ := bind_some' hM
      refine tr_sr hT hm [(5, .val (iv y16)), (7, .call [] [] [.agg (eXCategory.b a0.Target), iv y16, iv s9.2] [] (iv v17)), (12, .val (iv y18)), (13, .call [] [] [.agg (eXCategory.b a0.Target), iv y18] [] (iv v19)), (14, .call [] [] [.agg (eXCategory.b a0.Target), iv v17, iv v19] [] (iv v20))] [2, 4, 8, 10, 12, 14, 22, 24, 26, 28, 2003, 2005, 2009, 2035, 2037, 2039] [(2, .d (.rp 1001 0)), (4, .d (.rp 1002 0)), (8, .d (.rp 1004 0)), (10, .d (.rs 1017 0 s1.1.length)), (12, .d (.rs 1018 0 s1.2.1.length)), (14, .d (.rs 1019 0 s9.1.length)), (22, .d (iv s9.2)), (24, .d (iv y14)), (26, .d (iv y15)), (28, .d (iv v20)), bxB 2003 (eXFunctor.b a0), (2005, .r (.arr 1 [iv 0, nilv, nilv, nilv, nilv, iv 0, nilv, nilv, nilv, nilv, nilv, nilv] [])), bxB 2009 (eXCategory.b a0.Target), (2035, .r (.arr 1 (s1.1.flatMap eI.o) [])), (2037, .r (.arr 1 (s1.2.1.flatMap eI.o) [])), (2039, .r (.arr 1 (s9.1.flatMap eI.o) []))] (.cons hy16'.1 (.cons hy16'.2.1 (.cons (at_o0 eI_ok hy16'.2.2 (d := iv y16) (by kernel_rfl)) (cc0 ok113 (spec_l02Then_c a0.Target y16 s9.2 _ hv17) (by kernel_rfl) (.cons hy18'.1 (.cons hy18'.2.1 (.cons (at_o0 eI_ok hy18'.2.2 (d := iv y18) (by kernel_rfl)) (cc0 ok112 (spec_l02Inverse_c a0.Target y18 _ hv19) (by kernel_rfl) (cc0 ok113 (spec_l02Then_c a0.Target v17 v19 _ hv20) (by kernel_rfl) .nil))))))))) (by kernel_rfl) (by kernel_rfl) ?_
      obtain ⟨y21, hy21, hM⟩ := bind_some' hM
      have hy21' := idx_some hy21
      obtain ⟨y22, hy22, hM⟩ := bind_some' hM
      have hy22' := idx_some hy22
      obtain ⟨v23, hv23, hM⟩ := bind_some' hM
      obtain ⟨h24, hM⟩ := chk_some hM
      refine tr_r hT hm [(5, .val (iv y21)), (9, .val (iv y22)), (11, .call [] [] [.agg (eXFunctor.b a0), iv y21, iv y22, iv v20] [] (iv v23)), (13, .app true)] [2, 4, 8, 10, 12, 14, 22, 2003, 2005, 2009, 2035, 2037, 2171] [(2, .d (.rp 1001 0)), (4, .d (.rp 1002 0)), (8, .d (.rp 1004 0)), (10, .d (.rs 1017 0 s1.1.length)), (12, .d (.rs 1018 0 s1.2.1.length)), (14, .d (.rs 1085 0 (s9.1.length + (([v23] : List Int).length)))), (22, .d (iv s9.2)), bxB 2003 (eXFunctor.b a0), (2005, .r (.arr 1 [iv 0, nilv, nilv, nilv, nilv, iv 0, nilv, nilv, nilv, nilv, nilv, nilv] [])), bxB 2009 (eXCategory.b a0.Target), (2035, .r (.arr 1 (s1.1.flatMap eI.o) [])), (2037, .r (.arr 1 (s1.2.1.flatMap eI.o) [])), (2171, .r (.arr 1 (s9.1.flatMap eI.o ++ ([v23] : List Int).flatMap eI.o) []))] (.cons hy21'.1 (.cons hy21'.2.1 (.cons (at_o0 eI_ok hy21'.2.2 (d := iv y21) (by kernel_rfl)) (.cons hy22'.1 (.cons hy22'.2.1 (.cons (at_o0 eI_ok hy22'.2.2 (d := iv y22) (by kernel_rfl)) (cc0 ok245 (spec_l11Before_c a0 y21 y22 v20 _ hv23) (by kernel_rfl) (.cons (lenO_flat eI_ok s9.1) (.cons (lenO_flat eI_ok ([v23] : List Int)) (.cons h24 .nil)))))))))) (by kernel_rfl) (by kernel_rfl) (b_n (q_n ?_))
      refine Tr.by (imp_cvE (r := 1085) (sz := 1) (refs := []) (flat_app eI.o s9.1 ([v23] : List Int)) (menO_flat eI_ok _) (by kernel_rfl)) ?_
      refine Tr.by (imp_cvD (k := 14) (congrArg (D.rs 1085 0) ((len_app s9.1 ([v23] : List Int)) : s9.1.length + (([v23] : List Int).length) = (s9.1 ++ ([v23] : List Int)).length)) (by kernel_rfl)) ?_
      refine tr_r hT hm [] [2, 4, 8, 10, 12, 14, 22, 2003, 2005, 2009, 2035, 2037, 2171] [(2, .d (.rp 1001 0)), (4, .d (.rp 1002 0)), (8, .d (.rp 1004 0)), (10, .d (.rs 1017 0 s1.1.length)), (12, .d (.rs 1018 0 s1.2.1.length)), (14, .d (.rs 1085 0 ((s9.1 ++ ([v23] : List Int)).length))), (22, .d (iv (IntKind.i64.wrap (s9.2 + 1)))), bxB 2003 (eXFunctor.b a0), (2005, .r (.arr 1 [iv 0, nilv, nilv, nilv, nilv, iv 0, nilv, nilv, nilv, nilv, nilv, nilv] [])), bxB 2009 (eXCategory.b a0.Target), (2035, .r (.arr 1 (s1.1.flatMap eI.o) [])), (2037, .r (.arr 1 (s1.2.1.flatMap eI.o) [])), (2171, .r (.arr 1 ((s9.1 ++ ([v23] : List Int)).flatMap eI.o) []))] .nil (by kernel_rfl) (by kernel_rfl) (l_n ?_)
      refine TrL.by (imp_sel (ks := [2, 4, 8, 10, 12, 14, 22, 2003, 2005, 2009, 2035, 2037, 2171]) (st' := [(2, .d (.rp 1001 0)), (4, .d (.rp 1002 0)), (8, .d (.rp 1004 0)), (10, .d (.rs 1017 0 s1.1.length)), (12, .d (.rs 1018 0 s1.2.1.length)), (14, .d (.rs 1085 0 ((s9.1 ++ ([v23] : List Int)).length))), (22, .d (iv (IntKind.i64.wrap (s9.2 + 1)))), bxB 2003 (eXFunctor.b a0), (2005, .r (.arr 1 [iv 0, nilv, nilv, nilv, nilv, iv 0, nilv, nilv, nilv, nilv, nilv, nilv] [])), bxB 2009 (eXCategory.b a0.Target), (2035, .r (.arr 1 (s1.1.flatMap eI.o) [])), (2037, .r (.arr 1 (s1.2.1.flatMap eI.o) [])), (2171, .r (.arr 1 ((s9.1 ++ ([v23] : List Int)).flatMap eI.o) []))]) (by kernel_rfl)) ?_
      refine TrL.by (imp_rename (r := 1085) (q := 1019) (by kernel_rfl) (Nat.le_of_ble_eq_true rfl)) ?_
      exact trl_start (ks := [2, 4, 8, 10, 12, 14, 22, 2003, 2005, 2009, 2035, 2037, 2039]) (by kernel_rfl) (ih11 (s9.1 ++ ([v23] : List Int), IntKind.i64.wrap (s9.2 + 1)) hM)
    · have hM := ite_false' hM h13
      refine tr_condFe (e := decide (s9.2 < (a0.Target.From.length : Int))) h13 (by kernel_rfl) ?_
      refine tr_exit (q_x (l_x (b_h (q_n ?_))))
      obtain ⟨v25, hv25, hM⟩ := bind_some' hM
      refine tr_sr hT hm [(5, .call [1017, 1019] [] [.agg (eXCategory.b a0.Target), .agg (eXCategory.b a0.Source), .sl s1.1.length 0 (s1.1.flatMap eI.b), .sl s9.1.length 0 (s9.1.flatMap eI.b)] [] (.agg (eXFunctor.o v25)))] [4, 6, 2005, 2037, 186003, 186005, 186007, 186009, 186013, 186015, 186017, 186019, 186021, 186023] ([(4, .d (.rp 1002 0)), (6, .d (.rs 1018 0 s1.2.1.length)), bxO 2005 93000 (eXFunctor.o v25), (2037, .r (.arr 1 (s1.2.1.flatMap eI.o) []))] ++ rsS 93000 (eXFunctor.o v25)) (cc (B := [1017, 1019]) (ρ := []) (rB := [(1017, .arr 1 (s1.1.flatMap eI.o) []), (1019, .arr 1 (s9.1.flatMap eI.o) [])]) ok102 (spec_l06Make_c a0.Target a0.Source s1.1 s9.1 _ hv25) (.cons (.same rfl) (.cons (.same rfl) (.cons (.of1 (.rs (r := 1017) (sz := 1) (refs := []) (memB (by kernel_rfl)) (by kernel_rfl) (bor_flat eI_ok _ _ _))) (.cons (.of1 (.rs (r := 1019) (sz := 1) (refs := []) (memB (by kernel_rfl)) (by kernel_rfl) (bor_flat eI_ok _ _ _))) .nil)))) (.inr ⟨(.agg (eXFunctor_nb _)), trivial⟩) (.cons (Nat.le_of_ble_eq_true (n := 12) (m := 12) rfl) .nil)) (by kernel_rfl) (by kernel_rfl) ?_
      refine tr_ret (rg_r ?_)
      obtain rfl := Option.some.inj hM
      exact retg (names := []) (.cons (lenO_flat eI_ok v25.Source.From) (.cons (lenO_flat eI_ok v25.Source.To) (.cons (lenO_flat eI_ok v25.Source.Identity) (.cons (lenO_flat (eS_ok eI_ok) v25.Source.Composites) (.cons (lenO_flat eI_ok v25.Target.From) (.cons (lenO_flat eI_ok v25.Target.To) (.cons (lenO_flat eI_ok v25.Target.Identity) (.cons (lenO_flat (eS_ok eI_ok) v25.Target.Composites) (.cons (lenO_flat eI_ok v25.Objects) (.cons (lenO_flat eI_ok v25.Arrows) (.cons (lenO_flat eI_ok s1.2.1) .nil))))))))))) (by kernel_rfl)

theorem ok75 : CallOk Try.prog 75 := callOk_of Try.func75 (by kernel_rfl) (by kernel_rfl)
theorem spec_QuasiInverse_c (a0 : XFunctor) (r : XFunctor × (List Int) × Int) (hM : M.spec_QuasiInverse a0 = some r) :
    FnC Try.prog 75 [] [.agg (eXFunctor.b a0)] [] (.tup [.agg (eXFunctor.o r.1), .fr 1 r.2.1.length (r.2.1.flatMap eI.o), iv r.2.2]) := by
  refine fnc_startG (N := 22) (np := 500) hT Try.func75 rfl rfl (by kernel_rfl) ?_
  unfold M.spec_QuasiInverse at hM
  refine tr_start (ks := [0]) (st' := [(0, .d (.agg (eXFunctor.b a0)))]) (by kernel_rfl) ?_
  refine tr_sr hT hm [] [2, 4, 2003, 2005] [(2, .d (.rp 1001 0)), (4, .d (.rp 1002 0)), bxB 2003 (eXFunctor.b a0), (2005, .r (.arr 1 [iv 0, nilv, nilv, nilv, nilv, iv 0, nilv, nilv, nilv, nilv, nilv, nilv] []))] .nil (by kernel_rfl) (by kernel_rfl) ?_
  refine tr_seq ?_
  obtain ⟨v1, hv1, hM⟩ := bind_some' hM
  refine tr_sr hT hm [(1, .call [] [] [.agg (eXFunctor.b a0)] [] (bv v1))] [2, 4, 18, 2003, 2005] [(2, .d (.rp 1001 0)), (4, .d (.rp 1002 0)), (18, .d (bv (!v1))), bxB 2003 (eXFunctor.b a0), (2005, .r (.arr 1 [iv 0, nilv, nilv, nilv, nilv, iv 0, nilv, nilv, nilv, nilv, nilv, nilv] []))] (cc0 ok78 (spec_l06Is_c a0 _ hv1) (by kernel_rfl) .nil) (by kernel_rfl) (by kernel_rfl) ?_
  rcases Bool.eq_false_or_eq_true v1 with h2 | h2
  · have hM := ite_true' hM h2
    refine tr_condFe (e := !v1) (congrArg not h2) (by kernel_rfl) ?_
    refine tr_skip (q_n ?_)
    refine tr_seq ?_
    obtain ⟨v3, hv3, hM⟩ := bind_some' hM
    refine tr_sr hT hm [(1, .call [] [] [.agg (eXFunctor.b a0)] [] (bv v3))] [2, 4, 26, 2003, 2005] [(2, .d (.rp 1001 0)), (4, .d (.rp 1002 0)), (26, .d (bv (!v3))), bxB 2003 (eXFunctor.b a0), (2005, .r (.arr 1 [iv 0, nilv, nilv, nilv, nilv, iv 0, nilv, nilv, nilv, nilv, nilv, nilv] []))] (cc0 ok150 (spec_l11Equivalence_c a0 _ hv3) (by kernel_rfl) .nil) (by kernel_rfl) (by kernel_rfl) ?_
    rcases Bool.eq_false_or_eq_true v3 with h4 | h4
    · have hM := ite_true' hM h4
      refine tr_condFe (e := !v3) (congrArg not h4) (by kernel_rfl) ?_
      refine tr_skip (q_n ?_)
      obtain ⟨v5, hv5, hM⟩ := bind_some' hM
      refine tr_sr hT hm [(1, .call [] [] [.agg (eXFunctor.b a0)] [] (.tup [.agg (eXFunctor.o v5.1), .fr 1 v5.2.length (v5.2.flatMap eI.o)]))] [4, 10, 12, 2005, 2011, 38003, 38005, 38007, 38009, 38013, 38015, 38017, 38019, 38021, 38023, 38201] ([(4, .d (.rp 1002 0)), (10, .d (.rp 1005 0)), (12, .d (.rs 19100 0 v5.2.length)), (2005, .r (.arr 1 [iv 0, nilv, nilv, nilv, nilv, iv 0, nilv, nilv, nilv, nilv, nilv, nilv] [])), bxO 2011 19000 (eXFunctor.o v5.1)] ++ rsS 19000 (eXFunctor.o v5.1) ++ [(38201, .r (.arr 1 (v5.2.flatMap eI.o) []))]) (cc0 ok151 (spec_l11Quasi_c a0 _ hv5) (by kernel_rfl) (.cons (Nat.le_of_ble_eq_true (n := 12) (m := 12) rfl) .nil)) (by kernel_rfl) (by kernel_rfl) ?_
      refine tr_sr hT hm [] [4, 6, 8, 2005, 38003, 38005, 38007, 38009, 38013, 38015, 38017, 38019, 38021, 38023, 38201] ([(4, .d (.rp 1002 0)), (6, .d (.rs 19100 0 v5.2.length)), (8, .d (iv 0)), bxO 2005 19000 (eXFunctor.o v5.1)] ++ rsS 19000 (eXFunctor.o v5.1) ++ [(38201, .r (.arr 1 (v5.2.flatMap eI.o) []))]) (.cons (Nat.le_of_ble_eq_true (n := 12) (m := 12) rfl) .nil) (by kernel_rfl) (by kernel_rfl) ?_
      refine tr_ret (rg_r ?_)
      obtain rfl := Option.some.inj hM
      exact retg (names := []) (.cons (lenO_flat eI_ok v5.1.Source.From) (.cons (lenO_flat eI_ok v5.1.Source.To) (.cons (lenO_flat eI_ok v5.1.Source.Identity) (.cons (lenO_flat (eS_ok eI_ok) v5.1.Source.Composites) (.cons (lenO_flat eI_ok v5.1.Target.From) (.cons (lenO_flat eI_ok v5.1.Target.To) (.cons (lenO_flat eI_ok v5.1.Target.Identity) (.cons (lenO_flat (eS_ok eI_ok) v5.1.Target.Composites) (.cons (lenO_flat eI_ok v5.1.Objects) (.cons (lenO_flat eI_ok v5.1.Arrows) (.cons (lenO_flat eI_ok v5.2) .nil))))))))))) (by kernel_rfl)
    · have hM := ite_false' hM h4
      refine tr_condTe (e := !v3) (congrArg not h4) (by kernel_rfl) ?_
      refine tr_sr hT hm [] [4, 6, 8, 2005] [(4, .d (.rp 1002 0)), (6, .d (nilv)), (8, .d (iv 5)), (2005, .r (.arr 1 [iv 0, nilv, nilv, nilv, nilv, iv 0, nilv, nilv, nilv, nilv, nilv, nilv] []))] (.cons (Nat.le_of_ble_eq_true (n := 12) (m := 12) rfl) .nil) (by kernel_rfl) (by kernel_rfl) ?_
      refine tr_ret (q_r (rg_r ?_))
      refine RetG.by (imp_cvB (r := 1002) (sz := 1) (cells := [iv 0, nilv, nilv, nilv, nilv, iv 0, nilv, nilv, nilv, nilv, nilv, nilv]) (cells' := [iv 0, .fr 1 ([] : List Int).length (([] : List Int).flatMap eI.o), .fr 1 ([] : List Int).length (([] : List Int).flatMap eI.o), .fr 1 ([] : List Int).length (([] : List Int).flatMap eI.o), .fr 1 ([] : List (List Int)).length (([] : List (List Int)).flatMap (eS eI).o), iv 0, .fr 1 ([] : List Int).length (([] : List Int).flatMap eI.o), .fr 1 ([] : List Int).length (([] : List Int).flatMap eI.o), .fr 1 ([] : List Int).length (([] : List Int).flatMap eI.o), .fr 1 ([] : List (List Int)).length (([] : List (List Int)).flatMap (eS eI).o), .fr 1 ([] : List Int).length (([] : List Int).flatMap eI.o), .fr 1 ([] : List Int).length (([] : List Int).flatMap eI.o)]) (refs := []) (refs' := []) (.cons (.refl _) (.cons Sub.nil_fr (.cons Sub.nil_fr (.cons Sub.nil_fr (.cons Sub.nil_fr (.cons (.refl _) (.cons Sub.nil_fr (.cons Sub.nil_fr (.cons Sub.nil_fr (.cons Sub.nil_fr (.cons Sub.nil_fr (.cons Sub.nil_fr .nil)))))))))))) (by kernel_rfl) (by kernel_rfl) (by kernel_rfl)) ?_
      refine RetG.by (imp_cvS (k := 6) (d' := .fr 1 ([] : List Int).length (([] : List Int).flatMap eI.o)) Sub.nil_fr (by kernel_rfl)) ?_
      obtain rfl := Option.some.inj hM
      exact retg (names := []) .nil (by kernel_rfl)
  · have hM := ite_false' hM h2
    refine tr_condTe (e := !v1) (congrArg not h2) (by kernel_rfl) ?_
    refine tr_sr hT hm [] [4, 6, 8, 2005] [(4, .d (.rp 1002 0)), (6, .d (nilv)), (8, .d (iv 1)), (2005, .r (.arr 1 [iv 0, nilv, nilv, nilv, nilv, iv 0, nilv, nilv, nilv, nilv, nilv, nilv] []))] (.cons (Nat.le_of_ble_eq_true (n := 12) (m := 12) rfl) .nil) (by kernel_rfl) (by kernel_rfl) ?_
    refine tr_ret (q_r (rg_r ?_))
    refine RetG.by (imp_cvB (r := 1002) (sz := 1) (cells := [iv 0, nilv, nilv, nilv, nilv, iv 0, nilv, nilv, nilv, nilv, nilv, nilv]) (cells' := [iv 0, .fr 1 ([] : List Int).length (([] : List Int).flatMap eI.o), .fr 1 ([] : List Int).length (([] : List Int).flatMap eI.o), .fr 1 ([] : List Int).length (([] : List Int).flatMap eI.o), .fr 1 ([] : List (List Int)).length (([] : List (List Int)).flatMap (eS eI).o), iv 0, .fr 1 ([] : List Int).length (([] : List Int).flatMap eI.o), .fr 1 ([] : List Int).length (([] : List Int).flatMap eI.o), .fr 1 ([] : List Int).length (([] : List Int).flatMap eI.o), .fr 1 ([] : List (List Int)).length (([] : List (List Int)).flatMap (eS eI).o), .fr 1 ([] : List Int).length (([] : List Int).flatMap eI.o), .fr 1 ([] : List Int).length (([] : List Int).flatMap eI.o)]) (refs := []) (refs' := []) (.cons (.refl _) (.cons Sub.nil_fr (.cons Sub.nil_fr (.cons Sub.nil_fr (.cons Sub.nil_fr (.cons (.refl _) (.cons Sub.nil_fr (.cons Sub.nil_fr (.cons Sub.nil_fr (.cons Sub.nil_fr (.cons Sub.nil_fr (.cons Sub.nil_fr .nil)))))))))))) (by kernel_rfl) (by kernel_rfl) (by kernel_rfl)) ?_
    refine RetG.by (imp_cvS (k := 6) (d' := .fr 1 ([] : List Int).length (([] : List Int).flatMap eI.o)) Sub.nil_fr (by kernel_rfl)) ?_
    obtain rfl := Option.some.inj hM
    exact retg (names := []) .nil (by kernel_rfl)

theorem ok246 : CallOk Try.prog 246 := callOk_of Try.func246 (by kernel_rfl) (by kernel_rfl)
theorem impl_Functor_isFull_c (a0 : XFunctor) (r : Bool) (hM : M.impl_Functor_isFull a0 = some r) :
    FnC Try.prog 246 [] [.pt (eXFunctor.b a0) 0] [] (bv r) := by
  refine fnc_startG (N := 65) (np := 500) hT Try.func246 rfl rfl (by kernel_rfl) ?_
  unfold M.impl_Functor_isFull at hM
  refine tr_start (ks := [0]) (st' := [(0, .d (.pt (eXFunctor.b a0) 0))]) (by kernel_rfl) ?_
  refine tr_sr hT hm [] [0] [(0, .d (.pt (eXFunctor.b a0) 0))] .nil (by kernel_rfl) (by kernel_rfl) ?_
  refine tr_sr hT hm [] [0, 6] [(0, .d (.pt (eXFunctor.b a0) 0)), (6, .d (.pt (eXFunctor.b a0) 0))] .nil (by kernel_rfl) (by kernel_rfl) ?_
  refine tr_seq ?_
  refine tr_sr hT hm [] [0, 6, 8] [(0, .d (.pt (eXFunctor.b a0) 0)), (6, .d (.pt (eXFunctor.b a0) 0)), (8, .d (iv 0))] .nil (by kernel_rfl) (by kernel_rfl) ?_
  refine tr_block ?_
  refine tr_iterS (fun (s1 : Int) => [(0, .d (.pt (eXFunctor.b a0) 0)), (6, .d (.pt (eXFunctor.b a0) 0)), (8, .d (iv s1))]) 0 [0, 6, 8] (by kernel_rfl) hM ?_
  intro n4 next2 ih3 s1 hM
  refine tr_seq ?_
  refine tr_sr hT hm [] [0, 6, 8, 34] [(0, .d (.pt (eXFunctor.b a0) 0)), (6, .d (.pt (eXFunctor.b a0) 0)), (8, .d (iv s1)), (34, .d (bv (decide (s1 < a0.Source.Objects))))] .nil (by kernel_rfl) (by kernel_rfl) ?_
  rcases Bool.eq_false_or_eq_true (decide (s1 < a0.Source.Objects)) with h5 | h5
  · have hM := ite_true' hM h5
    refine tr_condTe (e := decide (s1 < a0.Source.Objects)) h5 (by kernel_rfl) ?_
    refine tr_skip (q_n ?_)
    refine tr_seq ?_
    refine tr_block ?_
    refine tr_sr hT hm [] [0, 6, 8, 10] [(0, .d (.pt (eXFunctor.b a0) 0)), (6, .d (.pt (eXFunctor.b a0) 0)), (8, .d (iv s1)), (10, .d (iv 0))] .nil (by kernel_rfl) (by kernel_rfl) ?_
    refine tr_block ?_
    refine tr_iterS (fun (s6 : Int) => [(0, .d (.pt (eXFunctor.b a0) 0)), (6, .d (.pt (eXFunctor.b a0) 0)), (8, .d (iv s1)), (10, .d (iv s6))]) 0 [0, 6, 8, 10] (by kernel_rfl) hM ?_
    intro n9 next7 ih8 s6 hM
    refine tr_seq ?_
    refine tr_sr hT hm [] [0, 6, 8, 10, 50] [(0, .d (.pt (eXFunctor.b a0) 0)), (6, .d (.pt (eXFunctor.b a0) 0)), (8, .d (iv s1)), (10, .d (iv s6)), (50, .d (bv (decide (s6 < a0.Source.Objects))))] .nil (by kernel_rfl) (by kernel_rfl) ?_
    rcases Bool.eq_false_or_eq_true (decide (s6 < a0.Source.Objects)) with h10 | h10
    · have hM := ite_true' hM h10
      refine tr_condTe (e := decide (s6 < a0.Source.Objects)) h10 (by kernel_rfl) ?_
      refine tr_skip (q_n ?_)
      refine tr_seq ?_
      refine tr_block ?_
      obtain ⟨v11, hv11, hM⟩ := bind_some' hM
      obtain ⟨v12, hv12, hM⟩ := bind_some' hM
      refine tr_sr hT hm [(3, .call [] [] [.pt (eXCategory.b a0.Source) 0, iv s1, iv s6] [] (.fr 1 v11.length (v11.flatMap eI.o))), (8, .call [33000] [] [.sl v11.length 0 (v11.flatMap eI.b), .sl a0.Arrows.length 0 (a0.Arrows.flatMap eI.b)] [] (.fr 1 v12.length (v12.flatMap eI.o)))] [0, 6, 8, 10, 12, 76001] [(0, .d (.pt (eXFunctor.b a0) 0)), (6, .d (.pt (eXFunctor.b a0) 0)), (8, .d (iv s1)), (10, .d (iv s6)), (12, .d (.rs 38000 0 v12.length)), (76001, .r (.arr 1 (v12.flatMap eI.o) []))] (cc (B := []) (ρ := []) (rB := []) ok202 (impl_Category_hom_c a0.Source s1 s6 _ hv11) (.cons (.pass (.ptk (ds := eXFunctor.b a0) (ds' := eXCategory.b a0.Source) (off := 0) (n := 5) (by kernel_rfl) (by kernel_rfl) (by kernel_rfl))) (.cons (.same rfl) (.cons (.same rfl) .nil))) (.inl rfl) (cc (B := [33000]) (ρ := []) (rB := [(33000, .arr 1 (v11.flatMap eI.o) [])]) ok268 (impl_then_c v11 a0.Arrows _ hv12) (.cons (.of1 (.rs (r := 33000) (sz := 1) (refs := []) (memB (by kernel_rfl)) (by kernel_rfl) (bor_flat eI_ok _ _ _))) (.cons (.same rfl) .nil)) (.inr ⟨(.fr (nb_flat eI_nb _)), trivial⟩) .nil)) (by kernel_rfl) (by kernel_rfl) ?_
      obtain ⟨y13, hy13, hM⟩ := bind_some' hM
      have hy13' := idx_some hy13
      obtain ⟨y14, hy14, hM⟩ := bind_some' hM
      have hy14' := idx_some hy14
      obtain ⟨v15, hv15, hM⟩ := bind_some' hM
      refine tr_sr hT hm [(9, .val (iv y13)), (16, .val (iv y14)), (17, .call [] [] [.pt (eXCategory.b a0.Target) 0, iv y13, iv y14] [] (.fr 1 v15.length (v15.flatMap eI.o)))] [0, 6, 8, 10, 12, 108, 110, 112, 76001, 112001] [(0, .d (.pt (eXFunctor.b a0) 0)), (6, .d (.pt (eXFunctor.b a0) 0)), (8, .d (iv s1)), (10, .d (iv s6)), (12, .d (.rs 38000 0 v12.length)), (108, .d (.rs 56000 0 v15.length)), (110, .d (iv (v15.length : Int))), (112, .d (iv 0)), (76001, .r (.arr 1 (v12.flatMap eI.o) [])), (112001, .r (.arr 1 (v15.flatMap eI.o) []))] (.cons hy13'.1 (.cons hy13'.2.1 (.cons (at_b0 eI_ok hy13'.2.2 (d := iv y13) (by kernel_rfl)) (.cons hy14'.1 (.cons hy14'.2.1 (.cons (at_b0 eI_ok hy14'.2.2 (d := iv y14) (by kernel_rfl)) (cc (B := []) (ρ := []) (rB := []) ok202 (impl_Category_hom_c a0.Target y13 y14 _ hv15) (.cons (.pass (.ptk (ds := eXFunctor.b a0) (ds' := eXCategory.b a0.Target) (off := 5) (n := 5) (by kernel_rfl) (by kernel_rfl) (by kernel_rfl))) (.cons (.same rfl) (.cons (.same rfl) .nil))) (.inl rfl) .nil))))))) (by kernel_rfl) (by kernel_rfl) ?_
      refine tr_block ?_
      refine tr_iterS (fun (s16 : Int) => [(0, .d (.pt (eXFunctor.b a0) 0)), (6, .d (.pt (eXFunctor.b a0) 0)), (8, .d (iv s1)), (10, .d (iv s6)), (12, .d (.rs 38000 0 v12.length)), (108, .d (.rs 56000 0 v15.length)), (110, .d (iv (v15.length : Int))), (112, .d (iv s16)), (76001, .r (.arr 1 (v12.flatMap eI.o) [])), (112001, .r (.arr 1 (v15.flatMap eI.o) []))]) 0 [0, 6, 8, 10, 12, 108, 110, 112, 76001, 112001] (by kernel_rfl) hM ?_
      intro n19 next17 ih18 s16 hM
      refine tr_sr hT hm [] [0, 6, 8, 10, 12, 108, 110, 112, 114, 76001, 112001] [(0, .d (.pt (eXFunctor.b a0) 0)), (6, .d (.pt (eXFunctor.b a0) 0)), (8, .d (iv s1)), (10, .d (iv s6)), (12, .d (.rs 38000 0 v12.length)), (108, .d (.rs 56000 0 v15.length)), (110, .d (iv (v15.length : Int))), (112, .d (iv s16)), (114, .d (bv (decide (s16 < (v15.length : Int))))), (76001, .r (.arr 1 (v12.flatMap eI.o) [])), (112001, .r (.arr 1 (v15.flatMap eI.o) []))] .nil (by kernel_rfl) (by kernel_rfl) ?_
      refine tr_seq ?_
      rcases Bool.eq_false_or_eq_true (decide (s16 < (v15.length : Int))) with h20 | h20
      · have hM := ite_true' hM h20
        refine tr_condTe (e := decide (s16 < (v15.length : Int))) h20 (by kernel_rfl) ?_
        refine tr_skip (q_n ?_)
        refine tr_seq ?_
        refine tr_block ?_
        obtain ⟨y21, hy21, hM⟩ := bind_some' hM
        have hy21' := idx_some hy21
        refine tr_sr hT hm [(1, .val (iv y21))] [0, 6, 8, 10, 12, 16, 108, 110, 112, 76001, 112001] [(0, .d (.pt (eXFunctor.b a0) 0)), (6, .d (.pt (eXFunctor.b a0) 0)), (8, .d (iv s1)), (10, .d (iv s6)), (12, .d (.rs 38000 0 v12.length)), (16, .d (iv y21)), (108, .d (.rs 56000 0 v15.length)), (110, .d (iv (v15.length : Int))), (112, .d (iv s16)), (76001, .r (.arr 1 (v12.flatMap eI.o) [])), (112001, .r (.arr 1 (v15.flatMap eI.o) []))] (.cons hy21'.1 (.cons hy21'.2.1 (.cons (at_o0 eI_ok hy21'.2.2 (d := iv y21) (by kernel_rfl)) .nil))) (by kernel_rfl) (by kernel_rfl) ?_
        obtain ⟨v22, hv22, hM⟩ := bind_some' hM
        refine tr_sr hT hm [(2, .call [38000] [] [.sl v12.length 0 (v12.flatMap eI.b), iv y21] [] (bv v22))] [0, 6, 8, 10, 12, 108, 110, 112, 126, 76001, 112001] [(0, .d (.pt (eXFunctor.b a0) 0)), (6, .d (.pt (eXFunctor.b a0) 0)), (8, .d (iv s1)), (10, .d (iv s6)), (12, .d (.rs 38000 0 v12.length)), (108, .d (.rs 56000 0 v15.length)), (110, .d (iv (v15.length : Int))), (112, .d (iv s16)), (126, .d (bv (!v22))), (76001, .r (.arr 1 (v12.flatMap eI.o) [])), (112001, .r (.arr 1 (v15.flatMap eI.o) []))] (cc (B := [38000]) (ρ := []) (rB := [(38000, .arr 1 (v12.flatMap eI.o) [])]) ok280 (impl_has_c v12 y21 _ hv22) (.cons (.of1 (.rs (r := 38000) (sz := 1) (refs := []) (memB (by kernel_rfl)) (by kernel_rfl) (bor_flat eI_ok _ _ _))) (.cons (.same rfl) .nil)) (.inr ⟨.v, trivial⟩) .nil) (by kernel_rfl) (by kernel_rfl) ?_
        rcases Bool.eq_false_or_eq_true v22 with h23 | h23
        · have hM := ite_true' hM h23
          refine tr_condFe (e := !v22) (congrArg not h23) (by kernel_rfl) ?_
          refine tr_skip (b_n (q_n ?_))
          refine tr_r hT hm [] [0, 6, 8, 10, 12, 108, 110, 112, 76001, 112001] [(0, .d (.pt (eXFunctor.b a0) 0)), (6, .d (.pt (eXFunctor.b a0) 0)), (8, .d (iv s1)), (10, .d (iv s6)), (12, .d (.rs 38000 0 v12.length)), (108, .d (.rs 56000 0 v15.length)), (110, .d (iv (v15.length : Int))), (112, .d (iv (IntKind.i64.wrap (s16 + 1)))), (76001, .r (.arr 1 (v12.flatMap eI.o) [])), (112001, .r (.arr 1 (v15.flatMap eI.o) []))] .nil (by kernel_rfl) (by kernel_rfl) (l_n ?_)
          exact trl_start (ks := [0, 6, 8, 10, 12, 108, 110, 112, 76001, 112001]) (by kernel_rfl) (ih18 (IntKind.i64.wrap (s16 + 1)) hM)
        · have hM := ite_false' hM h23
          refine tr_condTe (e := !v22) (congrArg not h23) (by kernel_rfl) ?_
          refine tr_sr hT hm [] [4] [(4, .d (bv false))] .nil (by kernel_rfl) (by kernel_rfl) ?_
          refine tr_ret (b_r (q_r (l_r (b_r (b_r (q_r (l_r (b_r (b_r (q_r (l_r (b_r (q_r (rg_r ?_))))))))))))))
          obtain rfl := Option.some.inj hM
          exact retg (names := []) .nil (by kernel_rfl)
      · have hM := ite_false' hM h20
        refine tr_condFe (e := decide (s16 < (v15.length : Int))) h20 (by kernel_rfl) ?_
        refine tr_exit (q_x (l_x (b_h (b_n (q_n ?_)))))
        refine tr_r hT hm [] [0, 6, 8, 10] [(0, .d (.pt (eXFunctor.b a0) 0)), (6, .d (.pt (eXFunctor.b a0) 0)), (8, .d (iv s1)), (10, .d (iv (IntKind.i64.wrap (s6 + 1))))] .nil (by kernel_rfl) (by kernel_rfl) (l_n ?_)
        exact trl_start (ks := [0, 6, 8, 10]) (by kernel_rfl) (ih8 (IntKind.i64.wrap (s6 + 1)) hM)
    · have hM := ite_false' hM h10
      refine tr_condFe (e := decide (s6 < a0.Source.Objects)) h10 (by kernel_rfl) ?_
      refine tr_exit (q_x (l_x (b_h (b_n (q_n ?_)))))
      refine tr_r hT hm [] [0, 6, 8] [(0, .d (.pt (eXFunctor.b a0) 0)), (6, .d (.pt (eXFunctor.b a0) 0)), (8, .d (iv (IntKind.i64.wrap (s1 + 1))))] .nil (by kernel_rfl) (by kernel_rfl) (l_n ?_)
      exact trl_start (ks := [0, 6, 8]) (by kernel_rfl) (ih3 (IntKind.i64.wrap (s1 + 1)) hM)
  · have hM := ite_false' hM h5
    refine tr_condFe (e := decide (s1 < a0.Source.Objects)) h5 (by kernel_rfl) ?_
    refine tr_exit (q_x (l_x (b_h (q_n ?_))))
    refine tr_sr hT hm [] [4] [(4, .d (bv true))] .nil (by kernel_rfl) (by kernel_rfl) ?_
    refine tr_ret (rg_r ?_)
    obtain rfl := Option.some.inj hM
    exact retg (names := []) .nil (by kernel_rfl)

theorem ok247 : CallOk Try.prog 247 := callOk_of Try.func247 (by kernel_rfl) (by kernel_rfl)
theorem impl_Functor_isFaithful_c (a0 : XFunctor) (r : Bool) (hM : M.impl_Functor_isFaithful a0 = some r) :
    FnC Try.prog 247 [] [.pt (eXFunctor.b a0) 0] [] (bv r) := by
  refine fnc_startG (N := 53) (np := 500) hT Try.func247 rfl rfl (by kernel_rfl) ?_
  unfold M.impl_Functor_isFaithful at hM
  refine tr_start (ks := [0]) (st' := [(0, .d (.pt (eXFunctor.b a0) 0))]) (by kernel_rfl) ?_
  refine tr_sr hT hm [] [0] [(0, .d (.pt (eXFunctor.b a0) 0))] .nil (by kernel_rfl) (by kernel_rfl) ?_
  refine tr_seq ?_
  refine tr_sr hT hm [] [0, 18, 20] [(0, .d (.pt (eXFunctor.b a0) 0)), (18, .d (iv (a0.Arrows.length : Int))), (20, .d (iv 0))] .nil (by kernel_rfl) (by kernel_rfl) ?_
  refine tr_block ?_
  refine tr_iterS (fun (s1 : Int) => [(0, .d (.pt (eXFunctor.b a0) 0)), (18, .d (iv (a0.Arrows.length : Int))), (20, .d (iv s1))]) 0 [0, 18, 20] (by kernel_rfl) hM ?_
  intro n4 next2 ih3 s1 hM
  refine tr_sr hT hm [] [0, 18, 20, 22] [(0, .d (.pt (eXFunctor.b a0) 0)), (18, .d (iv (a0.Arrows.length : Int))), (20, .d (iv s1)), (22, .d (bv (decide (s1 < (a0.Arrows.length : Int)))))] .nil (by kernel_rfl) (by kernel_rfl) ?_
  refine tr_seq ?_
  rcases Bool.eq_false_or_eq_true (decide (s1 < (a0.Arrows.length : Int))) with h5 | h5
  · have hM := ite_true' hM h5
    refine tr_condTe (e := decide (s1 < (a0.Arrows.length : Int))) h5 (by kernel_rfl) ?_
    refine tr_skip (q_n ?_)
    refine tr_seq ?_
    refine tr_block ?_
    refine tr_sr hT hm [] [0, 6, 18, 20] [(0, .d (.pt (eXFunctor.b a0) 0)), (6, .d (iv s1)), (18, .d (iv (a0.Arrows.length : Int))), (20, .d (iv s1))] .nil (by kernel_rfl) (by kernel_rfl) ?_
    obtain ⟨h6, hM⟩ := chk_some hM
    refine tr_sr hT hm [] [0, 6, 18, 20, 38, 40] [(0, .d (.pt (eXFunctor.b a0) 0)), (6, .d (iv s1)), (18, .d (iv (a0.Arrows.length : Int))), (20, .d (iv s1)), (38, .d (iv (s1.toNat : Int))), (40, .d (iv 0))] (.cons h6.1 (.cons h6.2 .nil)) (by kernel_rfl) (by kernel_rfl) ?_
    refine tr_block ?_
    refine tr_iterS (fun (s7 : Int) => [(0, .d (.pt (eXFunctor.b a0) 0)), (6, .d (iv s1)), (18, .d (iv (a0.Arrows.length : Int))), (20, .d (iv s1)), (38, .d (iv (s1.toNat : Int))), (40, .d (iv s7))]) 0 [0, 6, 18, 20, 38, 40] (by kernel_rfl) hM ?_
    intro n10 next8 ih9 s7 hM
    refine tr_sr hT hm [] [0, 6, 18, 20, 38, 40, 42] [(0, .d (.pt (eXFunctor.b a0) 0)), (6, .d (iv s1)), (18, .d (iv (a0.Arrows.length : Int))), (20, .d (iv s1)), (38, .d (iv (s1.toNat : Int))), (40, .d (iv s7)), (42, .d (bv (decide (s7 < (s1.toNat : Int)))))] .nil (by kernel_rfl) (by kernel_rfl) ?_
    refine tr_seq ?_
    rcases Bool.eq_false_or_eq_true (decide (s7 < (s1.toNat : Int))) with h11 | h11
    · have hM := ite_true' hM h11
      refine tr_condTe (e := decide (s7 < (s1.toNat : Int))) h11 (by kernel_rfl) ?_
      refine tr_skip (q_n ?_)
      refine tr_seq ?_
      refine tr_block ?_
      refine tr_sr hT hm [] [0, 6, 8, 18, 20, 38, 40, 44] [(0, .d (.pt (eXFunctor.b a0) 0)), (6, .d (iv s1)), (8, .d (iv s7)), (18, .d (iv (a0.Arrows.length : Int))), (20, .d (iv s1)), (38, .d (iv (s1.toNat : Int))), (40, .d (iv s7)), (44, .d (iv s7))] .nil (by kernel_rfl) (by kernel_rfl) ?_
      obtain ⟨y12, hy12, hM⟩ := bind_some' hM
      have hy12' := idx_some hy12
      obtain ⟨y13, hy13, hM⟩ := bind_some' hM
      have hy13' := idx_some hy13
      rcases Bool.eq_false_or_eq_true (y12 == y13) with h14 | h14
      · have hM := ite_true' hM h14
        obtain ⟨v15, hv15, hM⟩ := bind_some' hM
        obtain ⟨v16, hv16, hM⟩ := bind_some' hM
        refine tr_sr hT hm [(6, .val (iv y12)), (13, .val (iv y13)), (15, .val (bv true)), (20, .call [] [] [.pt (eXCategory.b a0.Source) 0, iv s1] [] (.agg (eXends.o v15))), (25, .call [] [] [.pt (eXCategory.b a0.Source) 0, iv s7] [] (.agg (eXends.o v16)))] [0, 6, 18, 20, 38, 40, 44, 100] [(0, .d (.pt (eXFunctor.b a0) 0)), (6, .d (iv s1)), (18, .d (iv (a0.Arrows.length : Int))), (20, .d (iv s1)), (38, .d (iv (s1.toNat : Int))), (40, .d (iv s7)), (44, .d (iv s7)), (100, .d (bv (((v15.from_ == v16.from_) && (v15.to_ == v16.to_)) == true)))] (.cons hy12'.1 (.cons hy12'.2.1 (.cons (at_b0 eI_ok hy12'.2.2 (d := iv y12) (by kernel_rfl)) (.cons hy13'.1 (.cons hy13'.2.1 (.cons (at_b0 eI_ok hy13'.2.2 (d := iv y13) (by kernel_rfl)) (.cons (congrArg (fun b => bv b) h14) (cc (B := []) (ρ := []) (rB := []) ok162 (impl_Category_ends_c a0.Source s1 _ hv15) (.cons (.pass (.ptk (ds := eXFunctor.b a0) (ds' := eXCategory.b a0.Source) (off := 0) (n := 5) (by kernel_rfl) (by kernel_rfl) (by kernel_rfl))) (.cons (.same rfl) .nil)) (.inl rfl) (cc (B := []) (ρ := []) (rB := []) ok162 (impl_Category_ends_c a0.Source s7 _ hv16) (.cons (.pass (.ptk (ds := eXFunctor.b a0) (ds' := eXCategory.b a0.Source) (off := 0) (n := 5) (by kernel_rfl) (by kernel_rfl) (by kernel_rfl))) (.cons (.same rfl) .nil)) (.inl rfl) (.cons (by kernel_rfl : Try.prog.stoodInHeld 217 = false) (.cons (by kernel_rfl : Try.prog.eqGuardType Try.prog.depth 217 = false) .nil))))))))))) (by kernel_rfl) (by kernel_rfl) ?_
        rcases Bool.eq_false_or_eq_true (((v15.from_ == v16.from_) && (v15.to_ == v16.to_)) == true) with h17 | h17
        · have hM := ite_true' hM h17
          refine tr_condTe (e := ((v15.from_ == v16.from_) && (v15.to_ == v16.to_)) == true) h17 (by kernel_rfl) ?_
          refine tr_sr hT hm [] [4] [(4, .d (bv false))] .nil (by kernel_rfl) (by kernel_rfl) ?_
          refine tr_ret (b_r (q_r (l_r (b_r (b_r (q_r (l_r (b_r (q_r (rg_r ?_))))))))))
          obtain rfl := Option.some.inj hM
          exact retg (names := []) .nil (by kernel_rfl)
        · have hM := ite_false' hM h17
          refine tr_condFe (e := ((v15.from_ == v16.from_) && (v15.to_ == v16.to_)) == true) h17 (by kernel_rfl) ?_
          refine tr_skip (b_n (q_n ?_))
          refine tr_r hT hm [] [0, 6, 18, 20, 38, 40, 44] [(0, .d (.pt (eXFunctor.b a0) 0)), (6, .d (iv s1)), (18, .d (iv (a0.Arrows.length : Int))), (20, .d (iv s1)), (38, .d (iv (s1.toNat : Int))), (40, .d (iv (IntKind.i64.wrap (s7 + 1)))), (44, .d (iv s7))] .nil (by kernel_rfl) (by kernel_rfl) (l_n ?_)
          exact trl_start (ks := [0, 6, 18, 20, 38, 40]) (by kernel_rfl) (ih9 (IntKind.i64.wrap (s7 + 1)) hM)
      · have hM := ite_false' hM h14
        refine tr_sr hT hm [(6, .val (iv y12)), (13, .val (iv y13)), (15, .val (bv false))] [0, 6, 18, 20, 38, 40, 44, 100] [(0, .d (.pt (eXFunctor.b a0) 0)), (6, .d (iv s1)), (18, .d (iv (a0.Arrows.length : Int))), (20, .d (iv s1)), (38, .d (iv (s1.toNat : Int))), (40, .d (iv s7)), (44, .d (iv s7)), (100, .d (bv false))] (.cons hy12'.1 (.cons hy12'.2.1 (.cons (at_b0 eI_ok hy12'.2.2 (d := iv y12) (by kernel_rfl)) (.cons hy13'.1 (.cons hy13'.2.1 (.cons (at_b0 eI_ok hy13'.2.2 (d := iv y13) (by kernel_rfl)) (.cons (congrArg (fun b => bv b) h14) .nil))))))) (by kernel_rfl) (by kernel_rfl) ?_
        refine tr_condF (by kernel_rfl) ?_
        refine tr_skip (b_n (q_n ?_))
        refine tr_r hT hm [] [0, 6, 18, 20, 38, 40, 44] [(0, .d (.pt (eXFunctor.b a0) 0)), (6, .d (iv s1)), (18, .d (iv (a0.Arrows.length : Int))), (20, .d (iv s1)), (38, .d (iv (s1.toNat : Int))), (40, .d (iv (IntKind.i64.wrap (s7 + 1)))), (44, .d (iv s7))] .nil (by kernel_rfl) (by kernel_rfl) (l_n ?_)
        exact trl_start (ks := [0, 6, 18, 20, 38, 40]) (by kernel_rfl) (ih9 (IntKind.i64.wrap (s7 + 1)) hM)
    · have hM := ite_false' hM h11
      refine tr_condFe (e := decide (s7 < (s1.toNat : Int))) h11 (by kernel_rfl) ?_
      refine tr_exit (q_x (l_x (b_h (b_n (q_n ?_)))))
      refine tr_r hT hm [] [0, 18, 20] [(0, .d (.pt (eXFunctor.b a0) 0)), (18, .d (iv (a0.Arrows.length : Int))), (20, .d (iv (IntKind.i64.wrap (s1 + 1))))] .nil (by kernel_rfl) (by kernel_rfl) (l_n ?_)
      exact trl_start (ks := [0, 18, 20]) (by kernel_rfl) (ih3 (IntKind.i64.wrap (s1 + 1)) hM)
  · have hM := ite_false' hM h5
    refine tr_condFe (e := decide (s1 < (a0.Arrows.length : Int))) h5 (by kernel_rfl) ?_
    refine tr_exit (q_x (l_x (b_h (q_n ?_))))
    refine tr_sr hT hm [] [4] [(4, .d (bv true))] .nil (by kernel_rfl) (by kernel_rfl) ?_
    refine tr_ret (rg_r ?_)
    obtain rfl := Option.some.inj hM
    exact retg (names := []) .nil (by kernel_rfl)

theorem ok248 : CallOk Try.prog 248 := callOk_of Try.func248 (by kernel_rfl) (by kernel_rfl)
theorem impl_Functor_isEssentiallySurjective_c (a0 : XFunctor) (r : Bool) (hM : M.impl_Functor_isEssentiallySurjective a0 = some r) :
    FnC Try.prog 248 [] [.pt (eXFunctor.b a0) 0] [] (bv r) := by
  refine fnc_startG (N := 32) (np := 500) hT Try.func248 rfl rfl (by kernel_rfl) ?_
  unfold M.impl_Functor_isEssentiallySurjective at hM
  refine tr_start (ks := [0]) (st' := [(0, .d (.pt (eXFunctor.b a0) 0))]) (by kernel_rfl) ?_
  refine tr_sr hT hm [] [0] [(0, .d (.pt (eXFunctor.b a0) 0))] .nil (by kernel_rfl) (by kernel_rfl) ?_
  refine tr_scope ?_
  refine tr_seq ?_
  refine tr_label (q_n ?_)
  refine tr_seq ?_
  refine tr_sr hT hm [] [0, 6] [(0, .d (.pt (eXFunctor.b a0) 0)), (6, .d (iv 0))] .nil (by kernel_rfl) (by kernel_rfl) ?_
  refine tr_block ?_
  refine tr_iterS (fun (s1 : Int) => [(0, .d (.pt (eXFunctor.b a0) 0)), (6, .d (iv s1))]) 0 [0, 6] (by kernel_rfl) hM ?_
  intro n4 next2 ih3 s1 hM
  refine tr_seq ?_
  refine tr_sr hT hm [] [0, 6, 24] [(0, .d (.pt (eXFunctor.b a0) 0)), (6, .d (iv s1)), (24, .d (bv (decide (s1 < a0.Target.Objects))))] .nil (by kernel_rfl) (by kernel_rfl) ?_
  rcases Bool.eq_false_or_eq_true (decide (s1 < a0.Target.Objects)) with h5 | h5
  · have hM := ite_true' hM h5
    refine tr_condTe (e := decide (s1 < a0.Target.Objects)) h5 (by kernel_rfl) ?_
    refine tr_skip (q_n ?_)
    refine tr_seq ?_
    refine tr_block ?_
    refine tr_seq ?_
    refine tr_sr hT hm [] [0, 6, 36, 38, 40] [(0, .d (.pt (eXFunctor.b a0) 0)), (6, .d (iv s1)), (36, .d (.sl a0.Objects.length 0 (a0.Objects.flatMap eI.b))), (38, .d (iv (a0.Objects.length : Int))), (40, .d (iv 0))] .nil (by kernel_rfl) (by kernel_rfl) ?_
    refine tr_block ?_
    refine tr_iterS (fun (s6 : Int) => [(0, .d (.pt (eXFunctor.b a0) 0)), (6, .d (iv s1)), (36, .d (.sl a0.Objects.length 0 (a0.Objects.flatMap eI.b))), (38, .d (iv (a0.Objects.length : Int))), (40, .d (iv s6))]) 0 [0, 6, 36, 38, 40] (by kernel_rfl) hM ?_
    intro n9 next7 ih8 s6 hM
    refine tr_sr hT hm [] [0, 6, 36, 38, 40, 42] [(0, .d (.pt (eXFunctor.b a0) 0)), (6, .d (iv s1)), (36, .d (.sl a0.Objects.length 0 (a0.Objects.flatMap eI.b))), (38, .d (iv (a0.Objects.length : Int))), (40, .d (iv s6)), (42, .d (bv (decide (s6 < (a0.Objects.length : Int)))))] .nil (by kernel_rfl) (by kernel_rfl) ?_
    refine tr_seq ?_
    rcases Bool.eq_false_or_eq_true (decide (s6 < (a0.Objects.length : Int))) with h10 | h10
    · have hM := ite_true' hM h10
      refine tr_condTe (e := decide (s6 < (a0.Objects.length : Int))) h10 (by kernel_rfl) ?_
      refine tr_skip (q_n ?_)
      refine tr_seq ?_
      refine tr_block ?_
      obtain ⟨y11, hy11, hM⟩ := bind_some' hM
      have hy11' := idx_some hy11
      refine tr_sr hT hm [(1, .val (iv y11))] [0, 6, 10, 36, 38, 40] [(0, .d (.pt (eXFunctor.b a0) 0)), (6, .d (iv s1)), (10, .d (iv y11)), (36, .d (.sl a0.Objects.length 0 (a0.Objects.flatMap eI.b))), (38, .d (iv (a0.Objects.length : Int))), (40, .d (iv s6))] (.cons hy11'.1 (.cons hy11'.2.1 (.cons (at_b0 eI_ok hy11'.2.2 (d := iv y11) (by kernel_rfl)) .nil))) (by kernel_rfl) (by kernel_rfl) ?_
      obtain ⟨v12, hv12, hM⟩ := bind_some' hM
      refine tr_sr hT hm [(5, .call [] [] [.pt (eXCategory.b a0.Target) 0, iv y11, iv s1] [] (iv v12))] [0, 6, 36, 38, 40, 60] [(0, .d (.pt (eXFunctor.b a0) 0)), (6, .d (iv s1)), (36, .d (.sl a0.Objects.length 0 (a0.Objects.flatMap eI.b))), (38, .d (iv (a0.Objects.length : Int))), (40, .d (iv s6)), (60, .d (bv (decide (v12 ≥ 0))))] (cc (B := []) (ρ := []) (rB := []) ok249 (impl_Category_isomorphic_c a0.Target y11 s1 _ hv12) (.cons (.pass (.ptk (ds := eXFunctor.b a0) (ds' := eXCategory.b a0.Target) (off := 5) (n := 5) (by kernel_rfl) (by kernel_rfl) (by kernel_rfl))) (.cons (.same rfl) (.cons (.same rfl) .nil))) (.inl rfl) .nil) (by kernel_rfl) (by kernel_rfl) ?_
      rcases Bool.eq_false_or_eq_true (decide (v12 ≥ 0)) with h13 | h13
      · have hM := ite_true' hM h13
        refine tr_condTe (e := decide (v12 ≥ 0)) h13 (by kernel_rfl) ?_
        refine tr_exit (b_x (by kernel_rfl) (q_x (l_x (b_x (by kernel_rfl) (q_x (b_h (q_n ?_)))))))
        refine tr_r hT hm [] [0, 6] [(0, .d (.pt (eXFunctor.b a0) 0)), (6, .d (iv (IntKind.i64.wrap (s1 + 1))))] .nil (by kernel_rfl) (by kernel_rfl) (l_n ?_)
        exact trl_start (ks := [0, 6]) (by kernel_rfl) (ih3 (IntKind.i64.wrap (s1 + 1)) hM)
      · have hM := ite_false' hM h13
        refine tr_condFe (e := decide (v12 ≥ 0)) h13 (by kernel_rfl) ?_
        refine tr_skip (b_n (q_n ?_))
        refine tr_r hT hm [] [0, 6, 36, 38, 40] [(0, .d (.pt (eXFunctor.b a0) 0)), (6, .d (iv s1)), (36, .d (.sl a0.Objects.length 0 (a0.Objects.flatMap eI.b))), (38, .d (iv (a0.Objects.length : Int))), (40, .d (iv (IntKind.i64.wrap (s6 + 1))))] .nil (by kernel_rfl) (by kernel_rfl) (l_n ?_)
        exact trl_start (ks := [0, 6, 36, 38, 40]) (by kernel_rfl) (ih8 (IntKind.i64.wrap (s6 + 1)) hM)
    · have hM := ite_false' hM h10
      refine tr_condFe (e := decide (s6 < (a0.Objects.length : Int))) h10 (by kernel_rfl) ?_
      refine tr_exit (q_x (l_x (b_h (q_n ?_))))
      refine tr_sr hT hm [] [4] [(4, .d (bv false))] .nil (by kernel_rfl) (by kernel_rfl) ?_
      refine tr_ret (b_r (q_r (l_r (b_r (q_r (sc_r (rg_r ?_)))))))
      obtain rfl := Option.some.inj hM
      exact retg (names := []) .nil (by kernel_rfl)
  · have hM := ite_false' hM h5
    refine tr_condFe (e := decide (s1 < a0.Target.Objects)) h5 (by kernel_rfl) ?_
    refine tr_exit (q_x (l_x (b_h (q_n ?_))))
    refine tr_sr hT hm [] [4] [(4, .d (bv true))] .nil (by kernel_rfl) (by kernel_rfl) ?_
    refine tr_ret (sc_r (rg_r ?_))
    obtain rfl := Option.some.inj hM
    exact retg (names := []) .nil (by kernel_rfl)

theorem ok152 : CallOk Try.prog 152 := callOk_of Try.func152 (by kernel_rfl) (by kernel_rfl)
theorem impl_Functor_isEquivalence_c (a0 : XFunctor) (r : Bool) (hM : M.impl_Functor_isEquivalence a0 = some r) :
    FnC Try.prog 152 [] [.pt (eXFunctor.b a0) 0] [] (bv r) := by
  refine fnc_startG (N := 13) (np := 500) hT Try.func152 rfl rfl (by kernel_rfl) ?_
  unfold M.impl_Functor_isEquivalence at hM
  refine tr_start (ks := [0]) (st' := [(0, .d (.pt (eXFunctor.b a0) 0))]) (by kernel_rfl) ?_
  refine tr_sr hT hm [] [0] [(0, .d (.pt (eXFunctor.b a0) 0))] .nil (by kernel_rfl) (by kernel_rfl) ?_
  obtain ⟨v1, hv1, hM⟩ := bind_some' hM
  rcases Bool.eq_false_or_eq_true v1 with h2 | h2
  · have hM := ite_true' hM h2
    obtain ⟨v3, hv3, hM⟩ := bind_some' hM
    rcases Bool.eq_false_or_eq_true v3 with h4 | h4
    · have hM := ite_true' hM h4
      obtain ⟨v5, hv5, hM⟩ := bind_some' hM
      refine tr_sr hT hm [(1, .call [] [] [.pt (eXFunctor.b a0) 0] [] (bv v1)), (2, .val (bv true)), (4, .call [] [] [.pt (eXFunctor.b a0) 0] [] (bv v3)), (6, .val (bv true)), (8, .call [] [] [.pt (eXFunctor.b a0) 0] [] (bv v5))] [4] [(4, .d (bv v5))] (cc0 ok246 (impl_Functor_isFull_c a0 _ hv1) (by kernel_rfl) (.cons (congrArg (fun b => bv b) h2) (cc0 ok247 (impl_Functor_isFaithful_c a0 _ hv3) (by kernel_rfl) (.cons (congrArg (fun b => bv b) h4) (cc0 ok248 (impl_Functor_isEssentiallySurjective_c a0 _ hv5) (by kernel_rfl) .nil))))) (by kernel_rfl) (by kernel_rfl) ?_
      refine tr_ret (rg_r ?_)
      obtain rfl := Option.some.inj hM
      exact retg (names := []) .nil (by kernel_rfl)
    · have hM := ite_false' hM h4
      refine tr_sr hT hm [(1, .call [] [] [.pt (eXFunctor.b a0) 0] [] (bv v1)), (2, .val (bv true)), (4, .call [] [] [.pt (eXFunctor.b a0) 0] [] (bv v3)), (6, .val (bv false))] [4] [(4, .d (bv false))] (cc0 ok246 (impl_Functor_isFull_c a0 _ hv1) (by kernel_rfl) (.cons (congrArg (fun b => bv b) h2) (cc0 ok247 (impl_Functor_isFaithful_c a0 _ hv3) (by kernel_rfl) (.cons (congrArg (fun b => bv b) h4) .nil)))) (by kernel_rfl) (by kernel_rfl) ?_
      refine tr_ret (rg_r ?_)
      obtain rfl := Option.some.inj hM
      exact retg (names := []) .nil (by kernel_rfl)
  · have hM := ite_false' hM h2
    refine tr_sr hT hm [(1, .call [] [] [.pt (eXFunctor.b a0) 0] [] (bv v1)), (2, .val (bv false))] [4] [(4, .d (bv false))] (cc0 ok246 (impl_Functor_isFull_c a0 _ hv1) (by kernel_rfl) (.cons (congrArg (fun b => bv b) h2) .nil)) (by kernel_rfl) (by kernel_rfl) ?_
    refine tr_ret (rg_r ?_)
    obtain rfl := Option.some.inj hM
    exact retg (names := []) .nil (by kernel_rfl)

end Go.Proofs.Ytiikkfdehbcfaaa.Wz59
