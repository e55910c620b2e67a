/- Walks. Printed by wip/gen. -/
import Derived.Test.YtjmjhhhglbeacaaGxMs
import Derived.Test.YtjmjhhhglbeacaaGxy20W
namespace Go.Proofs.Ytjmjhhhglbeacaa.Wy20
open Go.Gx Go.Proofs.Ytjmjhhhglbeacaa.WvB Go.Proofs.Ytjmjhhhglbeacaa.WyN Go.Proofs.Ytjmjhhhglbeacaa.WvS Go.Proofs.Ytjmjhhhglbeacaa.WvQ

theorem ok182 : CallOk Try.prog 182 := callOk_of Try.func182 (by kernel_rfl) (by kernel_rfl)
theorem spec_l34Lifts_c (a0 : XFunctor) (a1 : Int) (a2 : Int) (r : (List Int)) (hM : M.spec_l34Lifts a0 a1 a2 = some r) :
    FnC Try.prog 182 [] [.agg (eXFunctor.b a0), iv a1, iv a2] [] (.fr 1 r.length (r.flatMap eI.o)) := by
  refine fnc_startG (N := 39) (np := 500) hT Try.func182 rfl rfl (by kernel_rfl) ?_
  unfold M.spec_l34Lifts at hM
  refine tr_start (ks := [0, 2, 4]) (st' := [(0, .d (.agg (eXFunctor.b a0))), (2, .d (iv a1)), (4, .d (iv a2))]) (by kernel_rfl) ?_
  refine tr_srN hT hm [] [2, 4, 6, 2007] [(2, .d (iv a1)), (4, .d (iv a2)), (6, .d (.rp 1003 0)), bxB 2007 (eXFunctor.b a0)] .nil (by kernel_rfl) (by kernel_rfl) ?_
  refine tr_srN hT hm [] [2, 4, 6, 14, 2007, 2019] [(2, .d (iv a1)), (4, .d (iv a2)), (6, .d (.rp 1003 0)), (14, .d (.rs 1009 0 (([] : List Int).length))), bxB 2007 (eXFunctor.b a0), (2019, .r (.arr 1 (([] : List Int).flatMap eI.o) []))] .nil (by kernel_rfl) (by kernel_rfl) ?_
  refine tr_seq ?_
  refine tr_srN hT hm [] [2, 4, 6, 14, 16, 2007, 2019] [(2, .d (iv a1)), (4, .d (iv a2)), (6, .d (.rp 1003 0)), (14, .d (.rs 1009 0 (([] : List Int).length))), (16, .d (iv 0)), bxB 2007 (eXFunctor.b a0), (2019, .r (.arr 1 (([] : List Int).flatMap eI.o) []))] .nil (by kernel_rfl) (by kernel_rfl) ?_
  refine tr_block ?_
  refine tr_iterS (fun (s1 : (List Int) × Int) => [(2, .d (iv a1)), (4, .d (iv a2)), (6, .d (.rp 1003 0)), (14, .d (.rs 1009 0 s1.1.length)), (16, .d (iv s1.2)), bxB 2007 (eXFunctor.b a0), (2019, .r (.arr 1 (s1.1.flatMap eI.o) []))]) (([] : List Int), 0) [2, 4, 6, 14, 16, 2007, 2019] (by kernel_rfl) hM ?_
  intro n4 next2 ih3 s1 hM
  refine tr_seq ?_
  refine tr_srN hT hm [] [2, 4, 6, 14, 16, 28, 2007, 2019] [(2, .d (iv a1)), (4, .d (iv a2)), (6, .d (.rp 1003 0)), (14, .d (.rs 1009 0 s1.1.length)), (16, .d (iv s1.2)), (28, .d (bv (decide (s1.2 < (a0.Arrows.length : Int))))), bxB 2007 (eXFunctor.b a0), (2019, .r (.arr 1 (s1.1.flatMap eI.o) []))] .nil (by kernel_rfl) (by kernel_rfl) ?_
  rcases Bool.eq_false_or_eq_true (decide (s1.2 < (a0.Arrows.length : Int))) with h5 | h5
  · have hM := ite_true' hM h5
    refine tr_condTe (e := decide (s1.2 < (a0.Arrows.length : Int))) h5 (by kernel_rfl) ?_
    refine tr_skip (q_n ?_)
    refine tr_seq ?_
    refine tr_block ?_
    obtain ⟨y6, hy6, hM⟩ := bind_some' hM
    have hy6' := idx_some hy6
    rcases Bool.eq_false_or_eq_true (y6 == a1) with h7 | h7
    · have hM := ite_true' hM h7
      obtain ⟨y8, hy8, hM⟩ := bind_some' hM
      have hy8' := idx_some hy8
      refine tr_srN hT hm [(5, .val (iv y6)), (8, .val (bv true)), (13, .val (iv y8))] [2, 4, 6, 14, 16, 52, 54, 56, 58, 60, 62, 64, 66, 2007, 2019] [(2, .d (iv a1)), (4, .d (iv a2)), (6, .d (.rp 1003 0)), (14, .d (.rs 1009 0 s1.1.length)), (16, .d (iv s1.2)), (52, .d (.rp 1003 11)), (54, .d (.sl a0.Arrows.length 0 (a0.Arrows.flatMap eI.b))), (56, .d (iv s1.2)), (58, .d (.pt (a0.Arrows.flatMap eI.b) (0 + s1.2.toNat * 1))), (60, .d (iv y8)), (62, .d (iv a2)), (64, .d (bv (y8 == a2))), (66, .d (bv (y8 == a2))), bxB 2007 (eXFunctor.b a0), (2019, .r (.arr 1 (s1.1.flatMap eI.o) []))] (.cons hy6'.1 (.cons hy6'.2.1 (.cons (at_b0 eI_ok hy6'.2.2 (d := iv y6) (by kernel_rfl)) (.cons (congrArg (fun b => bv b) h7) (.cons hy8'.1 (.cons hy8'.2.1 (.cons (at_b0 eI_ok hy8'.2.2 (d := iv y8) (by kernel_rfl)) .nil))))))) (by kernel_rfl) (by kernel_rfl) ?_
      rcases Bool.eq_false_or_eq_true (y8 == a2) with h9 | h9
      · have hM := ite_true' hM h9
        refine tr_condTe (e := y8 == a2) h9 (by kernel_rfl) ?_
        obtain ⟨h10, hM⟩ := chk_some hM
        refine tr_rN hT hm [(3, .app true)] [2, 4, 6, 14, 16, 52, 54, 56, 58, 60, 62, 64, 2007, 2075] [(2, .d (iv a1)), (4, .d (iv a2)), (6, .d (.rp 1003 0)), (14, .d (.rs 1037 0 (s1.1.length + (([s1.2] : List Int).length)))), (16, .d (iv s1.2)), (52, .d (.rp 1003 11)), (54, .d (.sl a0.Arrows.length 0 (a0.Arrows.flatMap eI.b))), (56, .d (iv s1.2)), (58, .d (.pt (a0.Arrows.flatMap eI.b) (0 + s1.2.toNat * 1))), (60, .d (iv y8)), (62, .d (iv a2)), (64, .d (bv (y8 == a2))), bxB 2007 (eXFunctor.b a0), (2075, .r (.arr 1 (s1.1.flatMap eI.o ++ ([s1.2] : List Int).flatMap eI.o) []))] (.cons (lenO_flat eI_ok s1.1) (.cons (lenO_flat eI_ok ([s1.2] : List Int)) (.cons h10 .nil))) (by kernel_rfl) (by kernel_rfl) (b_n (q_n ?_))
        refine Tr.by (imp_cvE (r := 1037) (sz := 1) (refs := []) (flat_app eI.o s1.1 ([s1.2] : List Int)) (menO_flat eI_ok _) (by kernel_rfl)) ?_
        refine Tr.by (imp_cvD (k := 14) (congrArg (D.rs 1037 0) ((len_app s1.1 ([s1.2] : List Int)) : s1.1.length + (([s1.2] : List Int).length) = (s1.1 ++ ([s1.2] : List Int)).length)) (by kernel_rfl)) ?_
        refine tr_rN hT hm [] [2, 4, 6, 14, 16, 52, 54, 56, 58, 60, 62, 64, 2007, 2075] [(2, .d (iv a1)), (4, .d (iv a2)), (6, .d (.rp 1003 0)), (14, .d (.rs 1037 0 ((s1.1 ++ ([s1.2] : List Int)).length))), (16, .d (iv (IntKind.i64.wrap (s1.2 + 1)))), (52, .d (.rp 1003 11)), (54, .d (.sl a0.Arrows.length 0 (a0.Arrows.flatMap eI.b))), (56, .d (iv s1.2)), (58, .d (.pt (a0.Arrows.flatMap eI.b) (0 + s1.2.toNat * 1))), (60, .d (iv y8)), (62, .d (iv a2)), (64, .d (bv (y8 == a2))), bxB 2007 (eXFunctor.b a0), (2075, .r (.arr 1 ((s1.1 ++ ([s1.2] : List Int)).flatMap eI.o) []))] .nil (by kernel_rfl) (by kernel_rfl) (l_n ?_)
        refine TrL.by (imp_sel (ks := [2, 4, 6, 14, 16, 2007, 2075]) (st' := [(2, .d (iv a1)), (4, .d (iv a2)), (6, .d (.rp 1003 0)), (14, .d (.rs 1037 0 ((s1.1 ++ ([s1.2] : List Int)).length))), (16, .d (iv (IntKind.i64.wrap (s1.2 + 1)))), bxB 2007 (eXFunctor.b a0), (2075, .r (.arr 1 ((s1.1 ++ ([s1.2] : List Int)).flatMap eI.o) []))]) (by kernel_rfl)) ?_
        refine TrL.by (imp_rename (r := 1037) (q := 1009) (by kernel_rfl) (Nat.le_of_ble_eq_true rfl)) ?_
        exact trl_start (ks := [2, 4, 6, 14, 16, 2007, 2019]) (by kernel_rfl) (ih3 (s1.1 ++ ([s1.2] : List Int), IntKind.i64.wrap (s1.2 + 1)) hM)
      · have hM := ite_false' hM h9
        refine tr_condFe (e := y8 == a2) h9 (by kernel_rfl) ?_
        refine tr_skip (b_n (q_n ?_))
        refine tr_rN hT hm [] [2, 4, 6, 14, 16, 52, 54, 56, 58, 60, 62, 64, 2007, 2019] [(2, .d (iv a1)), (4, .d (iv a2)), (6, .d (.rp 1003 0)), (14, .d (.rs 1009 0 s1.1.length)), (16, .d (iv (IntKind.i64.wrap (s1.2 + 1)))), (52, .d (.rp 1003 11)), (54, .d (.sl a0.Arrows.length 0 (a0.Arrows.flatMap eI.b))), (56, .d (iv s1.2)), (58, .d (.pt (a0.Arrows.flatMap eI.b) (0 + s1.2.toNat * 1))), (60, .d (iv y8)), (62, .d (iv a2)), (64, .d (bv (y8 == a2))), bxB 2007 (eXFunctor.b a0), (2019, .r (.arr 1 (s1.1.flatMap eI.o) []))] .nil (by kernel_rfl) (by kernel_rfl) (l_n ?_)
        exact trl_start (ks := [2, 4, 6, 14, 16, 2007, 2019]) (by kernel_rfl) (ih3 (s1.1, IntKind.i64.wrap (s1.2 + 1)) hM)
    · have hM := ite_false' hM h7
      refine tr_srN hT hm [(5, .val (iv y6)), (8, .val (bv false))] [2, 4, 6, 14, 16, 66, 2007, 2019] [(2, .d (iv a1)), (4, .d (iv a2)), (6, .d (.rp 1003 0)), (14, .d (.rs 1009 0 s1.1.length)), (16, .d (iv s1.2)), (66, .d (bv false)), bxB 2007 (eXFunctor.b a0), (2019, .r (.arr 1 (s1.1.flatMap eI.o) []))] (.cons hy6'.1 (.cons hy6'.2.1 (.cons (at_b0 eI_ok hy6'.2.2 (d := iv y6) (by kernel_rfl)) (.cons (congrArg (fun b => bv b) h7) .nil)))) (by kernel_rfl) (by kernel_rfl) ?_
      refine tr_condF (by kernel_rfl) ?_
      refine tr_skip (b_n (q_n ?_))
      refine tr_rN hT hm [] [2, 4, 6, 14, 16, 2007, 2019] [(2, .d (iv a1)), (4, .d (iv a2)), (6, .d (.rp 1003 0)), (14, .d (.rs 1009 0 s1.1.length)), (16, .d (iv (IntKind.i64.wrap (s1.2 + 1)))), bxB 2007 (eXFunctor.b a0), (2019, .r (.arr 1 (s1.1.flatMap eI.o) []))] .nil (by kernel_rfl) (by kernel_rfl) (l_n ?_)
      exact trl_start (ks := [2, 4, 6, 14, 16, 2007, 2019]) (by kernel_rfl) (ih3 (s1.1, IntKind.i64.wrap (s1.2 + 1)) hM)
  · have hM := ite_false' hM h5
    refine tr_condFe (e := decide (s1.2 < (a0.Arrows.length : Int))) h5 (by kernel_rfl) ?_
    refine tr_exit (q_x (l_x (b_h (q_n ?_))))
    refine tr_srN hT hm [] [12, 2019] [(12, .d (.rs 1009 0 s1.1.length)), (2019, .r (.arr 1 (s1.1.flatMap eI.o) []))] .nil (by kernel_rfl) (by kernel_rfl) ?_
    refine tr_ret (rg_r ?_)
    obtain rfl := Option.some.inj hM
    exact retg (names := []) (.cons (lenO_flat eI_ok s1.1) .nil) (by kernel_rfl)

theorem ok79 : CallOk Try.prog 79 := callOk_of Try.func79 (by kernel_rfl) (by kernel_rfl)
theorem spec_l34Discrete_c (a0 : XFunctor) (r : Bool) (hM : M.spec_l34Discrete a0 = some r) :
    FnC Try.prog 79 [] [.agg (eXFunctor.b a0)] [] (bv r) := by
  refine fnc_startG (N := 40) (np := 500) hT Try.func79 rfl rfl (by kernel_rfl) ?_
  unfold M.spec_l34Discrete at hM
  refine tr_start (ks := [0]) (st' := [(0, .d (.agg (eXFunctor.b a0)))]) (by kernel_rfl) ?_
  refine tr_srN hT hm [] [2, 2003] [(2, .d (.rp 1001 0)), bxB 2003 (eXFunctor.b a0)] .nil (by kernel_rfl) (by kernel_rfl) ?_
  refine tr_seq ?_
  refine tr_srN hT hm [] [2, 6, 2003] [(2, .d (.rp 1001 0)), (6, .d (iv 0)), bxB 2003 (eXFunctor.b a0)] .nil (by kernel_rfl) (by kernel_rfl) ?_
  refine tr_block ?_
  refine tr_iterS (fun (s1 : Int) => [(2, .d (.rp 1001 0)), (6, .d (iv s1)), bxB 2003 (eXFunctor.b a0)]) 0 [2, 6, 2003] (by kernel_rfl) hM ?_
  intro n4 next2 ih3 s1 hM
  refine tr_seq ?_
  refine tr_srN hT hm [] [2, 6, 18, 2003] [(2, .d (.rp 1001 0)), (6, .d (iv s1)), (18, .d (bv (decide (s1 < a0.Source.Objects)))), bxB 2003 (eXFunctor.b a0)] .nil (by kernel_rfl) (by kernel_rfl) ?_
  rcases Bool.eq_false_or_eq_true (decide (s1 < a0.Source.Objects)) with h5 | h5
  · have hM := ite_true' hM h5
    refine tr_condTe (e := decide (s1 < a0.Source.Objects)) h5 (by kernel_rfl) ?_
    refine tr_skip (q_n ?_)
    refine tr_seq ?_
    refine tr_block ?_
    refine tr_srN hT hm [] [2, 6, 8, 2003] [(2, .d (.rp 1001 0)), (6, .d (iv s1)), (8, .d (iv 0)), bxB 2003 (eXFunctor.b a0)] .nil (by kernel_rfl) (by kernel_rfl) ?_
    refine tr_block ?_
    refine tr_iterS (fun (s6 : Int) => [(2, .d (.rp 1001 0)), (6, .d (iv s1)), (8, .d (iv s6)), bxB 2003 (eXFunctor.b a0)]) 0 [2, 6, 8, 2003] (by kernel_rfl) hM ?_
    intro n9 next7 ih8 s6 hM
    refine tr_seq ?_
    refine tr_srN hT hm [] [2, 6, 8, 34, 2003] [(2, .d (.rp 1001 0)), (6, .d (iv s1)), (8, .d (iv s6)), (34, .d (bv (decide (s6 < (a0.Target.From.length : Int))))), bxB 2003 (eXFunctor.b a0)] .nil (by kernel_rfl) (by kernel_rfl) ?_
    rcases Bool.eq_false_or_eq_true (decide (s6 < (a0.Target.From.length : Int))) with h10 | h10
    · have hM := ite_true' hM h10
      refine tr_condTe (e := decide (s6 < (a0.Target.From.length : Int))) h10 (by kernel_rfl) ?_
      refine tr_skip (q_n ?_)
      refine tr_seq ?_
      refine tr_block ?_
      obtain ⟨y11, hy11, hM⟩ := bind_some' hM
      have hy11' := idx_some hy11
      obtain ⟨y12, hy12, hM⟩ := bind_some' hM
      have hy12' := idx_some hy12
      rcases Bool.eq_false_or_eq_true (y11 == y12) with h13 | h13
      · have hM := ite_true' hM h13
        obtain ⟨v14, hv14, hM⟩ := bind_some' hM
        refine tr_srN hT hm [(5, .val (iv y11)), (10, .val (iv y12)), (12, .val (bv true)), (16, .call [] [] [.agg (eXFunctor.b a0), iv s1, iv s6] [] (.fr 1 v14.length (v14.flatMap eI.o)))] [2, 6, 8, 66, 68, 70, 72, 74, 76, 78, 2003, 76001] [(2, .d (.rp 1001 0)), (6, .d (iv s1)), (8, .d (iv s6)), (66, .d (.agg (eXFunctor.b a0))), (68, .d (iv s1)), (70, .d (iv s6)), (72, .d (.rs 38000 0 v14.length)), (74, .d (iv (v14.length : Int))), (76, .d (bv ((v14.length : Int) != 1))), (78, .d (bv ((v14.length : Int) != 1))), bxB 2003 (eXFunctor.b a0), (76001, .r (.arr 1 (v14.flatMap eI.o) []))] (.cons hy11'.1 (.cons hy11'.2.1 (.cons (at_b0 eI_ok hy11'.2.2 (d := iv y11) (by kernel_rfl)) (.cons hy12'.1 (.cons hy12'.2.1 (.cons (at_b0 eI_ok hy12'.2.2 (d := iv y12) (by kernel_rfl)) (.cons (congrArg (fun b => bv b) h13) (cc0 ok182 (spec_l34Lifts_c a0 s1 s6 _ hv14) (by kernel_rfl) .nil)))))))) (by kernel_rfl) (by kernel_rfl) ?_
        rcases Bool.eq_false_or_eq_true ((v14.length : Int) != 1) with h15 | h15
        · have hM := ite_true' hM h15
          refine tr_condTe (e := (v14.length : Int) != 1) h15 (by kernel_rfl) ?_
          refine tr_srN hT hm [] [4] [(4, .d (bv false))] .nil (by kernel_rfl) (by kernel_rfl) ?_
          refine tr_ret (b_r (q_r (l_r (b_r (b_r (q_r (l_r (b_r (q_r (rg_r ?_))))))))))
          obtain rfl := Option.some.inj hM
          exact retg (names := []) .nil (by kernel_rfl)
        · have hM := ite_false' hM h15
          refine tr_condFe (e := (v14.length : Int) != 1) h15 (by kernel_rfl) ?_
          refine tr_skip (b_n (q_n ?_))
          refine tr_rN hT hm [] [2, 6, 8, 66, 68, 70, 72, 74, 76, 2003, 76001] [(2, .d (.rp 1001 0)), (6, .d (iv s1)), (8, .d (iv (IntKind.i64.wrap (s6 + 1)))), (66, .d (.agg (eXFunctor.b a0))), (68, .d (iv s1)), (70, .d (iv s6)), (72, .d (.rs 38000 0 v14.length)), (74, .d (iv (v14.length : Int))), (76, .d (bv ((v14.length : Int) != 1))), bxB 2003 (eXFunctor.b a0), (76001, .r (.arr 1 (v14.flatMap eI.o) []))] .nil (by kernel_rfl) (by kernel_rfl) (l_n ?_)
          exact trl_start (ks := [2, 6, 8, 2003]) (by kernel_rfl) (ih8 (IntKind.i64.wrap (s6 + 1)) hM)
      · have hM := ite_false' hM h13
        refine tr_srN hT hm [(5, .val (iv y11)), (10, .val (iv y12)), (12, .val (bv false))] [2, 6, 8, 78, 2003] [(2, .d (.rp 1001 0)), (6, .d (iv s1)), (8, .d (iv s6)), (78, .d (bv false)), bxB 2003 (eXFunctor.b a0)] (.cons hy11'.1 (.cons hy11'.2.1 (.cons (at_b0 eI_ok hy11'.2.2 (d := iv y11) (by kernel_rfl)) (.cons hy12'.1 (.cons hy12'.2.1 (.cons (at_b0 eI_ok hy12'.2.2 (d := iv y12) (by kernel_rfl)) (.cons (congrArg (fun b => bv b) h13) .nil))))))) (by kernel_rfl) (by kernel_rfl) ?_
        refine tr_condF (by kernel_rfl) ?_
        refine tr_skip (b_n (q_n ?_))
        refine tr_rN hT hm [] [2, 6, 8, 2003] [(2, .d (.rp 1001 0)), (6, .d (iv s1)), (8, .d (iv (IntKind.i64.wrap (s6 + 1)))), bxB 2003 (eXFunctor.b a0)] .nil (by kernel_rfl) (by kernel_rfl) (l_n ?_)
        exact trl_start (ks := [2, 6, 8, 2003]) (by kernel_rfl) (ih8 (IntKind.i64.wrap (s6 + 1)) hM)
    · have hM := ite_false' hM h10
      refine tr_condFe (e := decide (s6 < (a0.Target.From.length : Int))) h10 (by kernel_rfl) ?_
      refine tr_exit (q_x (l_x (b_h (b_n (q_n ?_)))))
      refine tr_rN hT hm [] [2, 6, 2003] [(2, .d (.rp 1001 0)), (6, .d (iv (IntKind.i64.wrap (s1 + 1)))), bxB 2003 (eXFunctor.b a0)] .nil (by kernel_rfl) (by kernel_rfl) (l_n ?_)
      exact trl_start (ks := [2, 6, 2003]) (by kernel_rfl) (ih3 (IntKind.i64.wrap (s1 + 1)) hM)
  · have hM := ite_false' hM h5
    refine tr_condFe (e := decide (s1 < a0.Source.Objects)) h5 (by kernel_rfl) ?_
    refine tr_exit (q_x (l_x (b_h (q_n ?_))))
    refine tr_srN hT hm [] [4] [(4, .d (bv true))] .nil (by kernel_rfl) (by kernel_rfl) ?_
    refine tr_ret (rg_r ?_)
    obtain rfl := Option.some.inj hM
    exact retg (names := []) .nil (by kernel_rfl)

theorem ok183 : CallOk Try.prog 183 := callOk_of Try.func183 (by kernel_rfl) (by kernel_rfl)
theorem spec_l34Over_c (a0 : XFunctor) (a1 : Int) (r : (List Int)) (hM : M.spec_l34Over a0 a1 = some r) :
    FnC Try.prog 183 [] [.agg (eXFunctor.b a0), iv a1] [] (.fr 1 r.length (r.flatMap eI.o)) := by
  refine fnc_startG (N := 27) (np := 500) hT Try.func183 rfl rfl (by kernel_rfl) ?_
  unfold M.spec_l34Over at hM
  refine tr_start (ks := [0, 2]) (st' := [(0, .d (.agg (eXFunctor.b a0))), (2, .d (iv a1))]) (by kernel_rfl) ?_
  refine tr_srN hT hm [] [2, 4, 2005] [(2, .d (iv a1)), (4, .d (.rp 1002 0)), bxB 2005 (eXFunctor.b a0)] .nil (by kernel_rfl) (by kernel_rfl) ?_
  refine tr_srN hT hm [] [2, 4, 10, 2005, 2015] [(2, .d (iv a1)), (4, .d (.rp 1002 0)), (10, .d (.rs 1007 0 (([] : List Int).length))), bxB 2005 (eXFunctor.b a0), (2015, .r (.arr 1 (([] : List Int).flatMap eI.o) []))] .nil (by kernel_rfl) (by kernel_rfl) ?_
  refine tr_seq ?_
  refine tr_srN hT hm [] [2, 4, 10, 12, 2005, 2015] [(2, .d (iv a1)), (4, .d (.rp 1002 0)), (10, .d (.rs 1007 0 (([] : List Int).length))), (12, .d (iv 0)), bxB 2005 (eXFunctor.b a0), (2015, .r (.arr 1 (([] : List Int).flatMap eI.o) []))] .nil (by kernel_rfl) (by kernel_rfl) ?_
  refine tr_block ?_
  refine tr_iterS (fun (s1 : (List Int) × Int) => [(2, .d (iv a1)), (4, .d (.rp 1002 0)), (10, .d (.rs 1007 0 s1.1.length)), (12, .d (iv s1.2)), bxB 2005 (eXFunctor.b a0), (2015, .r (.arr 1 (s1.1.flatMap eI.o) []))]) (([] : List Int), 0) [2, 4, 10, 12, 2005, 2015] (by kernel_rfl) hM ?_
  intro n4 next2 ih3 s1 hM
  refine tr_seq ?_
  refine tr_srN hT hm [] [2, 4, 10, 12, 24, 2005, 2015] [(2, .d (iv a1)), (4, .d (.rp 1002 0)), (10, .d (.rs 1007 0 s1.1.length)), (12, .d (iv s1.2)), (24, .d (bv (decide (s1.2 < (a0.Objects.length : Int))))), bxB 2005 (eXFunctor.b a0), (2015, .r (.arr 1 (s1.1.flatMap eI.o) []))] .nil (by kernel_rfl) (by kernel_rfl) ?_
  rcases Bool.eq_false_or_eq_true (decide (s1.2 < (a0.Objects.length : Int))) with h5 | h5
  · have hM := ite_true' hM h5
    refine tr_condTe (e := decide (s1.2 < (a0.Objects.length : Int))) h5 (by kernel_rfl) ?_
    refine tr_skip (q_n ?_)
    refine tr_seq ?_
    refine tr_block ?_
    obtain ⟨y6, hy6, hM⟩ := bind_some' hM
    have hy6' := idx_some hy6
    refine tr_srN hT hm [(4, .val (iv y6))] [2, 4, 10, 12, 42, 2005, 2015] [(2, .d (iv a1)), (4, .d (.rp 1002 0)), (10, .d (.rs 1007 0 s1.1.length)), (12, .d (iv s1.2)), (42, .d (bv (y6 == a1))), bxB 2005 (eXFunctor.b a0), (2015, .r (.arr 1 (s1.1.flatMap eI.o) []))] (.cons hy6'.1 (.cons hy6'.2.1 (.cons (at_b0 eI_ok hy6'.2.2 (d := iv y6) (by kernel_rfl)) .nil))) (by kernel_rfl) (by kernel_rfl) ?_
    rcases Bool.eq_false_or_eq_true (y6 == a1) with h7 | h7
    · have hM := ite_true' hM h7
      refine tr_condTe (e := y6 == a1) h7 (by kernel_rfl) ?_
      obtain ⟨h8, hM⟩ := chk_some hM
      refine tr_rN hT hm [(3, .app true)] [2, 4, 10, 12, 2005, 2051] [(2, .d (iv a1)), (4, .d (.rp 1002 0)), (10, .d (.rs 1025 0 (s1.1.length + (([s1.2] : List Int).length)))), (12, .d (iv s1.2)), bxB 2005 (eXFunctor.b a0), (2051, .r (.arr 1 (s1.1.flatMap eI.o ++ ([s1.2] : List Int).flatMap eI.o) []))] (.cons (lenO_flat eI_ok s1.1) (.cons (lenO_flat eI_ok ([s1.2] : List Int)) (.cons h8 .nil))) (by kernel_rfl) (by kernel_rfl) (b_n (q_n ?_))
      refine Tr.by (imp_cvE (r := 1025) (sz := 1) (refs := []) (flat_app eI.o s1.1 ([s1.2] : List Int)) (menO_flat eI_ok _) (by kernel_rfl)) ?_
      refine Tr.by (imp_cvD (k := 10) (congrArg (D.rs 1025 0) ((len_app s1.1 ([s1.2] : List Int)) : s1.1.length + (([s1.2] : List Int).length) = (s1.1 ++ ([s1.2] : List Int)).length)) (by kernel_rfl)) ?_
      refine tr_rN hT hm [] [2, 4, 10, 12, 2005, 2051] [(2, .d (iv a1)), (4, .d (.rp 1002 0)), (10, .d (.rs 1025 0 ((s1.1 ++ ([s1.2] : List Int)).length))), (12, .d (iv (IntKind.i64.wrap (s1.2 + 1)))), bxB 2005 (eXFunctor.b a0), (2051, .r (.arr 1 ((s1.1 ++ ([s1.2] : List Int)).flatMap eI.o) []))] .nil (by kernel_rfl) (by kernel_rfl) (l_n ?_)
      refine TrL.by (imp_sel (ks := [2, 4, 10, 12, 2005, 2051]) (st' := [(2, .d (iv a1)), (4, .d (.rp 1002 0)), (10, .d (.rs 1025 0 ((s1.1 ++ ([s1.2] : List Int)).length))), (12, .d (iv (IntKind.i64.wrap (s1.2 + 1)))), bxB 2005 (eXFunctor.b a0), (2051, .r (.arr 1 ((s1.1 ++ ([s1.2] : List Int)).flatMap eI.o) []))]) (by kernel_rfl)) ?_
      refine TrL.by (imp_rename (r := 1025) (q := 1007) (by kernel_rfl) (Nat.le_of_ble_eq_true rfl)) ?_
      exact trl_start (ks := [2, 4, 10, 12, 2005, 2015]) (by kernel_rfl) (ih3 (s1.1 ++ ([s1.2] : List Int), IntKind.i64.wrap (s1.2 + 1)) hM)
    · have hM := ite_false' hM h7
      refine tr_condFe (e := y6 == a1) h7 (by kernel_rfl) ?_
      refine tr_skip (b_n (q_n ?_))
      refine tr_rN hT hm [] [2, 4, 10, 12, 2005, 2015] [(2, .d (iv a1)), (4, .d (.rp 1002 0)), (10, .d (.rs 1007 0 s1.1.length)), (12, .d (iv (IntKind.i64.wrap (s1.2 + 1)))), bxB 2005 (eXFunctor.b a0), (2015, .r (.arr 1 (s1.1.flatMap eI.o) []))] .nil (by kernel_rfl) (by kernel_rfl) (l_n ?_)
      exact trl_start (ks := [2, 4, 10, 12, 2005, 2015]) (by kernel_rfl) (ih3 (s1.1, IntKind.i64.wrap (s1.2 + 1)) hM)
  · have hM := ite_false' hM h5
    refine tr_condFe (e := decide (s1.2 < (a0.Objects.length : Int))) h5 (by kernel_rfl) ?_
    refine tr_exit (q_x (l_x (b_h (q_n ?_))))
    refine tr_srN hT hm [] [8, 2015] [(8, .d (.rs 1007 0 s1.1.length)), (2015, .r (.arr 1 (s1.1.flatMap eI.o) []))] .nil (by kernel_rfl) (by kernel_rfl) ?_
    refine tr_ret (rg_r ?_)
    obtain rfl := Option.some.inj hM
    exact retg (names := []) (.cons (lenO_flat eI_ok s1.1) .nil) (by kernel_rfl)

theorem ok80 : CallOk Try.prog 80 := callOk_of Try.func80 (by kernel_rfl) (by kernel_rfl)
theorem spec_l34Sets_c (a0 : XFunctor) (r : XSetFunctor) (hM : M.spec_l34Sets a0 = some r) :
    FnC Try.prog 80 [] [.agg (eXFunctor.b a0)] [] (.agg (eXSetFunctor.o r)) := by
  refine fnc_startG (N := 101) (np := 500) hT Try.func80 rfl rfl (by kernel_rfl) ?_
  unfold M.spec_l34Sets at hM
  refine tr_start (ks := [0]) (st' := [(0, .d (.agg (eXFunctor.b a0)))]) (by kernel_rfl) ?_
  refine tr_srN hT hm [] [2, 4, 2003, 2005] [(2, .d (.rp 1001 0)), (4, .d (.rp 1002 0)), bxB 2003 (eXFunctor.b a0), (2005, .r (.arr 1 [iv 0, nilv, nilv, nilv, nilv, nilv, nilv] []))] .nil (by kernel_rfl) (by kernel_rfl) ?_
  obtain ⟨v1, hv1, hM⟩ := bind_some' hM
  refine tr_srN hT hm [(2, .call [] [] [.agg (eXCategory.b a0.Target)] [] (.agg (eXCategory.o v1)))] [2, 4, 6, 8, 2003, 2005, 2007, 2031, 30003, 30005, 30007, 30009] ([(2, .d (.rp 1001 0)), (4, .d (.rp 1002 0)), (6, .d (.rp 1003 0)), (8, .d (.rs 1015 0 (([] : List (List Int)).length))), bxB 2003 (eXFunctor.b a0), (2005, .r (.arr 1 [iv 0, nilv, nilv, nilv, nilv, nilv, nilv] [])), (2007, .r (.arr 1 [iv v1.Objects, .rs 15001 0 v1.From.length, .rs 15002 0 v1.To.length, .rs 15003 0 v1.Identity.length, .rs 15004 0 v1.Composites.length, nilv, nilv] [15001, 15002, 15003, 15004])), (2031, .r (.arr 1 (([] : List (List Int)).flatMap (eS eI).o) []))] ++ rsS 15000 (eXCategory.o v1)) (cc0 ok153 (spec_l02Own_c a0.Target _ hv1) (by kernel_rfl) (.cons (Nat.le_of_ble_eq_true (n := 7) (m := 7) rfl) .nil)) (by kernel_rfl) (by kernel_rfl) ?_
  refine tr_seq ?_
  refine tr_srN hT hm [] [2, 4, 6, 8, 10, 2003, 2005, 2007, 2031, 30003, 30005, 30007, 30009] ([(2, .d (.rp 1001 0)), (4, .d (.rp 1002 0)), (6, .d (.rp 1003 0)), (8, .d (.rs 1015 0 (([] : List (List Int)).length))), (10, .d (iv 0)), bxB 2003 (eXFunctor.b a0), (2005, .r (.arr 1 [iv 0, nilv, nilv, nilv, nilv, nilv, nilv] [])), (2007, .r (.arr 1 [iv v1.Objects, .rs 15001 0 v1.From.length, .rs 15002 0 v1.To.length, .rs 15003 0 v1.Identity.length, .rs 15004 0 v1.Composites.length, nilv, nilv] [15001, 15002, 15003, 15004])), (2031, .r (.arr 1 (([] : List (List Int)).flatMap (eS eI).o) []))] ++ rsS 15000 (eXCategory.o v1)) .nil (by kernel_rfl) (by kernel_rfl) ?_
  refine tr_block ?_
  refine Tr.by (imp_cvB (r := 1003) (sz := 1) (cells := [iv v1.Objects, .rs 15001 0 v1.From.length, .rs 15002 0 v1.To.length, .rs 15003 0 v1.Identity.length, .rs 15004 0 v1.Composites.length, nilv, nilv]) (cells' := [iv v1.Objects, .rs 15001 0 v1.From.length, .rs 15002 0 v1.To.length, .rs 15003 0 v1.Identity.length, .rs 15004 0 v1.Composites.length, .fr 1 ([] : List Int).length (([] : List Int).flatMap eI.o), nilv]) (refs := [15001, 15002, 15003, 15004]) (refs' := [15001, 15002, 15003, 15004]) (.cons (.refl _) (.cons (.refl _) (.cons (.refl _) (.cons (.refl _) (.cons (.refl _) (.cons Sub.nil_fr (.cons (.refl _) .nil))))))) (by kernel_rfl) (by kernel_rfl) (by kernel_rfl)) ?_
  refine tr_iterS (fun (s2 : (List (List Int)) × (List Int) × Int) => ([(2, .d (.rp 1001 0)), (4, .d (.rp 1002 0)), (6, .d (.rp 1003 0)), (8, .d (.rs 1015 0 s2.1.length)), (10, .d (iv s2.2.2)), bxB 2003 (eXFunctor.b a0), (2005, .r (.arr 1 [iv 0, nilv, nilv, nilv, nilv, nilv, nilv] [])), (2007, .r (.arr 1 [iv v1.Objects, .rs 15001 0 v1.From.length, .rs 15002 0 v1.To.length, .rs 15003 0 v1.Identity.length, .rs 15004 0 v1.Composites.length, .fr 1 s2.2.1.length (s2.2.1.flatMap eI.o), nilv] [15001, 15002, 15003, 15004])), (2031, .r (.arr 1 (s2.1.flatMap (eS eI).o) []))] ++ rsS 15000 (eXCategory.o v1))) (([] : List (List Int)), ([] : List Int), 0) [2, 4, 6, 8, 10, 2003, 2005, 2007, 2031, 30003, 30005, 30007, 30009] (by kernel_rfl) hM ?_
  intro n5 next3 ih4 s2 hM
  refine tr_seq ?_
  refine tr_srN hT hm [] [2, 4, 6, 8, 10, 40, 2003, 2005, 2007, 2031, 30003, 30005, 30007, 30009] ([(2, .d (.rp 1001 0)), (4, .d (.rp 1002 0)), (6, .d (.rp 1003 0)), (8, .d (.rs 1015 0 s2.1.length)), (10, .d (iv s2.2.2)), (40, .d (bv (decide (s2.2.2 < a0.Target.Objects)))), bxB 2003 (eXFunctor.b a0), (2005, .r (.arr 1 [iv 0, nilv, nilv, nilv, nilv, nilv, nilv] [])), (2007, .r (.arr 1 [iv v1.Objects, .rs 15001 0 v1.From.length, .rs 15002 0 v1.To.length, .rs 15003 0 v1.Identity.length, .rs 15004 0 v1.Composites.length, .fr 1 s2.2.1.length (s2.2.1.flatMap eI.o), nilv] [15001, 15002, 15003, 15004])), (2031, .r (.arr 1 (s2.1.flatMap (eS eI).o) []))] ++ rsS 15000 (eXCategory.o v1)) .nil (by kernel_rfl) (by kernel_rfl) ?_
  rcases Bool.eq_false_or_eq_true (decide (s2.2.2 < a0.Target.Objects)) with h6 | h6
  · have hM := ite_true' hM h6
    refine tr_condTe (e := decide (s2.2.2 < a0.Target.Objects)) h6 (by kernel_rfl) ?_
    refine tr_skip (q_n ?_)
    refine tr_seq ?_
    refine tr_block ?_
    obtain ⟨v7, hv7, hM⟩ := bind_some' hM
    obtain ⟨h8, hM⟩ := chk_some hM
    refine tr_srN hT hm [(3, .call [] [] [.agg (eXFunctor.b a0), iv s2.2.2] [] (.fr 1 v7.length (v7.flatMap eI.o))), (5, .app true)] [2, 4, 6, 8, 10, 2003, 2005, 2007, 2057, 30003, 30005, 30007, 30009, 56001] ([(2, .d (.rp 1001 0)), (4, .d (.rp 1002 0)), (6, .d (.rp 1003 0)), (8, .d (.rs 1028 0 (s2.1.length + 1))), (10, .d (iv s2.2.2)), bxB 2003 (eXFunctor.b a0), (2005, .r (.arr 1 [iv 0, nilv, nilv, nilv, nilv, nilv, nilv] [])), (2007, .r (.arr 1 [iv v1.Objects, .rs 15001 0 v1.From.length, .rs 15002 0 v1.To.length, .rs 15003 0 v1.Identity.length, .rs 15004 0 v1.Composites.length, .fr 1 s2.2.1.length (s2.2.1.flatMap eI.o), nilv] [15001, 15002, 15003, 15004])), (2057, .r (.arr 1 (s2.1.flatMap (eS eI).o ++ [.rs 28000 0 v7.length]) [28000]))] ++ rsS 15000 (eXCategory.o v1) ++ [(56001, .r (.arr 1 (v7.flatMap eI.o) []))]) (cc0 ok183 (spec_l34Over_c a0 s2.2.2 _ hv7) (by kernel_rfl) (.cons (lenO_flat (eS_ok eI_ok) s2.1) (.cons (by kernel_rfl : ([.rs 28000 0 v7.length] : List D).length = 1 * 1) (.cons h8 .nil)))) (by kernel_rfl) (by kernel_rfl) ?_
    refine Tr.by (imp_demE (r := 1028) (q := 28000) (sz := 1) (n := v7.length) (j := 0) (pre := s2.1.flatMap (eS eI).o) (l := [.rs 28000 0 v7.length]) (refs := [28000]) (refs' := []) (menO_flat (eS_ok eI_ok) _) (lenO_flat eI_ok v7) (by kernel_rfl) (by kernel_rfl) (by kernel_rfl) (by kernel_rfl) (by kernel_rfl)) ?_
    refine Tr.by (imp_cvE (r := 1028) (sz := 1) (refs := []) (flat_snoc (eS eI).o s2.1 v7) (menO_flat (eS_ok eI_ok) _) (by kernel_rfl)) ?_
    refine Tr.by (imp_cvD (k := 8) (congrArg (D.rs 1028 0) ((len_snoc s2.1 v7) : s2.1.length + 1 = (s2.1 ++ [v7]).length)) (by kernel_rfl)) ?_
    refine Tr.by (imp_promote (r := 1003) (i := 5) (q := 700029) (sz := 1) (sz' := 1) (n := s2.2.1.length) (cells := [iv v1.Objects, .rs 15001 0 v1.From.length, .rs 15002 0 v1.To.length, .rs 15003 0 v1.Identity.length, .rs 15004 0 v1.Composites.length, .fr 1 s2.2.1.length (s2.2.1.flatMap eI.o), nilv]) (ds := s2.2.1.flatMap eI.o) (refs := [15001, 15002, 15003, 15004]) (by kernel_rfl) (by kernel_rfl) (by kernel_rfl)) ?_
    obtain ⟨y9, hy9, hM⟩ := bind_some' hM
    have hy9' := idx_some hy9
    refine Tr.by (imp_rowOut (r := 1028) (q := 700030) (i := s2.2.2) (xs := (s2.1 ++ [v7])) (e := eI) (eS_ok eI_ok) hy9'.2.2 (by kernel_rfl) (by kernel_rfl)) ?_
    obtain ⟨h10, hM⟩ := chk_some hM
    refine tr_rN hT hm [(5, .val (.rs 700030 0 y9.length)), (8, .app true)] [2, 4, 6, 8, 10, 2003, 2005, 2007, 2057, 2075, 30003, 30005, 30007, 30009, 1400061] ([(2, .d (.rp 1001 0)), (4, .d (.rp 1002 0)), (6, .d (.rp 1003 0)), (8, .d (.rs 1028 0 ((s2.1 ++ [v7]).length))), (10, .d (iv s2.2.2)), bxB 2003 (eXFunctor.b a0), (2005, .r (.arr 1 [iv 0, nilv, nilv, nilv, nilv, nilv, nilv] [])), (2007, .r (.arr 1 [iv v1.Objects, .rs 15001 0 v1.From.length, .rs 15002 0 v1.To.length, .rs 15003 0 v1.Identity.length, .rs 15004 0 v1.Composites.length, .rs 1037 0 (s2.2.1.length + (([(y9.length : Int)] : List Int).length)), nilv] [700029, 15001, 15002, 15003, 15004, 1037])), (2057, .r (.arr 1 (((s2.1 ++ [v7]).flatMap (eS eI).o).set (0 + s2.2.2.toNat * 1) (.rs 700030 0 y9.length)) [700030])), (2075, .r (.arr 1 (s2.2.1.flatMap eI.o ++ ([(y9.length : Int)] : List Int).flatMap eI.o) []))] ++ rsS 15000 (eXCategory.o v1) ++ [(1400061, .r (.arr 1 (y9.flatMap eI.o) []))]) (.cons hy9'.1 (.cons hy9'.2.1 (.cons (set_at (d := .rs 700030 0 y9.length) (lt_flat (eS_ok eI_ok) (by kernel_rfl) hy9'.2.2)) (.cons (lenO_flat eI_ok s2.2.1) (.cons (lenO_flat eI_ok ([(y9.length : Int)] : List Int)) (.cons h10 (.cons (Nat.le_of_ble_eq_true (n := 6) (m := 7) rfl) .nil))))))) (by kernel_rfl) (by kernel_rfl) (b_n (q_n ?_))
    refine Tr.by (imp_cvE (r := 1037) (sz := 1) (refs := []) (flat_app eI.o s2.2.1 ([(y9.length : Int)] : List Int)) (menO_flat eI_ok _) (by kernel_rfl)) ?_
    refine Tr.by (imp_cvB (r := 1003) (sz := 1) (cells := [iv v1.Objects, .rs 15001 0 v1.From.length, .rs 15002 0 v1.To.length, .rs 15003 0 v1.Identity.length, .rs 15004 0 v1.Composites.length, .rs 1037 0 (s2.2.1.length + (([(y9.length : Int)] : List Int).length)), nilv]) (cells' := [iv v1.Objects, .rs 15001 0 v1.From.length, .rs 15002 0 v1.To.length, .rs 15003 0 v1.Identity.length, .rs 15004 0 v1.Composites.length, .rs 1037 0 ((s2.2.1 ++ ([(y9.length : Int)] : List Int)).length), nilv]) (refs := [700029, 15001, 15002, 15003, 15004, 1037]) (refs' := [700029, 15001, 15002, 15003, 15004, 1037]) (.cons (.refl _) (.cons (.refl _) (.cons (.refl _) (.cons (.refl _) (.cons (.refl _) (.cons (Sub.of_eq (congrArg (D.rs 1037 0) ((len_app s2.2.1 ([(y9.length : Int)] : List Int)) : s2.2.1.length + (([(y9.length : Int)] : List Int).length) = (s2.2.1 ++ ([(y9.length : Int)] : List Int)).length))) (.cons (.refl _) .nil))))))) (by kernel_rfl) (by kernel_rfl) (by kernel_rfl)) ?_
    refine Tr.by (imp_rowSame (r := 1028) (q := 700030) (n := y9.length) (i := s2.2.2) (xs := (s2.1 ++ [v7])) (e := eI) (x := y9) eI_ok hy9'.2.2 rfl (by kernel_rfl) (by kernel_rfl) (by kernel_rfl)) ?_
    refine tr_rN hT hm [] [2, 4, 6, 8, 10, 2003, 2005, 2007, 2057, 2075, 30003, 30005, 30007, 30009] ([(2, .d (.rp 1001 0)), (4, .d (.rp 1002 0)), (6, .d (.rp 1003 0)), (8, .d (.rs 1028 0 ((s2.1 ++ [v7]).length))), (10, .d (iv (IntKind.i64.wrap (s2.2.2 + 1)))), bxB 2003 (eXFunctor.b a0), (2005, .r (.arr 1 [iv 0, nilv, nilv, nilv, nilv, nilv, nilv] [])), (2007, .r (.arr 1 [iv v1.Objects, .rs 15001 0 v1.From.length, .rs 15002 0 v1.To.length, .rs 15003 0 v1.Identity.length, .rs 15004 0 v1.Composites.length, .rs 1037 0 ((s2.2.1 ++ ([(y9.length : Int)] : List Int)).length), nilv] [700029, 15001, 15002, 15003, 15004, 1037])), (2057, .r (.arr 1 ((s2.1 ++ [v7]).flatMap (eS eI).o) [])), (2075, .r (.arr 1 ((s2.2.1 ++ ([(y9.length : Int)] : List Int)).flatMap eI.o) []))] ++ rsS 15000 (eXCategory.o v1)) .nil (by kernel_rfl) (by kernel_rfl) (l_n ?_)
    refine TrL.by (imp_dem (r := 1003) (q := 1037) (sz := 1) (n := ((s2.2.1 ++ ([(y9.length : Int)] : List Int)).length)) (j := 5) (pre := []) (l := [iv v1.Objects, .rs 15001 0 v1.From.length, .rs 15002 0 v1.To.length, .rs 15003 0 v1.Identity.length, .rs 15004 0 v1.Composites.length, .rs 1037 0 ((s2.2.1 ++ ([(y9.length : Int)] : List Int)).length), nilv]) (post := []) (refs := [700029, 15001, 15002, 15003, 15004, 1037]) (refs' := [700029, 15001, 15002, 15003, 15004]) rfl rfl (lenO_flat eI_ok (s2.2.1 ++ ([(y9.length : Int)] : List Int))) (by kernel_rfl) (by kernel_rfl) (by kernel_rfl) (by kernel_rfl) (by kernel_rfl)) ?_
    refine TrL.by (imp_cvB (r := 1003) (sz := 1) (cells := [iv v1.Objects, .rs 15001 0 v1.From.length, .rs 15002 0 v1.To.length, .rs 15003 0 v1.Identity.length, .rs 15004 0 v1.Composites.length, .fr 1 (s2.2.1 ++ ([(y9.length : Int)] : List Int)).length ((s2.2.1 ++ ([(y9.length : Int)] : List Int)).flatMap eI.o), nilv]) (cells' := [iv v1.Objects, .rs 15001 0 v1.From.length, .rs 15002 0 v1.To.length, .rs 15003 0 v1.Identity.length, .rs 15004 0 v1.Composites.length, .fr 1 (s2.2.1 ++ ([(y9.length : Int)] : List Int)).length ((s2.2.1 ++ ([(y9.length : Int)] : List Int)).flatMap eI.o), nilv]) (refs := [700029, 15001, 15002, 15003, 15004]) (refs' := [15001, 15002, 15003, 15004]) (.cons (.refl _) (.cons (.refl _) (.cons (.refl _) (.cons (.refl _) (.cons (.refl _) (.cons (.refl _) (.cons (.refl _) .nil))))))) (by kernel_rfl) (by kernel_rfl) (by kernel_rfl)) ?_
    refine TrL.by (imp_sel (ks := [2, 4, 6, 8, 10, 2003, 2005, 2007, 2057, 30003, 30005, 30007, 30009]) (st' := ([(2, .d (.rp 1001 0)), (4, .d (.rp 1002 0)), (6, .d (.rp 1003 0)), (8, .d (.rs 1028 0 ((s2.1 ++ [v7]).length))), (10, .d (iv (IntKind.i64.wrap (s2.2.2 + 1)))), bxB 2003 (eXFunctor.b a0), (2005, .r (.arr 1 [iv 0, nilv, nilv, nilv, nilv, nilv, nilv] [])), (2007, .r (.arr 1 [iv v1.Objects, .rs 15001 0 v1.From.length, .rs 15002 0 v1.To.length, .rs 15003 0 v1.Identity.length, .rs 15004 0 v1.Composites.length, .fr 1 (s2.2.1 ++ ([(y9.length : Int)] : List Int)).length ((s2.2.1 ++ ([(y9.length : Int)] : List Int)).flatMap eI.o), nilv] [15001, 15002, 15003, 15004])), (2057, .r (.arr 1 ((s2.1 ++ [v7]).flatMap (eS eI).o) []))] ++ rsS 15000 (eXCategory.o v1))) (by kernel_rfl)) ?_
    refine TrL.by (imp_rename (r := 1028) (q := 1015) (by kernel_rfl) (Nat.le_of_ble_eq_true rfl)) ?_
    exact trl_start (ks := [2, 4, 6, 8, 10, 2003, 2005, 2007, 2031, 30003, 30005, 30007, 30009]) (by kernel_rfl) (ih4 (s2.1 ++ [v7], s2.2.1 ++ ([(y9.length : Int)] : List Int), IntKind.i64.wrap (s2.2.2 + 1)) hM)
  · have hM := ite_false' hM h6
    refine tr_condFe (e := decide (s2.2.2 < a0.Target.Objects)) h6 (by kernel_rfl) ?_
    refine tr_exit (q_x (l_x (b_h (q_n ?_))))
    refine tr_seq ?_
    refine tr_srN hT hm [] [2, 4, 6, 8, 12, 2003, 2005, 2007, 2031, 30003, 30005, 30007, 30009] ([(2, .d (.rp 1001 0)), (4, .d (.rp 1002 0)), (6, .d (.rp 1003 0)), (8, .d (.rs 1015 0 s2.1.length)), (12, .d (iv 0)), bxB 2003 (eXFunctor.b a0), (2005, .r (.arr 1 [iv 0, nilv, nilv, nilv, nilv, nilv, nilv] [])), (2007, .r (.arr 1 [iv v1.Objects, .rs 15001 0 v1.From.length, .rs 15002 0 v1.To.length, .rs 15003 0 v1.Identity.length, .rs 15004 0 v1.Composites.length, .fr 1 s2.2.1.length (s2.2.1.flatMap eI.o), nilv] [15001, 15002, 15003, 15004])), (2031, .r (.arr 1 (s2.1.flatMap (eS eI).o) []))] ++ rsS 15000 (eXCategory.o v1)) .nil (by kernel_rfl) (by kernel_rfl) ?_
    refine Tr.by (imp_freeze (B := [1015]) (cv := [(4, .sl s2.1.length 0 (s2.1.flatMap (eS eI).b))]) (.cons (by kernel_rfl) (.of1 (.rs (r := 1015) (sz := 1) (refs := []) (memB (by kernel_rfl)) (by kernel_rfl) (bor_flat (eS_ok eI_ok) _ _ _))) .nil)) ?_
    refine tr_block ?_
    refine Tr.by (imp_cvB (r := 1003) (sz := 1) (cells := [iv v1.Objects, .rs 15001 0 v1.From.length, .rs 15002 0 v1.To.length, .rs 15003 0 v1.Identity.length, .rs 15004 0 v1.Composites.length, .fr 1 s2.2.1.length (s2.2.1.flatMap eI.o), nilv]) (cells' := [iv v1.Objects, .rs 15001 0 v1.From.length, .rs 15002 0 v1.To.length, .rs 15003 0 v1.Identity.length, .rs 15004 0 v1.Composites.length, .fr 1 s2.2.1.length (s2.2.1.flatMap eI.o), .fr 1 ([] : List (List Int)).length (([] : List (List Int)).flatMap (eS eI).o)]) (refs := [15001, 15002, 15003, 15004]) (refs' := [15001, 15002, 15003, 15004]) (.cons (.refl _) (.cons (.refl _) (.cons (.refl _) (.cons (.refl _) (.cons (.refl _) (.cons (.refl _) (.cons Sub.nil_fr .nil))))))) (by kernel_rfl) (by kernel_rfl) (by kernel_rfl)) ?_
    refine tr_iterS (fun (s11 : (List (List Int)) × Int) => ([(2, .d (.rp 1001 0)), (4, .d (.rp 1002 0)), (6, .d (.rp 1003 0)), (8, .d (.sl s2.1.length 0 (s2.1.flatMap (eS eI).b))), (12, .d (iv s11.2)), bxB 2003 (eXFunctor.b a0), (2005, .r (.arr 1 [iv 0, nilv, nilv, nilv, nilv, nilv, nilv] [])), (2007, .r (.arr 1 [iv v1.Objects, .rs 15001 0 v1.From.length, .rs 15002 0 v1.To.length, .rs 15003 0 v1.Identity.length, .rs 15004 0 v1.Composites.length, .fr 1 s2.2.1.length (s2.2.1.flatMap eI.o), .fr 1 s11.1.length (s11.1.flatMap (eS eI).o)] [15001, 15002, 15003, 15004]))] ++ rsS 15000 (eXCategory.o v1))) (([] : List (List Int)), 0) [2, 4, 6, 8, 12, 2003, 2005, 2007, 30003, 30005, 30007, 30009] (by kernel_rfl) hM ?_
    intro n14 next12 ih13 s11 hM
    refine tr_seq ?_
    refine tr_srN hT hm [] [2, 4, 6, 8, 12, 88, 2003, 2005, 2007, 30003, 30005, 30007, 30009] ([(2, .d (.rp 1001 0)), (4, .d (.rp 1002 0)), (6, .d (.rp 1003 0)), (8, .d (.sl s2.1.length 0 (s2.1.flatMap (eS eI).b))), (12, .d (iv s11.2)), (88, .d (bv (decide (s11.2 < (a0.Target.From.length : Int))))), bxB 2003 (eXFunctor.b a0), (2005, .r (.arr 1 [iv 0, nilv, nilv, nilv, nilv, nilv, nilv] [])), (2007, .r (.arr 1 [iv v1.Objects, .rs 15001 0 v1.From.length, .rs 15002 0 v1.To.length, .rs 15003 0 v1.Identity.length, .rs 15004 0 v1.Composites.length, .fr 1 s2.2.1.length (s2.2.1.flatMap eI.o), .fr 1 s11.1.length (s11.1.flatMap (eS eI).o)] [15001, 15002, 15003, 15004]))] ++ rsS 15000 (eXCategory.o v1)) .nil (by kernel_rfl) (by kernel_rfl) ?_
    rcases Bool.eq_false_or_eq_true (decide (s11.2 < (a0.Target.From.length : Int))) with h15 | h15
    · have hM := ite_true' hM h15
      refine tr_condTe (e := decide (s11.2 < (a0.Target.From.length : Int))) h15 (by kernel_rfl) ?_
      refine tr_skip (q_n ?_)
      refine tr_seq ?_
      refine tr_block ?_
      obtain ⟨y16, hy16, hM⟩ := bind_some' hM
      have hy16' := idx_some hy16
      obtain ⟨y17, hy17, hM⟩ := bind_some' hM
      have hy17' := idx_some hy17
      refine tr_srN hT hm [(5, .val (iv y16)), (11, .val (iv y17))] [2, 4, 6, 8, 12, 14, 16, 18, 2003, 2005, 2007, 2119, 30003, 30005, 30007, 30009] ([(2, .d (.rp 1001 0)), (4, .d (.rp 1002 0)), (6, .d (.rp 1003 0)), (8, .d (.sl s2.1.length 0 (s2.1.flatMap (eS eI).b))), (12, .d (iv s11.2)), (14, .d (iv y16)), (16, .d (iv y17)), (18, .d (.rs 1059 0 (([] : List Int).length))), bxB 2003 (eXFunctor.b a0), (2005, .r (.arr 1 [iv 0, nilv, nilv, nilv, nilv, nilv, nilv] [])), (2007, .r (.arr 1 [iv v1.Objects, .rs 15001 0 v1.From.length, .rs 15002 0 v1.To.length, .rs 15003 0 v1.Identity.length, .rs 15004 0 v1.Composites.length, .fr 1 s2.2.1.length (s2.2.1.flatMap eI.o), .fr 1 s11.1.length (s11.1.flatMap (eS eI).o)] [15001, 15002, 15003, 15004])), (2119, .r (.arr 1 (([] : List Int).flatMap eI.o) []))] ++ rsS 15000 (eXCategory.o v1)) (.cons hy16'.1 (.cons hy16'.2.1 (.cons (at_b0 eI_ok hy16'.2.2 (d := iv y16) (by kernel_rfl)) (.cons hy17'.1 (.cons hy17'.2.1 (.cons (at_b0 eI_ok hy17'.2.2 (d := iv y17) (by kernel_rfl)) .nil)))))) (by kernel_rfl) (by kernel_rfl) ?_
      refine tr_seq ?_
      refine tr_srN hT hm [] [2, 4, 6, 8, 12, 14, 16, 18, 20, 2003, 2005, 2007, 2119, 30003, 30005, 30007, 30009] ([(2, .d (.rp 1001 0)), (4, .d (.rp 1002 0)), (6, .d (.rp 1003 0)), (8, .d (.sl s2.1.length 0 (s2.1.flatMap (eS eI).b))), (12, .d (iv s11.2)), (14, .d (iv y16)), (16, .d (iv y17)), (18, .d (.rs 1059 0 (([] : List Int).length))), (20, .d (iv 0)), bxB 2003 (eXFunctor.b a0), (2005, .r (.arr 1 [iv 0, nilv, nilv, nilv, nilv, nilv, nilv] [])), (2007, .r (.arr 1 [iv v1.Objects, .rs 15001 0 v1.From.length, .rs 15002 0 v1.To.length, .rs 15003 0 v1.Identity.length, .rs 15004 0 v1.Composites.length, .fr 1 s2.2.1.length (s2.2.1.flatMap eI.o), .fr 1 s11.1.length (s11.1.flatMap (eS eI).o)] [15001, 15002, 15003, 15004])), (2119, .r (.arr 1 (([] : List Int).flatMap eI.o) []))] ++ rsS 15000 (eXCategory.o v1)) .nil (by kernel_rfl) (by kernel_rfl) ?_
      refine tr_block ?_
      refine tr_iterS (fun (s18 : (List Int) × Int) => ([(2, .d (.rp 1001 0)), (4, .d (.rp 1002 0)), (6, .d (.rp 1003 0)), (8, .d (.sl s2.1.length 0 (s2.1.flatMap (eS eI).b))), (12, .d (iv s11.2)), (14, .d (iv y16)), (16, .d (iv y17)), (18, .d (.rs 1059 0 s18.1.length)), (20, .d (iv s18.2)), bxB 2003 (eXFunctor.b a0), (2005, .r (.arr 1 [iv 0, nilv, nilv, nilv, nilv, nilv, nilv] [])), (2007, .r (.arr 1 [iv v1.Objects, .rs 15001 0 v1.From.length, .rs 15002 0 v1.To.length, .rs 15003 0 v1.Identity.length, .rs 15004 0 v1.Composites.length, .fr 1 s2.2.1.length (s2.2.1.flatMap eI.o), .fr 1 s11.1.length (s11.1.flatMap (eS eI).o)] [15001, 15002, 15003, 15004])), (2119, .r (.arr 1 (s18.1.flatMap eI.o) []))] ++ rsS 15000 (eXCategory.o v1))) (([] : List Int), 0) [2, 4, 6, 8, 12, 14, 16, 18, 20, 2003, 2005, 2007, 2119, 30003, 30005, 30007, 30009] (by kernel_rfl) hM ?_
      intro n21 next19 ih20 s18 hM
      refine tr_seq ?_
      obtain ⟨y22, hy22, hM⟩ := bind_some' hM
      have hy22' := idx_some hy22
      refine tr_srN hT hm [(4, .val (.sl y22.length 0 (y22.flatMap eI.b)))] [2, 4, 6, 8, 12, 14, 16, 18, 20, 132, 2003, 2005, 2007, 2119, 30003, 30005, 30007, 30009] ([(2, .d (.rp 1001 0)), (4, .d (.rp 1002 0)), (6, .d (.rp 1003 0)), (8, .d (.sl s2.1.length 0 (s2.1.flatMap (eS eI).b))), (12, .d (iv s11.2)), (14, .d (iv y16)), (16, .d (iv y17)), (18, .d (.rs 1059 0 s18.1.length)), (20, .d (iv s18.2)), (132, .d (bv (decide (s18.2 < (y22.length : Int))))), bxB 2003 (eXFunctor.b a0), (2005, .r (.arr 1 [iv 0, nilv, nilv, nilv, nilv, nilv, nilv] [])), (2007, .r (.arr 1 [iv v1.Objects, .rs 15001 0 v1.From.length, .rs 15002 0 v1.To.length, .rs 15003 0 v1.Identity.length, .rs 15004 0 v1.Composites.length, .fr 1 s2.2.1.length (s2.2.1.flatMap eI.o), .fr 1 s11.1.length (s11.1.flatMap (eS eI).o)] [15001, 15002, 15003, 15004])), (2119, .r (.arr 1 (s18.1.flatMap eI.o) []))] ++ rsS 15000 (eXCategory.o v1)) (.cons hy22'.1 (.cons hy22'.2.1 (.cons (at_b0 (eS_ok eI_ok) hy22'.2.2 (d := .sl y22.length 0 (y22.flatMap eI.b)) (by kernel_rfl)) .nil))) (by kernel_rfl) (by kernel_rfl) ?_
      rcases Bool.eq_false_or_eq_true (decide (s18.2 < (y22.length : Int))) with h23 | h23
      · have hM := ite_true' hM h23
        refine tr_condTe (e := decide (s18.2 < (y22.length : Int))) h23 (by kernel_rfl) ?_
        refine tr_skip (q_n ?_)
        refine tr_seq ?_
        refine tr_block ?_
        obtain ⟨y24, hy24, hM⟩ := bind_some' hM
        have hy24' := idx_some hy24
        obtain ⟨y25, hy25, hM⟩ := bind_some' hM
        have hy25' := idx_some hy25
        obtain ⟨v26, hv26, hM⟩ := bind_some' hM
        obtain ⟨y27, hy27, hM⟩ := bind_some' hM
        have hy27' := idx_some hy27
        obtain ⟨y28, hy28, hM⟩ := bind_some' hM
        have hy28' := idx_some hy28
        obtain ⟨v29, hv29, hM⟩ := bind_some' hM
        obtain ⟨h30, hM⟩ := chk_some hM
        refine tr_rN hT hm [(4, .val (.sl y24.length 0 (y24.flatMap eI.b))), (12, .val (.sl y22.length 0 (y22.flatMap eI.b))), (15, .val (iv y25)), (17, .call [] [] [.agg (eXFunctor.b a0), iv y25, iv s11.2] [] (.fr 1 v26.length (v26.flatMap eI.o))), (19, .val (iv y27)), (21, .val (iv y28)), (22, .call [] [] [.sl y24.length 0 (y24.flatMap eI.b), iv y28] [] (iv v29)), (24, .app true)] [2, 4, 6, 8, 12, 14, 16, 18, 20, 2003, 2005, 2007, 2187, 30003, 30005, 30007, 30009] ([(2, .d (.rp 1001 0)), (4, .d (.rp 1002 0)), (6, .d (.rp 1003 0)), (8, .d (.sl s2.1.length 0 (s2.1.flatMap (eS eI).b))), (12, .d (iv s11.2)), (14, .d (iv y16)), (16, .d (iv y17)), (18, .d (.rs 1093 0 (s18.1.length + (([v29] : List Int).length)))), (20, .d (iv s18.2)), bxB 2003 (eXFunctor.b a0), (2005, .r (.arr 1 [iv 0, nilv, nilv, nilv, nilv, nilv, nilv] [])), (2007, .r (.arr 1 [iv v1.Objects, .rs 15001 0 v1.From.length, .rs 15002 0 v1.To.length, .rs 15003 0 v1.Identity.length, .rs 15004 0 v1.Composites.length, .fr 1 s2.2.1.length (s2.2.1.flatMap eI.o), .fr 1 s11.1.length (s11.1.flatMap (eS eI).o)] [15001, 15002, 15003, 15004])), (2187, .r (.arr 1 (s18.1.flatMap eI.o ++ ([v29] : List Int).flatMap eI.o) []))] ++ rsS 15000 (eXCategory.o v1)) (.cons hy24'.1 (.cons hy24'.2.1 (.cons (at_b0 (eS_ok eI_ok) hy24'.2.2 (d := .sl y24.length 0 (y24.flatMap eI.b)) (by kernel_rfl)) (.cons hy22'.1 (.cons hy22'.2.1 (.cons (at_b0 (eS_ok eI_ok) hy22'.2.2 (d := .sl y22.length 0 (y22.flatMap eI.b)) (by kernel_rfl)) (.cons hy25'.1 (.cons hy25'.2.1 (.cons (at_b0 eI_ok hy25'.2.2 (d := iv y25) (by kernel_rfl)) (cc0 ok182 (spec_l34Lifts_c a0 y25 s11.2 _ hv26) (by kernel_rfl) (.cons hy27'.1 (.cons hy27'.2.1 (.cons (at_o0 eI_ok hy27'.2.2 (d := iv y27) (by kernel_rfl)) (.cons hy28'.1 (.cons hy28'.2.1 (.cons (at_b0 eI_ok hy28'.2.2 (d := iv y28) (by kernel_rfl)) (cc0 ok184 (spec_l01Index_c y24 y28 _ hv29) (by kernel_rfl) (.cons (lenO_flat eI_ok s18.1) (.cons (lenO_flat eI_ok ([v29] : List Int)) (.cons h30 .nil)))))))))))))))))))) (by kernel_rfl) (by kernel_rfl) (b_n (q_n ?_))
        refine Tr.by (imp_cvE (r := 1093) (sz := 1) (refs := []) (flat_app eI.o s18.1 ([v29] : List Int)) (menO_flat eI_ok _) (by kernel_rfl)) ?_
        refine Tr.by (imp_cvD (k := 18) (congrArg (D.rs 1093 0) ((len_app s18.1 ([v29] : List Int)) : s18.1.length + (([v29] : List Int).length) = (s18.1 ++ ([v29] : List Int)).length)) (by kernel_rfl)) ?_
        refine tr_rN hT hm [] [2, 4, 6, 8, 12, 14, 16, 18, 20, 2003, 2005, 2007, 2187, 30003, 30005, 30007, 30009] ([(2, .d (.rp 1001 0)), (4, .d (.rp 1002 0)), (6, .d (.rp 1003 0)), (8, .d (.sl s2.1.length 0 (s2.1.flatMap (eS eI).b))), (12, .d (iv s11.2)), (14, .d (iv y16)), (16, .d (iv y17)), (18, .d (.rs 1093 0 ((s18.1 ++ ([v29] : List Int)).length))), (20, .d (iv (IntKind.i64.wrap (s18.2 + 1)))), bxB 2003 (eXFunctor.b a0), (2005, .r (.arr 1 [iv 0, nilv, nilv, nilv, nilv, nilv, nilv] [])), (2007, .r (.arr 1 [iv v1.Objects, .rs 15001 0 v1.From.length, .rs 15002 0 v1.To.length, .rs 15003 0 v1.Identity.length, .rs 15004 0 v1.Composites.length, .fr 1 s2.2.1.length (s2.2.1.flatMap eI.o), .fr 1 s11.1.length (s11.1.flatMap (eS eI).o)] [15001, 15002, 15003, 15004])), (2187, .r (.arr 1 ((s18.1 ++ ([v29] : List Int)).flatMap eI.o) []))] ++ rsS 15000 (eXCategory.o v1)) .nil (by kernel_rfl) (by kernel_rfl) (l_n ?_)
        refine TrL.by (imp_sel (ks := [2, 4, 6, 8, 12, 14, 16, 18, 20, 2003, 2005, 2007, 2187, 30003, 30005, 30007, 30009]) (st' := ([(2, .d (.rp 1001 0)), (4, .d (.rp 1002 0)), (6, .d (.rp 1003 0)), (8, .d (.sl s2.1.length 0 (s2.1.flatMap (eS eI).b))), (12, .d (iv s11.2)), (14, .d (iv y16)), (16, .d (iv y17)), (18, .d (.rs 1093 0 ((s18.1 ++ ([v29] : List Int)).length))), (20, .d (iv (IntKind.i64.wrap (s18.2 + 1)))), bxB 2003 (eXFunctor.b a0), (2005, .r (.arr 1 [iv 0, nilv, nilv, nilv, nilv, nilv, nilv] [])), (2007, .r (.arr 1 [iv v1.Objects, .rs 15001 0 v1.From.length, .rs 15002 0 v1.To.length, .rs 15003 0 v1.Identity.length, .rs 15004 0 v1.Composites.length, .fr 1 s2.2.1.length (s2.2.1.flatMap eI.o), .fr 1 s11.1.length (s11.1.flatMap (eS eI).o)] [15001, 15002, 15003, 15004])), (2187, .r (.arr 1 ((s18.1 ++ ([v29] : List Int)).flatMap eI.o) []))] ++ rsS 15000 (eXCategory.o v1))) (by kernel_rfl)) ?_
        refine TrL.by (imp_rename (r := 1093) (q := 1059) (by kernel_rfl) (Nat.le_of_ble_eq_true rfl)) ?_
        exact trl_start (ks := [2, 4, 6, 8, 12, 14, 16, 18, 20, 2003, 2005, 2007, 2119, 30003, 30005, 30007, 30009]) (by kernel_rfl) (ih20 (s18.1 ++ ([v29] : List Int), IntKind.i64.wrap (s18.2 + 1)) hM)
      · have hM := ite_false' hM h23
        refine tr_condFe (e := decide (s18.2 < (y22.length : Int))) h23 (by kernel_rfl) ?_
        refine tr_exit (q_x (l_x (b_h (q_n ?_))))
        refine Tr.by (imp_promote (r := 1003) (i := 6) (q := 700038) (sz := 1) (sz' := 1) (n := s11.1.length) (cells := [iv v1.Objects, .rs 15001 0 v1.From.length, .rs 15002 0 v1.To.length, .rs 15003 0 v1.Identity.length, .rs 15004 0 v1.Composites.length, .fr 1 s2.2.1.length (s2.2.1.flatMap eI.o), .fr 1 s11.1.length (s11.1.flatMap (eS eI).o)]) (ds := s11.1.flatMap (eS eI).o) (refs := [15001, 15002, 15003, 15004]) (by kernel_rfl) (by kernel_rfl) (by kernel_rfl)) ?_
        obtain ⟨h31, hM⟩ := chk_some hM
        refine tr_rN hT hm [(4, .app true)] [2, 4, 6, 8, 12, 2003, 2005, 2007, 2119, 2197, 30003, 30005, 30007, 30009] ([(2, .d (.rp 1001 0)), (4, .d (.rp 1002 0)), (6, .d (.rp 1003 0)), (8, .d (.sl s2.1.length 0 (s2.1.flatMap (eS eI).b))), (12, .d (iv s11.2)), bxB 2003 (eXFunctor.b a0), (2005, .r (.arr 1 [iv 0, nilv, nilv, nilv, nilv, nilv, nilv] [])), (2007, .r (.arr 1 [iv v1.Objects, .rs 15001 0 v1.From.length, .rs 15002 0 v1.To.length, .rs 15003 0 v1.Identity.length, .rs 15004 0 v1.Composites.length, .fr 1 s2.2.1.length (s2.2.1.flatMap eI.o), .rs 1098 0 (s11.1.length + 1)] [700038, 15001, 15002, 15003, 15004, 1098])), (2119, .r (.arr 1 (s18.1.flatMap eI.o) [])), (2197, .r (.arr 1 (s11.1.flatMap (eS eI).o ++ [.rs 1059 0 s18.1.length]) [1059]))] ++ rsS 15000 (eXCategory.o v1)) (.cons (lenO_flat (eS_ok eI_ok) s11.1) (.cons (by kernel_rfl : ([.rs 1059 0 s18.1.length] : List D).length = 1 * 1) (.cons h31 (.cons (Nat.le_of_ble_eq_true (n := 7) (m := 7) rfl) .nil)))) (by kernel_rfl) (by kernel_rfl) (b_n (q_n ?_))
        refine Tr.by (imp_demE (r := 1098) (q := 1059) (sz := 1) (n := s18.1.length) (j := 0) (pre := s11.1.flatMap (eS eI).o) (l := [.rs 1059 0 s18.1.length]) (refs := [1059]) (refs' := []) (menO_flat (eS_ok eI_ok) _) (lenO_flat eI_ok s18.1) (by kernel_rfl) (by kernel_rfl) (by kernel_rfl) (by kernel_rfl) (by kernel_rfl)) ?_
        refine Tr.by (imp_cvE (r := 1098) (sz := 1) (refs := []) (flat_snoc (eS eI).o s11.1 s18.1) (menO_flat (eS_ok eI_ok) _) (by kernel_rfl)) ?_
        refine Tr.by (imp_cvB (r := 1003) (sz := 1) (cells := [iv v1.Objects, .rs 15001 0 v1.From.length, .rs 15002 0 v1.To.length, .rs 15003 0 v1.Identity.length, .rs 15004 0 v1.Composites.length, .fr 1 s2.2.1.length (s2.2.1.flatMap eI.o), .rs 1098 0 (s11.1.length + 1)]) (cells' := [iv v1.Objects, .rs 15001 0 v1.From.length, .rs 15002 0 v1.To.length, .rs 15003 0 v1.Identity.length, .rs 15004 0 v1.Composites.length, .fr 1 s2.2.1.length (s2.2.1.flatMap eI.o), .rs 1098 0 ((s11.1 ++ [s18.1]).length)]) (refs := [700038, 15001, 15002, 15003, 15004, 1098]) (refs' := [700038, 15001, 15002, 15003, 15004, 1098]) (.cons (.refl _) (.cons (.refl _) (.cons (.refl _) (.cons (.refl _) (.cons (.refl _) (.cons (.refl _) (.cons (Sub.of_eq (congrArg (D.rs 1098 0) ((len_snoc s11.1 s18.1) : s11.1.length + 1 = (s11.1 ++ [s18.1]).length))) .nil))))))) (by kernel_rfl) (by kernel_rfl) (by kernel_rfl)) ?_
        refine tr_rN hT hm [] [2, 4, 6, 8, 12, 2003, 2005, 2007, 2197, 30003, 30005, 30007, 30009] ([(2, .d (.rp 1001 0)), (4, .d (.rp 1002 0)), (6, .d (.rp 1003 0)), (8, .d (.sl s2.1.length 0 (s2.1.flatMap (eS eI).b))), (12, .d (iv (IntKind.i64.wrap (s11.2 + 1)))), bxB 2003 (eXFunctor.b a0), (2005, .r (.arr 1 [iv 0, nilv, nilv, nilv, nilv, nilv, nilv] [])), (2007, .r (.arr 1 [iv v1.Objects, .rs 15001 0 v1.From.length, .rs 15002 0 v1.To.length, .rs 15003 0 v1.Identity.length, .rs 15004 0 v1.Composites.length, .fr 1 s2.2.1.length (s2.2.1.flatMap eI.o), .rs 1098 0 ((s11.1 ++ [s18.1]).length)] [700038, 15001, 15002, 15003, 15004, 1098])), (2197, .r (.arr 1 ((s11.1 ++ [s18.1]).flatMap (eS eI).o) []))] ++ rsS 15000 (eXCategory.o v1)) .nil (by kernel_rfl) (by kernel_rfl) (l_n ?_)
        refine TrL.by (imp_dem (r := 1003) (q := 1098) (sz := 1) (n := ((s11.1 ++ [s18.1]).length)) (j := 6) (pre := []) (l := [iv v1.Objects, .rs 15001 0 v1.From.length, .rs 15002 0 v1.To.length, .rs 15003 0 v1.Identity.length, .rs 15004 0 v1.Composites.length, .fr 1 s2.2.1.length (s2.2.1.flatMap eI.o), .rs 1098 0 ((s11.1 ++ [s18.1]).length)]) (post := []) (refs := [700038, 15001, 15002, 15003, 15004, 1098]) (refs' := [700038, 15001, 15002, 15003, 15004]) rfl rfl (lenO_flat (eS_ok eI_ok) (s11.1 ++ [s18.1])) (by kernel_rfl) (by kernel_rfl) (by kernel_rfl) (by kernel_rfl) (by kernel_rfl)) ?_
        refine TrL.by (imp_cvB (r := 1003) (sz := 1) (cells := [iv v1.Objects, .rs 15001 0 v1.From.length, .rs 15002 0 v1.To.length, .rs 15003 0 v1.Identity.length, .rs 15004 0 v1.Composites.length, .fr 1 s2.2.1.length (s2.2.1.flatMap eI.o), .fr 1 (s11.1 ++ [s18.1]).length ((s11.1 ++ [s18.1]).flatMap (eS eI).o)]) (cells' := [iv v1.Objects, .rs 15001 0 v1.From.length, .rs 15002 0 v1.To.length, .rs 15003 0 v1.Identity.length, .rs 15004 0 v1.Composites.length, .fr 1 s2.2.1.length (s2.2.1.flatMap eI.o), .fr 1 (s11.1 ++ [s18.1]).length ((s11.1 ++ [s18.1]).flatMap (eS eI).o)]) (refs := [700038, 15001, 15002, 15003, 15004]) (refs' := [15001, 15002, 15003, 15004]) (.cons (.refl _) (.cons (.refl _) (.cons (.refl _) (.cons (.refl _) (.cons (.refl _) (.cons (.refl _) (.cons (.refl _) .nil))))))) (by kernel_rfl) (by kernel_rfl) (by kernel_rfl)) ?_
        exact trl_start (ks := [2, 4, 6, 8, 12, 2003, 2005, 2007, 30003, 30005, 30007, 30009]) (by kernel_rfl) (ih13 (s11.1 ++ [s18.1], IntKind.i64.wrap (s11.2 + 1)) hM)
    · have hM := ite_false' hM h15
      refine tr_condFe (e := decide (s11.2 < (a0.Target.From.length : Int))) h15 (by kernel_rfl) ?_
      refine tr_exit (q_x (l_x (b_h (q_n ?_))))
      refine Tr.by (imp_promote (r := 1003) (i := 5) (q := 700039) (sz := 1) (sz' := 1) (n := s2.2.1.length) (cells := [iv v1.Objects, .rs 15001 0 v1.From.length, .rs 15002 0 v1.To.length, .rs 15003 0 v1.Identity.length, .rs 15004 0 v1.Composites.length, .fr 1 s2.2.1.length (s2.2.1.flatMap eI.o), .fr 1 s11.1.length (s11.1.flatMap (eS eI).o)]) (ds := s2.2.1.flatMap eI.o) (refs := [15001, 15002, 15003, 15004]) (by kernel_rfl) (by kernel_rfl) (by kernel_rfl)) ?_
      refine Tr.by (imp_promote (r := 1003) (i := 6) (q := 700040) (sz := 1) (sz' := 1) (n := s11.1.length) (cells := [iv v1.Objects, .rs 15001 0 v1.From.length, .rs 15002 0 v1.To.length, .rs 15003 0 v1.Identity.length, .rs 15004 0 v1.Composites.length, .rs 700039 0 s2.2.1.length, .fr 1 s11.1.length (s11.1.flatMap (eS eI).o)]) (ds := s11.1.flatMap (eS eI).o) (refs := [700039, 15001, 15002, 15003, 15004]) (by kernel_rfl) (by kernel_rfl) (by kernel_rfl)) ?_
      refine tr_srN hT hm [] [4, 2005, 30003, 30005, 30007, 30009, 1400079, 1400081] ([(4, .d (.rp 1002 0)), (2005, .r (.arr 1 [iv v1.Objects, .rs 15001 0 v1.From.length, .rs 15002 0 v1.To.length, .rs 15003 0 v1.Identity.length, .rs 15004 0 v1.Composites.length, .rs 700039 0 s2.2.1.length, .rs 700040 0 s11.1.length] [15001, 15002, 15003, 15004, 700039, 700040]))] ++ rsS 15000 (eXCategory.o v1) ++ [(1400079, .r (.arr 1 (s2.2.1.flatMap eI.o) [])), (1400081, .r (.arr 1 (s11.1.flatMap (eS eI).o) []))]) (.cons (Nat.le_of_ble_eq_true (n := 7) (m := 7) rfl) .nil) (by kernel_rfl) (by kernel_rfl) ?_
      refine tr_ret (rg_r ?_)
      obtain rfl := Option.some.inj hM
      exact retg (names := []) (.cons (lenO_flat eI_ok v1.From) (.cons (lenO_flat eI_ok v1.To) (.cons (lenO_flat eI_ok v1.Identity) (.cons (lenO_flat (eS_ok eI_ok) v1.Composites) (.cons (lenO_flat eI_ok s2.2.1) (.cons (lenO_flat (eS_ok eI_ok) s11.1) .nil)))))) (by kernel_rfl)

theorem ok23 : CallOk Try.prog 23 := callOk_of Try.func23 (by kernel_rfl) (by kernel_rfl)
theorem spec_FibreSets_c (a0 : XFunctor) (r : XSetFunctor × Int) (hM : M.spec_FibreSets a0 = some r) :
    FnC Try.prog 23 [] [.agg (eXFunctor.b a0)] [] (.tup [.agg (eXSetFunctor.o r.1), iv r.2]) := by
  refine fnc_startG (N := 14) (np := 500) hT Try.func23 rfl rfl (by kernel_rfl) ?_
  unfold M.spec_FibreSets at hM
  refine tr_start (ks := [0]) (st' := [(0, .d (.agg (eXFunctor.b a0)))]) (by kernel_rfl) ?_
  refine tr_srN hT hm [] [2, 4, 2003, 2005] [(2, .d (.rp 1001 0)), (4, .d (.rp 1002 0)), bxB 2003 (eXFunctor.b a0), (2005, .r (.arr 1 [iv 0, nilv, nilv, nilv, nilv, nilv, nilv] []))] .nil (by kernel_rfl) (by kernel_rfl) ?_
  refine tr_seq ?_
  obtain ⟨v1, hv1, hM⟩ := bind_some' hM
  refine tr_srN hT hm [(1, .call [] [] [.agg (eXFunctor.b a0)] [] (bv v1))] [2, 4, 12, 2003, 2005] [(2, .d (.rp 1001 0)), (4, .d (.rp 1002 0)), (12, .d (bv (!v1))), bxB 2003 (eXFunctor.b a0), (2005, .r (.arr 1 [iv 0, nilv, nilv, nilv, nilv, nilv, nilv] []))] (cc0 ok78 (spec_l06Is_c a0 _ hv1) (by kernel_rfl) .nil) (by kernel_rfl) (by kernel_rfl) ?_
  rcases Bool.eq_false_or_eq_true v1 with h2 | h2
  · have hM := ite_true' hM h2
    refine tr_condFe (e := !v1) (congrArg not h2) (by kernel_rfl) ?_
    refine tr_skip (q_n ?_)
    refine tr_seq ?_
    obtain ⟨v3, hv3, hM⟩ := bind_some' hM
    refine tr_srN hT hm [(1, .call [] [] [.agg (eXFunctor.b a0)] [] (bv v3))] [2, 4, 20, 2003, 2005] [(2, .d (.rp 1001 0)), (4, .d (.rp 1002 0)), (20, .d (bv (!v3))), bxB 2003 (eXFunctor.b a0), (2005, .r (.arr 1 [iv 0, nilv, nilv, nilv, nilv, nilv, nilv] []))] (cc0 ok79 (spec_l34Discrete_c a0 _ hv3) (by kernel_rfl) .nil) (by kernel_rfl) (by kernel_rfl) ?_
    rcases Bool.eq_false_or_eq_true v3 with h4 | h4
    · have hM := ite_true' hM h4
      refine tr_condFe (e := !v3) (congrArg not h4) (by kernel_rfl) ?_
      refine tr_skip (q_n ?_)
      obtain ⟨v5, hv5, hM⟩ := bind_some' hM
      refine tr_srN hT hm [(1, .call [] [] [.agg (eXFunctor.b a0)] [] (.agg (eXSetFunctor.o v5)))] [4, 6, 2005, 30003, 30005, 30007, 30009, 30011, 30013] ([(4, .d (.rp 1002 0)), (6, .d (iv 0)), bxO 2005 15000 (eXSetFunctor.o v5)] ++ rsS 15000 (eXSetFunctor.o v5)) (cc0 ok80 (spec_l34Sets_c a0 _ hv5) (by kernel_rfl) (.cons (Nat.le_of_ble_eq_true (n := 7) (m := 7) rfl) .nil)) (by kernel_rfl) (by kernel_rfl) ?_
      refine tr_ret (rg_r ?_)
      obtain rfl := Option.some.inj hM
      exact retg (names := []) (.cons (lenO_flat eI_ok v5.Shape.From) (.cons (lenO_flat eI_ok v5.Shape.To) (.cons (lenO_flat eI_ok v5.Shape.Identity) (.cons (lenO_flat (eS_ok eI_ok) v5.Shape.Composites) (.cons (lenO_flat eI_ok v5.Sizes) (.cons (lenO_flat (eS_ok eI_ok) v5.Actions) .nil)))))) (by kernel_rfl)
    · have hM := ite_false' hM h4
      refine tr_condTe (e := !v3) (congrArg not h4) (by kernel_rfl) ?_
      refine tr_srN hT hm [] [4, 6, 2005] [(4, .d (.rp 1002 0)), (6, .d (iv 5)), (2005, .r (.arr 1 [iv 0, nilv, nilv, nilv, nilv, nilv, nilv] []))] (.cons (Nat.le_of_ble_eq_true (n := 7) (m := 7) rfl) .nil) (by kernel_rfl) (by kernel_rfl) ?_
      refine tr_ret (q_r (rg_r ?_))
      refine RetG.by (imp_cvB (r := 1002) (sz := 1) (cells := [iv 0, nilv, nilv, nilv, nilv, nilv, nilv]) (cells' := [iv 0, .fr 1 ([] : List Int).length (([] : List Int).flatMap eI.o), .fr 1 ([] : List Int).length (([] : List Int).flatMap eI.o), .fr 1 ([] : List Int).length (([] : List Int).flatMap eI.o), .fr 1 ([] : List (List Int)).length (([] : List (List Int)).flatMap (eS eI).o), .fr 1 ([] : List Int).length (([] : List Int).flatMap eI.o), .fr 1 ([] : List (List Int)).length (([] : List (List Int)).flatMap (eS eI).o)]) (refs := []) (refs' := []) (.cons (.refl _) (.cons Sub.nil_fr (.cons Sub.nil_fr (.cons Sub.nil_fr (.cons Sub.nil_fr (.cons Sub.nil_fr (.cons Sub.nil_fr .nil))))))) (by kernel_rfl) (by kernel_rfl) (by kernel_rfl)) ?_
      obtain rfl := Option.some.inj hM
      exact retg (names := []) .nil (by kernel_rfl)
  · have hM := ite_false' hM h2
    refine tr_condTe (e := !v1) (congrArg not h2) (by kernel_rfl) ?_
    refine tr_srN hT hm [] [4, 6, 2005] [(4, .d (.rp 1002 0)), (6, .d (iv 1)), (2005, .r (.arr 1 [iv 0, nilv, nilv, nilv, nilv, nilv, nilv] []))] (.cons (Nat.le_of_ble_eq_true (n := 7) (m := 7) rfl) .nil) (by kernel_rfl) (by kernel_rfl) ?_
    refine tr_ret (q_r (rg_r ?_))
    refine RetG.by (imp_cvB (r := 1002) (sz := 1) (cells := [iv 0, nilv, nilv, nilv, nilv, nilv, nilv]) (cells' := [iv 0, .fr 1 ([] : List Int).length (([] : List Int).flatMap eI.o), .fr 1 ([] : List Int).length (([] : List Int).flatMap eI.o), .fr 1 ([] : List Int).length (([] : List Int).flatMap eI.o), .fr 1 ([] : List (List Int)).length (([] : List (List Int)).flatMap (eS eI).o), .fr 1 ([] : List Int).length (([] : List Int).flatMap eI.o), .fr 1 ([] : List (List Int)).length (([] : List (List Int)).flatMap (eS eI).o)]) (refs := []) (refs' := []) (.cons (.refl _) (.cons Sub.nil_fr (.cons Sub.nil_fr (.cons Sub.nil_fr (.cons Sub.nil_fr (.cons Sub.nil_fr (.cons Sub.nil_fr .nil))))))) (by kernel_rfl) (by kernel_rfl) (by kernel_rfl)) ?_
    obtain rfl := Option.some.inj hM
    exact retg (names := []) .nil (by kernel_rfl)

theorem ok87 : CallOk Try.prog 87 := callOk_of Try.func87 (by kernel_rfl) (by kernel_rfl)
theorem impl_Functor_over_c (a0 : XFunctor) (a1 : Int) (a2 : Int) (r : (List Int)) (hM : M.impl_Functor_over a0 a1 a2 = some r) :
    FnC Try.prog 87 [] [.pt (eXFunctor.b a0) 0, iv a1, iv a2] [] (.fr 1 r.length (r.flatMap eI.o)) := by
  refine fnc_startG (N := 36) (np := 500) hT Try.func87 rfl rfl (by kernel_rfl) ?_
  unfold M.impl_Functor_over at hM
  refine tr_start (ks := [0, 2, 4]) (st' := [(0, .d (.pt (eXFunctor.b a0) 0)), (2, .d (iv a1)), (4, .d (iv a2))]) (by kernel_rfl) ?_
  refine tr_srN hT hm [] [0, 2, 4] [(0, .d (.pt (eXFunctor.b a0) 0)), (2, .d (iv a1)), (4, .d (iv a2))] .nil (by kernel_rfl) (by kernel_rfl) ?_
  refine tr_srN hT hm [] [0, 2, 4, 14, 2021] [(0, .d (.pt (eXFunctor.b a0) 0)), (2, .d (iv a1)), (4, .d (iv a2)), (14, .d (.rs 1010 0 (([] : List Int).length))), (2021, .r (.arr 1 (([] : List Int).flatMap eI.o) []))] .nil (by kernel_rfl) (by kernel_rfl) ?_
  refine tr_seq ?_
  obtain ⟨v1, hv1, hM⟩ := bind_some' hM
  refine tr_srN hT hm [(4, .call [] [] [.pt (eXCategory.b a0.Source) 0, iv a1] [] (.fr 1 v1.length (v1.flatMap eI.o)))] [0, 4, 14, 30, 32, 34, 2021, 34001] [(0, .d (.pt (eXFunctor.b a0) 0)), (4, .d (iv a2)), (14, .d (.rs 1010 0 (([] : List Int).length))), (30, .d (.rs 17000 0 v1.length)), (32, .d (iv (v1.length : Int))), (34, .d (iv 0)), (2021, .r (.arr 1 (([] : List Int).flatMap eI.o) [])), (34001, .r (.arr 1 (v1.flatMap eI.o) []))] (cc (B := []) (ρ := []) (rB := []) ok187 (impl_Category_outOf_c a0.Source a1 _ hv1) (.cons (.pass (.ptk (ds := eXFunctor.b a0) (ds' := eXCategory.b a0.Source) (off := 0) (n := 5) (by kernel_rfl) (by kernel_rfl) (by kernel_rfl))) (.cons (.same rfl) .nil)) (.inl rfl) .nil) (by kernel_rfl) (by kernel_rfl) ?_
  refine tr_block ?_
  refine tr_iterS (fun (s2 : (List Int) × Int) => [(0, .d (.pt (eXFunctor.b a0) 0)), (4, .d (iv a2)), (14, .d (.rs 1010 0 s2.1.length)), (30, .d (.rs 17000 0 v1.length)), (32, .d (iv (v1.length : Int))), (34, .d (iv s2.2)), (2021, .r (.arr 1 (s2.1.flatMap eI.o) [])), (34001, .r (.arr 1 (v1.flatMap eI.o) []))]) (([] : List Int), 0) [0, 4, 14, 30, 32, 34, 2021, 34001] (by kernel_rfl) hM ?_
  intro n5 next3 ih4 s2 hM
  refine tr_srN hT hm [] [0, 4, 14, 30, 32, 34, 36, 2021, 34001] [(0, .d (.pt (eXFunctor.b a0) 0)), (4, .d (iv a2)), (14, .d (.rs 1010 0 s2.1.length)), (30, .d (.rs 17000 0 v1.length)), (32, .d (iv (v1.length : Int))), (34, .d (iv s2.2)), (36, .d (bv (decide (s2.2 < (v1.length : Int))))), (2021, .r (.arr 1 (s2.1.flatMap eI.o) [])), (34001, .r (.arr 1 (v1.flatMap eI.o) []))] .nil (by kernel_rfl) (by kernel_rfl) ?_
  refine tr_seq ?_
  rcases Bool.eq_false_or_eq_true (decide (s2.2 < (v1.length : Int))) with h6 | h6
  · have hM := ite_true' hM h6
    refine tr_condTe (e := decide (s2.2 < (v1.length : Int))) h6 (by kernel_rfl) ?_
    refine tr_skip (q_n ?_)
    refine tr_seq ?_
    refine tr_block ?_
    obtain ⟨y7, hy7, hM⟩ := bind_some' hM
    have hy7' := idx_some hy7
    refine tr_srN hT hm [(1, .val (iv y7))] [0, 4, 14, 18, 30, 32, 34, 2021, 34001] [(0, .d (.pt (eXFunctor.b a0) 0)), (4, .d (iv a2)), (14, .d (.rs 1010 0 s2.1.length)), (18, .d (iv y7)), (30, .d (.rs 17000 0 v1.length)), (32, .d (iv (v1.length : Int))), (34, .d (iv s2.2)), (2021, .r (.arr 1 (s2.1.flatMap eI.o) [])), (34001, .r (.arr 1 (v1.flatMap eI.o) []))] (.cons hy7'.1 (.cons hy7'.2.1 (.cons (at_o0 eI_ok hy7'.2.2 (d := iv y7) (by kernel_rfl)) .nil))) (by kernel_rfl) (by kernel_rfl) ?_
    obtain ⟨y8, hy8, hM⟩ := bind_some' hM
    have hy8' := idx_some hy8
    refine tr_srN hT hm [(6, .val (iv y8))] [0, 4, 14, 18, 30, 32, 34, 58, 2021, 34001] [(0, .d (.pt (eXFunctor.b a0) 0)), (4, .d (iv a2)), (14, .d (.rs 1010 0 s2.1.length)), (18, .d (iv y7)), (30, .d (.rs 17000 0 v1.length)), (32, .d (iv (v1.length : Int))), (34, .d (iv s2.2)), (58, .d (bv (y8 == a2))), (2021, .r (.arr 1 (s2.1.flatMap eI.o) [])), (34001, .r (.arr 1 (v1.flatMap eI.o) []))] (.cons hy8'.1 (.cons hy8'.2.1 (.cons (at_b0 eI_ok hy8'.2.2 (d := iv y8) (by kernel_rfl)) .nil))) (by kernel_rfl) (by kernel_rfl) ?_
    rcases Bool.eq_false_or_eq_true (y8 == a2) with h9 | h9
    · have hM := ite_true' hM h9
      refine tr_condTe (e := y8 == a2) h9 (by kernel_rfl) ?_
      obtain ⟨h10, hM⟩ := chk_some hM
      refine tr_rN hT hm [(3, .app true)] [0, 4, 14, 30, 32, 34, 2067, 34001] [(0, .d (.pt (eXFunctor.b a0) 0)), (4, .d (iv a2)), (14, .d (.rs 1033 0 (s2.1.length + (([y7] : List Int).length)))), (30, .d (.rs 17000 0 v1.length)), (32, .d (iv (v1.length : Int))), (34, .d (iv s2.2)), (2067, .r (.arr 1 (s2.1.flatMap eI.o ++ ([y7] : List Int).flatMap eI.o) [])), (34001, .r (.arr 1 (v1.flatMap eI.o) []))] (.cons (lenO_flat eI_ok s2.1) (.cons (lenO_flat eI_ok ([y7] : List Int)) (.cons h10 .nil))) (by kernel_rfl) (by kernel_rfl) (b_n (q_n ?_))
      refine Tr.by (imp_cvE (r := 1033) (sz := 1) (refs := []) (flat_app eI.o s2.1 ([y7] : List Int)) (menO_flat eI_ok _) (by kernel_rfl)) ?_
      refine Tr.by (imp_cvD (k := 14) (congrArg (D.rs 1033 0) ((len_app s2.1 ([y7] : List Int)) : s2.1.length + (([y7] : List Int).length) = (s2.1 ++ ([y7] : List Int)).length)) (by kernel_rfl)) ?_
      refine tr_rN hT hm [] [0, 4, 14, 30, 32, 34, 2067, 34001] [(0, .d (.pt (eXFunctor.b a0) 0)), (4, .d (iv a2)), (14, .d (.rs 1033 0 ((s2.1 ++ ([y7] : List Int)).length))), (30, .d (.rs 17000 0 v1.length)), (32, .d (iv (v1.length : Int))), (34, .d (iv (IntKind.i64.wrap (s2.2 + 1)))), (2067, .r (.arr 1 ((s2.1 ++ ([y7] : List Int)).flatMap eI.o) [])), (34001, .r (.arr 1 (v1.flatMap eI.o) []))] .nil (by kernel_rfl) (by kernel_rfl) (l_n ?_)
      refine TrL.by (imp_sel (ks := [0, 4, 14, 30, 32, 34, 2067, 34001]) (st' := [(0, .d (.pt (eXFunctor.b a0) 0)), (4, .d (iv a2)), (14, .d (.rs 1033 0 ((s2.1 ++ ([y7] : List Int)).length))), (30, .d (.rs 17000 0 v1.length)), (32, .d (iv (v1.length : Int))), (34, .d (iv (IntKind.i64.wrap (s2.2 + 1)))), (2067, .r (.arr 1 ((s2.1 ++ ([y7] : List Int)).flatMap eI.o) [])), (34001, .r (.arr 1 (v1.flatMap eI.o) []))]) (by kernel_rfl)) ?_
      refine TrL.by (imp_rename (r := 1033) (q := 1010) (by kernel_rfl) (Nat.le_of_ble_eq_true rfl)) ?_
      exact trl_start (ks := [0, 4, 14, 30, 32, 34, 2021, 34001]) (by kernel_rfl) (ih4 (s2.1 ++ ([y7] : List Int), IntKind.i64.wrap (s2.2 + 1)) hM)
    · have hM := ite_false' hM h9
      refine tr_condFe (e := y8 == a2) h9 (by kernel_rfl) ?_
      refine tr_skip (b_n (q_n ?_))
      refine tr_rN hT hm [] [0, 4, 14, 30, 32, 34, 2021, 34001] [(0, .d (.pt (eXFunctor.b a0) 0)), (4, .d (iv a2)), (14, .d (.rs 1010 0 s2.1.length)), (30, .d (.rs 17000 0 v1.length)), (32, .d (iv (v1.length : Int))), (34, .d (iv (IntKind.i64.wrap (s2.2 + 1)))), (2021, .r (.arr 1 (s2.1.flatMap eI.o) [])), (34001, .r (.arr 1 (v1.flatMap eI.o) []))] .nil (by kernel_rfl) (by kernel_rfl) (l_n ?_)
      exact trl_start (ks := [0, 4, 14, 30, 32, 34, 2021, 34001]) (by kernel_rfl) (ih4 (s2.1, IntKind.i64.wrap (s2.2 + 1)) hM)
  · have hM := ite_false' hM h6
    refine tr_condFe (e := decide (s2.2 < (v1.length : Int))) h6 (by kernel_rfl) ?_
    refine tr_exit (q_x (l_x (b_h (q_n ?_))))
    refine tr_srN hT hm [] [12, 2021] [(12, .d (.rs 1010 0 s2.1.length)), (2021, .r (.arr 1 (s2.1.flatMap eI.o) []))] .nil (by kernel_rfl) (by kernel_rfl) ?_
    refine tr_ret (rg_r ?_)
    obtain rfl := Option.some.inj hM
    exact retg (names := []) (.cons (lenO_flat eI_ok s2.1) .nil) (by kernel_rfl)

theorem ok83 : CallOk Try.prog 83 := callOk_of Try.func83 (by kernel_rfl) (by kernel_rfl)
theorem impl_Functor_isDiscreteOpfibration_c (a0 : XFunctor) (r : Bool) (hM : M.impl_Functor_isDiscreteOpfibration a0 = some r) :
    FnC Try.prog 83 [] [.pt (eXFunctor.b a0) 0] [] (bv r) := by
  refine fnc_startG (N := 35) (np := 500) hT Try.func83 rfl rfl (by kernel_rfl) ?_
  unfold M.impl_Functor_isDiscreteOpfibration at hM
  refine tr_start (ks := [0]) (st' := [(0, .d (.pt (eXFunctor.b a0) 0))]) (by kernel_rfl) ?_
  refine tr_srN hT hm [] [0] [(0, .d (.pt (eXFunctor.b a0) 0))] .nil (by kernel_rfl) (by kernel_rfl) ?_
  refine tr_seq ?_
  refine tr_srN hT hm [] [0, 20, 22, 24] [(0, .d (.pt (eXFunctor.b a0) 0)), (20, .d (.sl a0.Objects.length 0 (a0.Objects.flatMap eI.b))), (22, .d (iv (a0.Objects.length : Int))), (24, .d (iv 0))] .nil (by kernel_rfl) (by kernel_rfl) ?_
  refine tr_block ?_
  refine tr_iterS (fun (s1 : Int) => [(0, .d (.pt (eXFunctor.b a0) 0)), (20, .d (.sl a0.Objects.length 0 (a0.Objects.flatMap eI.b))), (22, .d (iv (a0.Objects.length : Int))), (24, .d (iv s1))]) 0 [0, 20, 22, 24] (by kernel_rfl) hM ?_
  intro n4 next2 ih3 s1 hM
  refine tr_srN hT hm [] [0, 20, 22, 24, 26] [(0, .d (.pt (eXFunctor.b a0) 0)), (20, .d (.sl a0.Objects.length 0 (a0.Objects.flatMap eI.b))), (22, .d (iv (a0.Objects.length : Int))), (24, .d (iv s1)), (26, .d (bv (decide (s1 < (a0.Objects.length : Int)))))] .nil (by kernel_rfl) (by kernel_rfl) ?_
  refine tr_seq ?_
  rcases Bool.eq_false_or_eq_true (decide (s1 < (a0.Objects.length : Int))) with h5 | h5
  · have hM := ite_true' hM h5
    refine tr_condTe (e := decide (s1 < (a0.Objects.length : Int))) h5 (by kernel_rfl) ?_
    refine tr_skip (q_n ?_)
    refine tr_seq ?_
    refine tr_block ?_
    obtain ⟨y6, hy6, hM⟩ := bind_some' hM
    have hy6' := idx_some hy6
    refine tr_srN hT hm [(2, .val (iv y6))] [0, 6, 8, 20, 22, 24] [(0, .d (.pt (eXFunctor.b a0) 0)), (6, .d (iv s1)), (8, .d (iv y6)), (20, .d (.sl a0.Objects.length 0 (a0.Objects.flatMap eI.b))), (22, .d (iv (a0.Objects.length : Int))), (24, .d (iv s1))] (.cons hy6'.1 (.cons hy6'.2.1 (.cons (at_b0 eI_ok hy6'.2.2 (d := iv y6) (by kernel_rfl)) .nil))) (by kernel_rfl) (by kernel_rfl) ?_
    obtain ⟨v7, hv7, hM⟩ := bind_some' hM
    refine tr_srN hT hm [(4, .call [] [] [.pt (eXCategory.b a0.Target) 0, iv y6] [] (.fr 1 v7.length (v7.flatMap eI.o)))] [0, 6, 20, 22, 24, 42, 44, 46, 46001] [(0, .d (.pt (eXFunctor.b a0) 0)), (6, .d (iv s1)), (20, .d (.sl a0.Objects.length 0 (a0.Objects.flatMap eI.b))), (22, .d (iv (a0.Objects.length : Int))), (24, .d (iv s1)), (42, .d (.rs 23000 0 v7.length)), (44, .d (iv (v7.length : Int))), (46, .d (iv 0)), (46001, .r (.arr 1 (v7.flatMap eI.o) []))] (cc (B := []) (ρ := []) (rB := []) ok187 (impl_Category_outOf_c a0.Target y6 _ hv7) (.cons (.pass (.ptk (ds := eXFunctor.b a0) (ds' := eXCategory.b a0.Target) (off := 5) (n := 5) (by kernel_rfl) (by kernel_rfl) (by kernel_rfl))) (.cons (.same rfl) .nil)) (.inl rfl) .nil) (by kernel_rfl) (by kernel_rfl) ?_
    refine tr_block ?_
    refine tr_iterS (fun (s8 : Int) => [(0, .d (.pt (eXFunctor.b a0) 0)), (6, .d (iv s1)), (20, .d (.sl a0.Objects.length 0 (a0.Objects.flatMap eI.b))), (22, .d (iv (a0.Objects.length : Int))), (24, .d (iv s1)), (42, .d (.rs 23000 0 v7.length)), (44, .d (iv (v7.length : Int))), (46, .d (iv s8)), (46001, .r (.arr 1 (v7.flatMap eI.o) []))]) 0 [0, 6, 20, 22, 24, 42, 44, 46, 46001] (by kernel_rfl) hM ?_
    intro n11 next9 ih10 s8 hM
    refine tr_srN hT hm [] [0, 6, 20, 22, 24, 42, 44, 46, 48, 46001] [(0, .d (.pt (eXFunctor.b a0) 0)), (6, .d (iv s1)), (20, .d (.sl a0.Objects.length 0 (a0.Objects.flatMap eI.b))), (22, .d (iv (a0.Objects.length : Int))), (24, .d (iv s1)), (42, .d (.rs 23000 0 v7.length)), (44, .d (iv (v7.length : Int))), (46, .d (iv s8)), (48, .d (bv (decide (s8 < (v7.length : Int))))), (46001, .r (.arr 1 (v7.flatMap eI.o) []))] .nil (by kernel_rfl) (by kernel_rfl) ?_
    refine tr_seq ?_
    rcases Bool.eq_false_or_eq_true (decide (s8 < (v7.length : Int))) with h12 | h12
    · have hM := ite_true' hM h12
      refine tr_condTe (e := decide (s8 < (v7.length : Int))) h12 (by kernel_rfl) ?_
      refine tr_skip (q_n ?_)
      refine tr_seq ?_
      refine tr_block ?_
      obtain ⟨y13, hy13, hM⟩ := bind_some' hM
      have hy13' := idx_some hy13
      refine tr_srN hT hm [(1, .val (iv y13))] [0, 6, 12, 20, 22, 24, 42, 44, 46, 46001] [(0, .d (.pt (eXFunctor.b a0) 0)), (6, .d (iv s1)), (12, .d (iv y13)), (20, .d (.sl a0.Objects.length 0 (a0.Objects.flatMap eI.b))), (22, .d (iv (a0.Objects.length : Int))), (24, .d (iv s1)), (42, .d (.rs 23000 0 v7.length)), (44, .d (iv (v7.length : Int))), (46, .d (iv s8)), (46001, .r (.arr 1 (v7.flatMap eI.o) []))] (.cons hy13'.1 (.cons hy13'.2.1 (.cons (at_o0 eI_ok hy13'.2.2 (d := iv y13) (by kernel_rfl)) .nil))) (by kernel_rfl) (by kernel_rfl) ?_
      obtain ⟨v14, hv14, hM⟩ := bind_some' hM
      refine tr_srN hT hm [(3, .call [] [] [.pt (eXFunctor.b a0) 0, iv s1, iv y13] [] (.fr 1 v14.length (v14.flatMap eI.o)))] [0, 6, 20, 22, 24, 42, 44, 46, 64, 46001] [(0, .d (.pt (eXFunctor.b a0) 0)), (6, .d (iv s1)), (20, .d (.sl a0.Objects.length 0 (a0.Objects.flatMap eI.b))), (22, .d (iv (a0.Objects.length : Int))), (24, .d (iv s1)), (42, .d (.rs 23000 0 v7.length)), (44, .d (iv (v7.length : Int))), (46, .d (iv s8)), (64, .d (bv ((v14.length : Int) != 1))), (46001, .r (.arr 1 (v7.flatMap eI.o) []))] (cc0 ok87 (impl_Functor_over_c a0 s1 y13 _ hv14) (by kernel_rfl) .nil) (by kernel_rfl) (by kernel_rfl) ?_
      rcases Bool.eq_false_or_eq_true ((v14.length : Int) != 1) with h15 | h15
      · have hM := ite_true' hM h15
        refine tr_condTe (e := (v14.length : Int) != 1) h15 (by kernel_rfl) ?_
        refine tr_srN hT hm [] [4] [(4, .d (bv false))] .nil (by kernel_rfl) (by kernel_rfl) ?_
        refine tr_ret (b_r (q_r (l_r (b_r (b_r (q_r (l_r (b_r (q_r (rg_r ?_))))))))))
        obtain rfl := Option.some.inj hM
        exact retg (names := []) .nil (by kernel_rfl)
      · have hM := ite_false' hM h15
        refine tr_condFe (e := (v14.length : Int) != 1) h15 (by kernel_rfl) ?_
        refine tr_skip (b_n (q_n ?_))
        refine tr_rN hT hm [] [0, 6, 20, 22, 24, 42, 44, 46, 46001] [(0, .d (.pt (eXFunctor.b a0) 0)), (6, .d (iv s1)), (20, .d (.sl a0.Objects.length 0 (a0.Objects.flatMap eI.b))), (22, .d (iv (a0.Objects.length : Int))), (24, .d (iv s1)), (42, .d (.rs 23000 0 v7.length)), (44, .d (iv (v7.length : Int))), (46, .d (iv (IntKind.i64.wrap (s8 + 1)))), (46001, .r (.arr 1 (v7.flatMap eI.o) []))] .nil (by kernel_rfl) (by kernel_rfl) (l_n ?_)
        exact trl_start (ks := [0, 6, 20, 22, 24, 42, 44, 46, 46001]) (by kernel_rfl) (ih10 (IntKind.i64.wrap (s8 + 1)) hM)
    · have hM := ite_false' hM h12
      refine tr_condFe (e := decide (s8 < (v7.length : Int))) h12 (by kernel_rfl) ?_
      refine tr_exit (q_x (l_x (b_h (b_n (q_n ?_)))))
      refine tr_rN hT hm [] [0, 20, 22, 24] [(0, .d (.pt (eXFunctor.b a0) 0)), (20, .d (.sl a0.Objects.length 0 (a0.Objects.flatMap eI.b))), (22, .d (iv (a0.Objects.length : Int))), (24, .d (iv (IntKind.i64.wrap (s1 + 1))))] .nil (by kernel_rfl) (by kernel_rfl) (l_n ?_)
      exact trl_start (ks := [0, 20, 22, 24]) (by kernel_rfl) (ih3 (IntKind.i64.wrap (s1 + 1)) hM)
  · have hM := ite_false' hM h5
    refine tr_condFe (e := decide (s1 < (a0.Objects.length : Int))) h5 (by kernel_rfl) ?_
    refine tr_exit (q_x (l_x (b_h (q_n ?_))))
    refine tr_srN hT hm [] [4] [(4, .d (bv true))] .nil (by kernel_rfl) (by kernel_rfl) ?_
    refine tr_ret (rg_r ?_)
    obtain rfl := Option.some.inj hM
    exact retg (names := []) .nil (by kernel_rfl)

theorem ok85 : CallOk Try.prog 85 := callOk_of Try.func85 (by kernel_rfl) (by kernel_rfl)
theorem impl_Functor_objectsOver_c (a0 : XFunctor) (a1 : Int) (r : (List Int)) (hM : M.impl_Functor_objectsOver a0 a1 = some r) :
    FnC Try.prog 85 [] [.pt (eXFunctor.b a0) 0, iv a1] [] (.fr 1 r.length (r.flatMap eI.o)) := by
  refine fnc_startG (N := 28) (np := 500) hT Try.func85 rfl rfl (by kernel_rfl) ?_
  unfold M.impl_Functor_objectsOver at hM
  refine tr_start (ks := [0, 2]) (st' := [(0, .d (.pt (eXFunctor.b a0) 0)), (2, .d (iv a1))]) (by kernel_rfl) ?_
  refine tr_srN hT hm [] [0, 2] [(0, .d (.pt (eXFunctor.b a0) 0)), (2, .d (iv a1))] .nil (by kernel_rfl) (by kernel_rfl) ?_
  refine tr_srN hT hm [] [0, 2, 10, 2017] [(0, .d (.pt (eXFunctor.b a0) 0)), (2, .d (iv a1)), (10, .d (.rs 1008 0 (([] : List Int).length))), (2017, .r (.arr 1 (([] : List Int).flatMap eI.o) []))] .nil (by kernel_rfl) (by kernel_rfl) ?_
  refine tr_seq ?_
  refine tr_srN hT hm [] [2, 10, 24, 26, 28, 2017] [(2, .d (iv a1)), (10, .d (.rs 1008 0 (([] : List Int).length))), (24, .d (.sl a0.Objects.length 0 (a0.Objects.flatMap eI.b))), (26, .d (iv (a0.Objects.length : Int))), (28, .d (iv 0)), (2017, .r (.arr 1 (([] : List Int).flatMap eI.o) []))] .nil (by kernel_rfl) (by kernel_rfl) ?_
  refine tr_block ?_
  refine tr_iterS (fun (s1 : (List Int) × Int) => [(2, .d (iv a1)), (10, .d (.rs 1008 0 s1.1.length)), (24, .d (.sl a0.Objects.length 0 (a0.Objects.flatMap eI.b))), (26, .d (iv (a0.Objects.length : Int))), (28, .d (iv s1.2)), (2017, .r (.arr 1 (s1.1.flatMap eI.o) []))]) (([] : List Int), 0) [2, 10, 24, 26, 28, 2017] (by kernel_rfl) hM ?_
  intro n4 next2 ih3 s1 hM
  refine tr_srN hT hm [] [2, 10, 24, 26, 28, 30, 2017] [(2, .d (iv a1)), (10, .d (.rs 1008 0 s1.1.length)), (24, .d (.sl a0.Objects.length 0 (a0.Objects.flatMap eI.b))), (26, .d (iv (a0.Objects.length : Int))), (28, .d (iv s1.2)), (30, .d (bv (decide (s1.2 < (a0.Objects.length : Int))))), (2017, .r (.arr 1 (s1.1.flatMap eI.o) []))] .nil (by kernel_rfl) (by kernel_rfl) ?_
  refine tr_seq ?_
  rcases Bool.eq_false_or_eq_true (decide (s1.2 < (a0.Objects.length : Int))) with h5 | h5
  · have hM := ite_true' hM h5
    refine tr_condTe (e := decide (s1.2 < (a0.Objects.length : Int))) h5 (by kernel_rfl) ?_
    refine tr_skip (q_n ?_)
    refine tr_seq ?_
    refine tr_block ?_
    obtain ⟨y6, hy6, hM⟩ := bind_some' hM
    have hy6' := idx_some hy6
    refine tr_srN hT hm [(2, .val (iv y6))] [2, 10, 12, 14, 24, 26, 28, 2017] [(2, .d (iv a1)), (10, .d (.rs 1008 0 s1.1.length)), (12, .d (iv s1.2)), (14, .d (iv y6)), (24, .d (.sl a0.Objects.length 0 (a0.Objects.flatMap eI.b))), (26, .d (iv (a0.Objects.length : Int))), (28, .d (iv s1.2)), (2017, .r (.arr 1 (s1.1.flatMap eI.o) []))] (.cons hy6'.1 (.cons hy6'.2.1 (.cons (at_b0 eI_ok hy6'.2.2 (d := iv y6) (by kernel_rfl)) .nil))) (by kernel_rfl) (by kernel_rfl) ?_
    refine tr_srN hT hm [] [2, 10, 12, 24, 26, 28, 42, 2017] [(2, .d (iv a1)), (10, .d (.rs 1008 0 s1.1.length)), (12, .d (iv s1.2)), (24, .d (.sl a0.Objects.length 0 (a0.Objects.flatMap eI.b))), (26, .d (iv (a0.Objects.length : Int))), (28, .d (iv s1.2)), (42, .d (bv (y6 == a1))), (2017, .r (.arr 1 (s1.1.flatMap eI.o) []))] .nil (by kernel_rfl) (by kernel_rfl) ?_
    rcases Bool.eq_false_or_eq_true (y6 == a1) with h7 | h7
    · have hM := ite_true' hM h7
      refine tr_condTe (e := y6 == a1) h7 (by kernel_rfl) ?_
      obtain ⟨h8, hM⟩ := chk_some hM
      refine tr_rN hT hm [(3, .app true)] [2, 10, 24, 26, 28, 2051] [(2, .d (iv a1)), (10, .d (.rs 1025 0 (s1.1.length + (([s1.2] : List Int).length)))), (24, .d (.sl a0.Objects.length 0 (a0.Objects.flatMap eI.b))), (26, .d (iv (a0.Objects.length : Int))), (28, .d (iv s1.2)), (2051, .r (.arr 1 (s1.1.flatMap eI.o ++ ([s1.2] : List Int).flatMap eI.o) []))] (.cons (lenO_flat eI_ok s1.1) (.cons (lenO_flat eI_ok ([s1.2] : List Int)) (.cons h8 .nil))) (by kernel_rfl) (by kernel_rfl) (b_n (q_n ?_))
      refine Tr.by (imp_cvE (r := 1025) (sz := 1) (refs := []) (flat_app eI.o s1.1 ([s1.2] : List Int)) (menO_flat eI_ok _) (by kernel_rfl)) ?_
      refine Tr.by (imp_cvD (k := 10) (congrArg (D.rs 1025 0) ((len_app s1.1 ([s1.2] : List Int)) : s1.1.length + (([s1.2] : List Int).length) = (s1.1 ++ ([s1.2] : List Int)).length)) (by kernel_rfl)) ?_
      refine tr_rN hT hm [] [2, 10, 24, 26, 28, 2051] [(2, .d (iv a1)), (10, .d (.rs 1025 0 ((s1.1 ++ ([s1.2] : List Int)).length))), (24, .d (.sl a0.Objects.length 0 (a0.Objects.flatMap eI.b))), (26, .d (iv (a0.Objects.length : Int))), (28, .d (iv (IntKind.i64.wrap (s1.2 + 1)))), (2051, .r (.arr 1 ((s1.1 ++ ([s1.2] : List Int)).flatMap eI.o) []))] .nil (by kernel_rfl) (by kernel_rfl) (l_n ?_)
      refine TrL.by (imp_sel (ks := [2, 10, 24, 26, 28, 2051]) (st' := [(2, .d (iv a1)), (10, .d (.rs 1025 0 ((s1.1 ++ ([s1.2] : List Int)).length))), (24, .d (.sl a0.Objects.length 0 (a0.Objects.flatMap eI.b))), (26, .d (iv (a0.Objects.length : Int))), (28, .d (iv (IntKind.i64.wrap (s1.2 + 1)))), (2051, .r (.arr 1 ((s1.1 ++ ([s1.2] : List Int)).flatMap eI.o) []))]) (by kernel_rfl)) ?_
      refine TrL.by (imp_rename (r := 1025) (q := 1008) (by kernel_rfl) (Nat.le_of_ble_eq_true rfl)) ?_
      exact trl_start (ks := [2, 10, 24, 26, 28, 2017]) (by kernel_rfl) (ih3 (s1.1 ++ ([s1.2] : List Int), IntKind.i64.wrap (s1.2 + 1)) hM)
    · have hM := ite_false' hM h7
      refine tr_condFe (e := y6 == a1) h7 (by kernel_rfl) ?_
      refine tr_skip (b_n (q_n ?_))
      refine tr_rN hT hm [] [2, 10, 24, 26, 28, 2017] [(2, .d (iv a1)), (10, .d (.rs 1008 0 s1.1.length)), (24, .d (.sl a0.Objects.length 0 (a0.Objects.flatMap eI.b))), (26, .d (iv (a0.Objects.length : Int))), (28, .d (iv (IntKind.i64.wrap (s1.2 + 1)))), (2017, .r (.arr 1 (s1.1.flatMap eI.o) []))] .nil (by kernel_rfl) (by kernel_rfl) (l_n ?_)
      exact trl_start (ks := [2, 10, 24, 26, 28, 2017]) (by kernel_rfl) (ih3 (s1.1, IntKind.i64.wrap (s1.2 + 1)) hM)
  · have hM := ite_false' hM h5
    refine tr_condFe (e := decide (s1.2 < (a0.Objects.length : Int))) h5 (by kernel_rfl) ?_
    refine tr_exit (q_x (l_x (b_h (q_n ?_))))
    refine tr_srN hT hm [] [8, 2017] [(8, .d (.rs 1008 0 s1.1.length)), (2017, .r (.arr 1 (s1.1.flatMap eI.o) []))] .nil (by kernel_rfl) (by kernel_rfl) ?_
    refine tr_ret (rg_r ?_)
    obtain rfl := Option.some.inj hM
    exact retg (names := []) (.cons (lenO_flat eI_ok s1.1) .nil) (by kernel_rfl)

end Go.Proofs.Ytjmjhhhglbeacaa.Wy20
