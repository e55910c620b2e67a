/- Walks. Printed by wip/gen. -/
import Derived.Test.YtknmijgiefkijaaGxzMW0
namespace Go.Proofs.Ytknmijgiefkijaa.WzM
open Go.Gx Go.Proofs.Ytknmijgiefkijaa.WvB Go.Proofs.Ytknmijgiefkijaa.WyN Go.Proofs.Ytknmijgiefkijaa.WvS Go.Proofs.Ytknmijgiefkijaa.WzL

theorem laws_FnExactCompletionOfFunctor_c (a0 : XFunctor) (r : Bool) (hM : M.laws_FnExactCompletionOfFunctor a0 = some r) :
    FnC Try.prog 3 [] [.agg (eXFunctor.b a0)] [] (bv r) := by
  refine fnc_startG (N := 96) (np := 500) hT Try.func3 rfl rfl (by kernel_rfl) ?_
  unfold M.laws_FnExactCompletionOfFunctor at hM
  refine tr_start (ks := [0]) (st' := [(0, .d (.agg (eXFunctor.b a0)))]) (by kernel_rfl) ?_
  refine tr_sr hT hm [] [2, 2003] [(2, .d (.rp 1001 0)), bxB 2003 (eXFunctor.b a0)] .nil (by kernel_rfl) (by kernel_rfl) ?_
  refine tr_sr hT hm [] [2, 6, 2003] [(2, .d (.rp 1001 0)), (6, .d (iv 1048576)), bxB 2003 (eXFunctor.b a0)] .nil (by kernel_rfl) (by kernel_rfl) ?_
  obtain ⟨v1, hv1, hM⟩ := bind_some' hM
  refine tr_sr hT hm [(2, .call [] [] [.agg (eXFunctor.b a0), iv 1048576] [] (iv v1))] [2, 6, 2003] [(2, .d (.rp 1001 0)), (6, .d (iv v1)), bxB 2003 (eXFunctor.b a0)] (cc0 ok7 (laws_szFunctor_c a0 1048576 _ hv1) (by kernel_rfl) .nil) (by kernel_rfl) (by kernel_rfl) ?_
  refine tr_seq ?_
  refine tr_sr hT hm [] [2, 36, 2003] [(2, .d (.rp 1001 0)), (36, .d (bv (decide (v1 < 0)))), bxB 2003 (eXFunctor.b a0)] .nil (by kernel_rfl) (by kernel_rfl) ?_
  rcases Bool.eq_false_or_eq_true (decide (v1 < 0)) with h2 | h2
  · have hM := ite_true' hM h2
    refine tr_condTe (e := decide (v1 < 0)) h2 (by kernel_rfl) ?_
    refine tr_sr hT hm [] [4] [(4, .d (bv true))] .nil (by kernel_rfl) (by kernel_rfl) ?_
    refine tr_ret (q_r (rg_r ?_))
    obtain rfl := Option.some.inj hM
    exact retg (names := []) .nil (by kernel_rfl)
  · have hM := ite_false' hM h2
    refine tr_condFe (e := decide (v1 < 0)) h2 (by kernel_rfl) ?_
    refine tr_skip (q_n ?_)
    obtain ⟨v3, hv3, hM⟩ := bind_some' hM
    obtain ⟨v4, hv4, hM⟩ := bind_some' hM
    refine tr_sr hT hm [(1, .call [] [] [.agg (eXFunctor.b a0)] [] (.agg (eXFunctor.o v3))), (2, .call (rsR 23000 (eXFunctor.o v3)) [] [.agg (eXFunctor.b v3)] [] (.tup [.agg (eXFunctor.o v4.1), iv v4.2]))] [2, 8, 10, 2003, 2009, 48003, 48005, 48007, 48009, 48013, 48015, 48017, 48019, 48021, 48023] ([(2, .d (.rp 1001 0)), (8, .d (.rp 1004 0)), (10, .d (iv v4.2)), bxB 2003 (eXFunctor.b a0), bxO 2009 24000 (eXFunctor.o v4.1)] ++ rsS 24000 (eXFunctor.o v4.1)) (cc0 ok9 (laws_toFunctor_c a0 _ hv3) (by kernel_rfl) (cc (B := (rsR 23000 (eXFunctor.o v3))) (ρ := []) (rB := (rsP 23000 (eXFunctor.o v3))) ok8 (spec_CompletionOfFunctor_c v3 _ hv4) (.cons (bor_rs eXFunctor_r (q := 23000) (x := v3) (by kernel_rfl) (by kernel_rfl)) .nil) (.inr ⟨(nobor_tup (.cons (.agg (eXFunctor_nb _)) (.cons .v .nil))), trivial⟩) (.cons (Nat.le_of_ble_eq_true (n := 12) (m := 12) rfl) .nil))) (by kernel_rfl) (by kernel_rfl) ?_
    refine tr_sr hT hm [(1, .call [] [] [.agg (eXFunctor.b a0)] [] (.agg (eXFunctor.o v3)))] [2, 8, 10, 12, 2003, 2009, 2013, 48003, 48005, 48007, 48009, 48013, 48015, 48017, 48019, 48021, 48023, 56003, 56005, 56007, 56009, 56013, 56015, 56017, 56019, 56021, 56023] ([(2, .d (.rp 1001 0)), (8, .d (.rp 1004 0)), (10, .d (iv v4.2)), (12, .d (.rp 1006 0)), bxB 2003 (eXFunctor.b a0), bxO 2009 24000 (eXFunctor.o v4.1), bxO 2013 28000 (eXFunctor.o v3)] ++ rsS 24000 (eXFunctor.o v4.1) ++ rsS 28000 (eXFunctor.o v3)) (cc0 ok9 (laws_toFunctor_c a0 _ hv3) (by kernel_rfl) (.cons (Nat.le_of_ble_eq_true (n := 12) (m := 12) rfl) .nil)) (by kernel_rfl) (by kernel_rfl) ?_
    obtain ⟨v5, hv5, hM⟩ := bind_some' hM
    refine tr_sr hT hm [(1, .call (rsR 28000 (eXFunctor.o v3)) [] [.agg (eXFunctor.b v3)] [] (.tup [.agg (eXFunctor.o v5.1), iv v5.2]))] [2, 8, 10, 12, 14, 16, 2003, 2009, 2013, 2015, 48003, 48005, 48007, 48009, 48013, 48015, 48017, 48019, 48021, 48023, 56003, 56005, 56007, 56009, 56013, 56015, 56017, 56019, 56021, 56023, 62003, 62005, 62007, 62009, 62013, 62015, 62017, 62019, 62021, 62023] ([(2, .d (.rp 1001 0)), (8, .d (.rp 1004 0)), (10, .d (iv v4.2)), (12, .d (.rp 1006 0)), (14, .d (.rp 1007 0)), (16, .d (iv v5.2)), bxB 2003 (eXFunctor.b a0), bxO 2009 24000 (eXFunctor.o v4.1), bxO 2013 28000 (eXFunctor.o v3), bxO 2015 31000 (eXFunctor.o v5.1)] ++ rsS 24000 (eXFunctor.o v4.1) ++ rsS 28000 (eXFunctor.o v3) ++ rsS 31000 (eXFunctor.o v5.1)) (cc (B := (rsR 28000 (eXFunctor.o v3))) (ρ := []) (rB := (rsP 28000 (eXFunctor.o v3))) ok10 (impl_CompletionOfFunctor_c v3 _ hv5) (.cons (bor_rs eXFunctor_r (q := 28000) (x := v3) (by kernel_rfl) (by kernel_rfl)) .nil) (.inr ⟨(nobor_tup (.cons (.agg (eXFunctor_nb _)) (.cons .v .nil))), trivial⟩) (.cons (Nat.le_of_ble_eq_true (n := 12) (m := 12) rfl) .nil)) (by kernel_rfl) (by kernel_rfl) ?_
    refine tr_seq ?_
    obtain ⟨v6, hv6, hM⟩ := bind_some' hM
    rcases Bool.eq_false_or_eq_true v6 with h7 | h7
    · have hM := ite_true' hM h7
      refine tr_sr hT hm [(2, .call (rsR 31000 (eXFunctor.o v5.1) ++ rsR 24000 (eXFunctor.o v4.1)) [] [.agg (eXFunctor.b v5.1), .agg (eXFunctor.b v4.1)] [] (bv v6)), (4, .val (bv false))] [2, 8, 10, 12, 14, 16, 80, 2003, 2009, 2013, 2015, 48003, 48005, 48007, 48009, 48013, 48015, 48017, 48019, 48021, 48023, 56003, 56005, 56007, 56009, 56013, 56015, 56017, 56019, 56021, 56023, 62003, 62005, 62007, 62009, 62013, 62015, 62017, 62019, 62021, 62023] ([(2, .d (.rp 1001 0)), (8, .d (.rp 1004 0)), (10, .d (iv v4.2)), (12, .d (.rp 1006 0)), (14, .d (.rp 1007 0)), (16, .d (iv v5.2)), (80, .d (bv (v5.2 != v4.2))), bxB 2003 (eXFunctor.b a0), bxO 2009 24000 (eXFunctor.o v4.1), bxO 2013 28000 (eXFunctor.o v3), bxO 2015 31000 (eXFunctor.o v5.1)] ++ rsS 24000 (eXFunctor.o v4.1) ++ rsS 28000 (eXFunctor.o v3) ++ rsS 31000 (eXFunctor.o v5.1)) (cc (B := (rsR 31000 (eXFunctor.o v5.1) ++ rsR 24000 (eXFunctor.o v4.1))) (ρ := []) (rB := (rsP 31000 (eXFunctor.o v5.1) ++ rsP 24000 (eXFunctor.o v4.1))) ok11 (laws_eqFunctor_c v5.1 v4.1 _ hv6) (.cons (bor_rs eXFunctor_r (q := 31000) (x := v5.1) (by kernel_rfl) (by kernel_rfl)) (.cons (bor_rs eXFunctor_r (q := 24000) (x := v4.1) (by kernel_rfl) (by kernel_rfl)) .nil)) (.inr ⟨.v, trivial⟩) (.cons (congrArg (fun b => bv b) (congrArg not h7)) .nil)) (by kernel_rfl) (by kernel_rfl) ?_
      rcases Bool.eq_false_or_eq_true (v5.2 != v4.2) with h8 | h8
      · have hM := ite_true' hM h8
        refine tr_condTe (e := v5.2 != v4.2) h8 (by kernel_rfl) ?_
        refine tr_sr hT hm [] [4] [(4, .d (bv false))] .nil (by kernel_rfl) (by kernel_rfl) ?_
        refine tr_ret (q_r (rg_r ?_))
        obtain rfl := Option.some.inj hM
        exact retg (names := []) .nil (by kernel_rfl)
      · have hM := ite_false' hM h8
        refine tr_condFe (e := v5.2 != v4.2) h8 (by kernel_rfl) ?_
        refine tr_skip (q_n ?_)
        refine tr_seq ?_
        obtain ⟨v9, hv9, hM⟩ := bind_some' hM
        refine tr_sr hT hm [(2, .call [] [] [.agg (eXFunctor.b a0)] [] (.agg (eXFunctor.o v3))), (3, .call (rsR 28000 (eXFunctor.o v3) ++ rsR 45000 (eXFunctor.o v3)) [] [.agg (eXFunctor.b v3), .agg (eXFunctor.b v3)] [] (bv v9))] [2, 8, 10, 12, 14, 16, 90, 2003, 2009, 2013, 2015, 48003, 48005, 48007, 48009, 48013, 48015, 48017, 48019, 48021, 48023, 56003, 56005, 56007, 56009, 56013, 56015, 56017, 56019, 56021, 56023, 62003, 62005, 62007, 62009, 62013, 62015, 62017, 62019, 62021, 62023] ([(2, .d (.rp 1001 0)), (8, .d (.rp 1004 0)), (10, .d (iv v4.2)), (12, .d (.rp 1006 0)), (14, .d (.rp 1007 0)), (16, .d (iv v5.2)), (90, .d (bv (!v9))), bxB 2003 (eXFunctor.b a0), bxO 2009 24000 (eXFunctor.o v4.1), bxO 2013 28000 (eXFunctor.o v3), bxO 2015 31000 (eXFunctor.o v5.1)] ++ rsS 24000 (eXFunctor.o v4.1) ++ rsS 28000 (eXFunctor.o v3) ++ rsS 31000 (eXFunctor.o v5.1)) (cc0 ok9 (laws_toFunctor_c a0 _ hv3) (by kernel_rfl) (cc (B := (rsR 28000 (eXFunctor.o v3) ++ rsR 45000 (eXFunctor.o v3))) (ρ := []) (rB := (rsP 28000 (eXFunctor.o v3) ++ rsP 45000 (eXFunctor.o v3))) ok11 (laws_eqFunctor_c v3 v3 _ hv9) (.cons (bor_rs eXFunctor_r (q := 28000) (x := v3) (by kernel_rfl) (by kernel_rfl)) (.cons (bor_rs eXFunctor_r (q := 45000) (x := v3) (by kernel_rfl) (by kernel_rfl)) .nil)) (.inr ⟨.v, trivial⟩) .nil)) (by kernel_rfl) (by kernel_rfl) ?_
        rcases Bool.eq_false_or_eq_true v9 with h10 | h10
        · have hM := ite_true' hM h10
          refine tr_condFe (e := !v9) (congrArg not h10) (by kernel_rfl) ?_
          refine tr_skip (q_n ?_)
          refine tr_sr hT hm [] [2, 8, 10, 12, 14, 16, 18, 2003, 2009, 2013, 2015, 48003, 48005, 48007, 48009, 48013, 48015, 48017, 48019, 48021, 48023, 56003, 56005, 56007, 56009, 56013, 56015, 56017, 56019, 56021, 56023, 62003, 62005, 62007, 62009, 62013, 62015, 62017, 62019, 62021, 62023] ([(2, .d (.rp 1001 0)), (8, .d (.rp 1004 0)), (10, .d (iv v4.2)), (12, .d (.rp 1006 0)), (14, .d (.rp 1007 0)), (16, .d (iv v5.2)), (18, .d (iv 1)), bxB 2003 (eXFunctor.b a0), bxO 2009 24000 (eXFunctor.o v4.1), bxO 2013 28000 (eXFunctor.o v3), bxO 2015 31000 (eXFunctor.o v5.1)] ++ rsS 24000 (eXFunctor.o v4.1) ++ rsS 28000 (eXFunctor.o v3) ++ rsS 31000 (eXFunctor.o v5.1)) .nil (by kernel_rfl) (by kernel_rfl) ?_
          obtain ⟨v11, hv11, hM⟩ := bind_some' hM
          refine tr_sr hT hm [(2, .call [] [(101, 28001), (102, 28002), (103, 28003), (104, 28004), (106, 28006), (107, 28007), (108, 28008), (109, 28009), (110, 28010), (111, 28011)] [.agg [iv v3.Source.Objects, .rs 101 0 v3.Source.From.length, .rs 102 0 v3.Source.To.length, .rs 103 0 v3.Source.Identity.length, .rs 104 0 v3.Source.Composites.length, iv v3.Target.Objects, .rs 106 0 v3.Target.From.length, .rs 107 0 v3.Target.To.length, .rs 108 0 v3.Target.Identity.length, .rs 109 0 v3.Target.Composites.length, .rs 110 0 v3.Objects.length, .rs 111 0 v3.Arrows.length], iv 1] [(101, .arr 1 (v11.2.Source.From.flatMap eI.o) []), (102, .arr 1 (v11.2.Source.To.flatMap eI.o) []), (103, .arr 1 (v11.2.Source.Identity.flatMap eI.o) []), (104, .arr 1 (v11.2.Source.Composites.flatMap (eS eI).o) []), (106, .arr 1 (v11.2.Target.From.flatMap eI.o) []), (107, .arr 1 (v11.2.Target.To.flatMap eI.o) []), (108, .arr 1 (v11.2.Target.Identity.flatMap eI.o) []), (109, .arr 1 (v11.2.Target.Composites.flatMap (eS eI).o) []), (110, .arr 1 (v11.2.Objects.flatMap eI.o) []), (111, .arr 1 (v11.2.Arrows.flatMap eI.o) [])] (iv v11.1))] [2, 8, 10, 14, 16, 18, 2003, 2009, 2015, 48003, 48005, 48007, 48009, 48013, 48015, 48017, 48019, 48021, 48023, 62003, 62005, 62007, 62009, 62013, 62015, 62017, 62019, 62021, 62023] ([(2, .d (.rp 1001 0)), (8, .d (.rp 1004 0)), (10, .d (iv v4.2)), (14, .d (.rp 1007 0)), (16, .d (iv v5.2)), (18, .d (iv v11.1)), bxB 2003 (eXFunctor.b a0), bxO 2009 24000 (eXFunctor.o v4.1), bxO 2015 31000 (eXFunctor.o v5.1)] ++ rsS 24000 (eXFunctor.o v4.1) ++ rsS 31000 (eXFunctor.o v5.1)) (cc (B := []) (ρ := [(101, 28001), (102, 28002), (103, 28003), (104, 28004), (106, 28006), (107, 28007), (108, 28008), (109, 28009), (110, 28010), (111, 28011)]) (rB := []) ok12 (laws_markFunctor_c v3 1 _ hv11) (.cons (.aggA (.cons (.same rfl) (.cons (.pass (.rs rfl)) (.cons (.pass (.rs rfl)) (.cons (.pass (.rs rfl)) (.cons (.pass (.rs rfl)) (.cons (.same rfl) (.cons (.pass (.rs rfl)) (.cons (.pass (.rs rfl)) (.cons (.pass (.rs rfl)) (.cons (.pass (.rs rfl)) (.cons (.pass (.rs rfl)) (.cons (.pass (.rs rfl)) .nil))))))))))))) (.cons (.same rfl) .nil)) (.inl rfl) .nil) (by kernel_rfl) (by kernel_rfl) ?_
          refine tr_seq ?_
          rcases Bool.eq_false_or_eq_true (decide (v11.1 < 0)) with h12 | h12
          · have hM := ite_true' hM h12
            refine tr_sr hT hm [(2, .val (bv true))] [2, 8, 10, 14, 122, 2003, 2009, 2015, 48003, 48005, 48007, 48009, 48013, 48015, 48017, 48019, 48021, 48023, 62003, 62005, 62007, 62009, 62013, 62015, 62017, 62019, 62021, 62023] ([(2, .d (.rp 1001 0)), (8, .d (.rp 1004 0)), (10, .d (iv v4.2)), (14, .d (.rp 1007 0)), (122, .d (bv true)), bxB 2003 (eXFunctor.b a0), bxO 2009 24000 (eXFunctor.o v4.1), bxO 2015 31000 (eXFunctor.o v5.1)] ++ rsS 24000 (eXFunctor.o v4.1) ++ rsS 31000 (eXFunctor.o v5.1)) (.cons (congrArg (fun b => bv b) h12) .nil) (by kernel_rfl) (by kernel_rfl) ?_
            refine tr_condT (by kernel_rfl) ?_
            refine tr_sr hT hm [] [4] [(4, .d (bv false))] .nil (by kernel_rfl) (by kernel_rfl) ?_
            refine tr_ret (q_r (rg_r ?_))
            obtain rfl := Option.some.inj hM
            exact retg (names := []) .nil (by kernel_rfl)
          · have hM := ite_false' hM h12
            refine tr_sr hT hm [(2, .val (bv false)), (5, .call (rsR 31000 (eXFunctor.o v5.1) ++ rsR 24000 (eXFunctor.o v4.1)) [] [.agg (eXFunctor.b v5.1), .agg (eXFunctor.b v4.1)] [] (bv v6)), (8, .val (bv false))] [2, 8, 10, 14, 122, 2003, 2009, 2015, 48003, 48005, 48007, 48009, 48013, 48015, 48017, 48019, 48021, 48023, 62003, 62005, 62007, 62009, 62013, 62015, 62017, 62019, 62021, 62023] ([(2, .d (.rp 1001 0)), (8, .d (.rp 1004 0)), (10, .d (iv v4.2)), (14, .d (.rp 1007 0)), (122, .d (bv (v5.2 != v4.2))), bxB 2003 (eXFunctor.b a0), bxO 2009 24000 (eXFunctor.o v4.1), bxO 2015 31000 (eXFunctor.o v5.1)] ++ rsS 24000 (eXFunctor.o v4.1) ++ rsS 31000 (eXFunctor.o v5.1)) (.cons (congrArg (fun b => bv b) h12) (cc (B := (rsR 31000 (eXFunctor.o v5.1) ++ rsR 24000 (eXFunctor.o v4.1))) (ρ := []) (rB := (rsP 31000 (eXFunctor.o v5.1) ++ rsP 24000 (eXFunctor.o v4.1))) ok11 (laws_eqFunctor_c v5.1 v4.1 _ hv6) (.cons (bor_rs eXFunctor_r (q := 31000) (x := v5.1) (by kernel_rfl) (by kernel_rfl)) (.cons (bor_rs eXFunctor_r (q := 24000) (x := v4.1) (by kernel_rfl) (by kernel_rfl)) .nil)) (.inr ⟨.v, trivial⟩) (.cons (congrArg (fun b => bv b) (congrArg not h7)) .nil))) (by kernel_rfl) (by kernel_rfl) ?_
            refine tr_condFe (e := v5.2 != v4.2) h8 (by kernel_rfl) ?_
            refine tr_skip (q_n ?_)
            refine tr_sr hT hm [] [2, 8, 10, 14, 20, 2003, 2009, 2015, 48003, 48005, 48007, 48009, 48013, 48015, 48017, 48019, 48021, 48023, 62003, 62005, 62007, 62009, 62013, 62015, 62017, 62019, 62021, 62023] ([(2, .d (.rp 1001 0)), (8, .d (.rp 1004 0)), (10, .d (iv v4.2)), (14, .d (.rp 1007 0)), (20, .d (iv 1)), bxB 2003 (eXFunctor.b a0), bxO 2009 24000 (eXFunctor.o v4.1), bxO 2015 31000 (eXFunctor.o v5.1)] ++ rsS 24000 (eXFunctor.o v4.1) ++ rsS 31000 (eXFunctor.o v5.1)) .nil (by kernel_rfl) (by kernel_rfl) ?_
            obtain ⟨v13, hv13, hM⟩ := bind_some' hM
            refine tr_sr hT hm [(2, .call [] [(101, 31001), (102, 31002), (103, 31003), (104, 31004), (106, 31006), (107, 31007), (108, 31008), (109, 31009), (110, 31010), (111, 31011)] [.agg [iv v5.1.Source.Objects, .rs 101 0 v5.1.Source.From.length, .rs 102 0 v5.1.Source.To.length, .rs 103 0 v5.1.Source.Identity.length, .rs 104 0 v5.1.Source.Composites.length, iv v5.1.Target.Objects, .rs 106 0 v5.1.Target.From.length, .rs 107 0 v5.1.Target.To.length, .rs 108 0 v5.1.Target.Identity.length, .rs 109 0 v5.1.Target.Composites.length, .rs 110 0 v5.1.Objects.length, .rs 111 0 v5.1.Arrows.length], iv 1] [(101, .arr 1 (v13.2.Source.From.flatMap eI.o) []), (102, .arr 1 (v13.2.Source.To.flatMap eI.o) []), (103, .arr 1 (v13.2.Source.Identity.flatMap eI.o) []), (104, .arr 1 (v13.2.Source.Composites.flatMap (eS eI).o) []), (106, .arr 1 (v13.2.Target.From.flatMap eI.o) []), (107, .arr 1 (v13.2.Target.To.flatMap eI.o) []), (108, .arr 1 (v13.2.Target.Identity.flatMap eI.o) []), (109, .arr 1 (v13.2.Target.Composites.flatMap (eS eI).o) []), (110, .arr 1 (v13.2.Objects.flatMap eI.o) []), (111, .arr 1 (v13.2.Arrows.flatMap eI.o) [])] (iv v13.1))] [2, 8, 10, 14, 20, 2003, 2009, 2015, 48003, 48005, 48007, 48009, 48013, 48015, 48017, 48019, 48021, 48023, 62003, 62005, 62007, 62009, 62013, 62015, 62017, 62019, 62021, 62023] ([(2, .d (.rp 1001 0)), (8, .d (.rp 1004 0)), (10, .d (iv v4.2)), (14, .d (.rp 1007 0)), (20, .d (iv v13.1)), bxB 2003 (eXFunctor.b a0), bxO 2009 24000 (eXFunctor.o v4.1), bxO 2015 31000 (eXFunctor.o v5.1)] ++ rsS 24000 (eXFunctor.o v4.1) ++ rsS 31000 (eXFunctor.o v13.2)) (cc (B := []) (ρ := [(101, 31001), (102, 31002), (103, 31003), (104, 31004), (106, 31006), (107, 31007), (108, 31008), (109, 31009), (110, 31010), (111, 31011)]) (rB := []) ok12 (laws_markFunctor_c v5.1 1 _ hv13) (.cons (.aggA (.cons (.same rfl) (.cons (.pass (.rs rfl)) (.cons (.pass (.rs rfl)) (.cons (.pass (.rs rfl)) (.cons (.pass (.rs rfl)) (.cons (.same rfl) (.cons (.pass (.rs rfl)) (.cons (.pass (.rs rfl)) (.cons (.pass (.rs rfl)) (.cons (.pass (.rs rfl)) (.cons (.pass (.rs rfl)) (.cons (.pass (.rs rfl)) .nil))))))))))))) (.cons (.same rfl) .nil)) (.inl rfl) .nil) (by kernel_rfl) (by kernel_rfl) ?_
            refine Tr.by (imp_cvB (r := 1007) (sz := 1) (cells := rsC 31000 (eXFunctor.o v5.1)) (cells' := rsC 31000 (eXFunctor.o v13.2)) (refs := rsR 31000 (eXFunctor.o v5.1)) (refs' := rsR 31000 (eXFunctor.o v13.2)) (SubL.of_eq (rsC_eXFunctor 31000 (M.len_markFunctor hv13))) (by kernel_rfl) (by kernel_rfl) (by kernel_rfl)) ?_
            refine tr_sr hT hm [] [2, 8, 10, 14, 20, 22, 2003, 2009, 2015, 48003, 48005, 48007, 48009, 48013, 48015, 48017, 48019, 48021, 48023, 62003, 62005, 62007, 62009, 62013, 62015, 62017, 62019, 62021, 62023] ([(2, .d (.rp 1001 0)), (8, .d (.rp 1004 0)), (10, .d (iv v4.2)), (14, .d (.rp 1007 0)), (20, .d (iv v13.1)), (22, .d (iv 1)), bxB 2003 (eXFunctor.b a0), bxO 2009 24000 (eXFunctor.o v4.1), bxO 2015 31000 (eXFunctor.o v13.2)] ++ rsS 24000 (eXFunctor.o v4.1) ++ rsS 31000 (eXFunctor.o v13.2)) .nil (by kernel_rfl) (by kernel_rfl) ?_
            obtain ⟨v14, hv14, hM⟩ := bind_some' hM
            refine tr_sr hT hm [(2, .call (rsR 31000 (eXFunctor.o v13.2)) [] [.agg (eXFunctor.b v13.2), iv 1] [] (iv v14))] [2, 8, 10, 14, 20, 22, 2003, 2009, 2015, 48003, 48005, 48007, 48009, 48013, 48015, 48017, 48019, 48021, 48023, 62003, 62005, 62007, 62009, 62013, 62015, 62017, 62019, 62021, 62023] ([(2, .d (.rp 1001 0)), (8, .d (.rp 1004 0)), (10, .d (iv v4.2)), (14, .d (.rp 1007 0)), (20, .d (iv v13.1)), (22, .d (iv v14)), bxB 2003 (eXFunctor.b a0), bxO 2009 24000 (eXFunctor.o v4.1), bxO 2015 31000 (eXFunctor.o v13.2)] ++ rsS 24000 (eXFunctor.o v4.1) ++ rsS 31000 (eXFunctor.o v13.2)) (cc (B := (rsR 31000 (eXFunctor.o v13.2))) (ρ := []) (rB := (rsP 31000 (eXFunctor.o v13.2))) ok13 (laws_heldFunctor_c v13.2 1 _ hv14) (.cons (bor_rs eXFunctor_r (q := 31000) (x := v13.2) (by kernel_rfl) (by kernel_rfl)) (.cons (.same rfl) .nil)) (.inr ⟨.v, trivial⟩) .nil) (by kernel_rfl) (by kernel_rfl) ?_
            refine tr_seq ?_
            refine tr_sr hT hm [] [2, 8, 10, 14, 20, 22, 138, 2003, 2009, 2015, 48003, 48005, 48007, 48009, 48013, 48015, 48017, 48019, 48021, 48023, 62003, 62005, 62007, 62009, 62013, 62015, 62017, 62019, 62021, 62023] ([(2, .d (.rp 1001 0)), (8, .d (.rp 1004 0)), (10, .d (iv v4.2)), (14, .d (.rp 1007 0)), (20, .d (iv v13.1)), (22, .d (iv v14)), (138, .d (bv (decide (v14 < 0)))), bxB 2003 (eXFunctor.b a0), bxO 2009 24000 (eXFunctor.o v4.1), bxO 2015 31000 (eXFunctor.o v13.2)] ++ rsS 24000 (eXFunctor.o v4.1) ++ rsS 31000 (eXFunctor.o v13.2)) .nil (by kernel_rfl) (by kernel_rfl) ?_
            rcases Bool.eq_false_or_eq_true (decide (v14 < 0)) with h15 | h15
            · have hM := ite_true' hM h15
              refine tr_condTe (e := decide (v14 < 0)) h15 (by kernel_rfl) ?_
              refine tr_sr hT hm [] [4] [(4, .d (bv false))] .nil (by kernel_rfl) (by kernel_rfl) ?_
              refine tr_ret (q_r (rg_r ?_))
              obtain rfl := Option.some.inj hM
              exact retg (names := []) .nil (by kernel_rfl)
            · have hM := ite_false' hM h15
              refine tr_condFe (e := decide (v14 < 0)) h15 (by kernel_rfl) ?_
              refine tr_skip (q_n ?_)
              refine tr_seq ?_
              refine tr_sr hT hm [] [2, 8, 10, 14, 20, 144, 2003, 2009, 2015, 48003, 48005, 48007, 48009, 48013, 48015, 48017, 48019, 48021, 48023, 62003, 62005, 62007, 62009, 62013, 62015, 62017, 62019, 62021, 62023] ([(2, .d (.rp 1001 0)), (8, .d (.rp 1004 0)), (10, .d (iv v4.2)), (14, .d (.rp 1007 0)), (20, .d (iv v13.1)), (144, .d (bv (v14 != v13.1))), bxB 2003 (eXFunctor.b a0), bxO 2009 24000 (eXFunctor.o v4.1), bxO 2015 31000 (eXFunctor.o v13.2)] ++ rsS 24000 (eXFunctor.o v4.1) ++ rsS 31000 (eXFunctor.o v13.2)) .nil (by kernel_rfl) (by kernel_rfl) ?_
              rcases Bool.eq_false_or_eq_true (v14 != v13.1) with h16 | h16
              · have hM := ite_true' hM h16
                refine tr_condTe (e := v14 != v13.1) h16 (by kernel_rfl) ?_
                refine tr_sr hT hm [] [4] [(4, .d (bv false))] .nil (by kernel_rfl) (by kernel_rfl) ?_
                refine tr_ret (q_r (rg_r ?_))
                obtain rfl := Option.some.inj hM
                exact retg (names := []) .nil (by kernel_rfl)
              · have hM := ite_false' hM h16
                refine tr_condFe (e := v14 != v13.1) h16 (by kernel_rfl) ?_
                refine tr_skip (q_n ?_)
                refine tr_sr hT hm [(1, .call [] [] [.agg (eXFunctor.b a0)] [] (.agg (eXFunctor.o v3))), (2, .call (rsR 77000 (eXFunctor.o v3)) [] [.agg (eXFunctor.b v3)] [] (.tup [.agg (eXFunctor.o v5.1), iv v5.2]))] [8, 10, 14, 20, 24, 26, 2009, 2015, 2025, 48003, 48005, 48007, 48009, 48013, 48015, 48017, 48019, 48021, 48023, 62003, 62005, 62007, 62009, 62013, 62015, 62017, 62019, 62021, 62023, 156003, 156005, 156007, 156009, 156013, 156015, 156017, 156019, 156021, 156023] ([(8, .d (.rp 1004 0)), (10, .d (iv v4.2)), (14, .d (.rp 1007 0)), (20, .d (iv v13.1)), (24, .d (.rp 1012 0)), (26, .d (iv v5.2)), bxO 2009 24000 (eXFunctor.o v4.1), bxO 2015 31000 (eXFunctor.o v13.2), bxO 2025 78000 (eXFunctor.o v5.1)] ++ rsS 24000 (eXFunctor.o v4.1) ++ rsS 31000 (eXFunctor.o v13.2) ++ rsS 78000 (eXFunctor.o v5.1)) (cc0 ok9 (laws_toFunctor_c a0 _ hv3) (by kernel_rfl) (cc (B := (rsR 77000 (eXFunctor.o v3))) (ρ := []) (rB := (rsP 77000 (eXFunctor.o v3))) ok10 (impl_CompletionOfFunctor_c v3 _ hv5) (.cons (bor_rs eXFunctor_r (q := 77000) (x := v3) (by kernel_rfl) (by kernel_rfl)) .nil) (.inr ⟨(nobor_tup (.cons (.agg (eXFunctor_nb _)) (.cons .v .nil))), trivial⟩) (.cons (Nat.le_of_ble_eq_true (n := 12) (m := 12) rfl) .nil))) (by kernel_rfl) (by kernel_rfl) ?_
                refine tr_seq ?_
                refine tr_sr hT hm [(2, .call (rsR 78000 (eXFunctor.o v5.1) ++ rsR 24000 (eXFunctor.o v4.1)) [] [.agg (eXFunctor.b v5.1), .agg (eXFunctor.b v4.1)] [] (bv v6)), (4, .val (bv false))] [14, 20, 174, 2015, 62003, 62005, 62007, 62009, 62013, 62015, 62017, 62019, 62021, 62023] ([(14, .d (.rp 1007 0)), (20, .d (iv v13.1)), (174, .d (bv (v5.2 != v4.2))), bxO 2015 31000 (eXFunctor.o v13.2)] ++ rsS 31000 (eXFunctor.o v13.2)) (cc (B := (rsR 78000 (eXFunctor.o v5.1) ++ rsR 24000 (eXFunctor.o v4.1))) (ρ := []) (rB := (rsP 78000 (eXFunctor.o v5.1) ++ rsP 24000 (eXFunctor.o v4.1))) ok11 (laws_eqFunctor_c v5.1 v4.1 _ hv6) (.cons (bor_rs eXFunctor_r (q := 78000) (x := v5.1) (by kernel_rfl) (by kernel_rfl)) (.cons (bor_rs eXFunctor_r (q := 24000) (x := v4.1) (by kernel_rfl) (by kernel_rfl)) .nil)) (.inr ⟨.v, trivial⟩) (.cons (congrArg (fun b => bv b) (congrArg not h7)) .nil)) (by kernel_rfl) (by kernel_rfl) ?_
                refine tr_condFe (e := v5.2 != v4.2) h8 (by kernel_rfl) ?_
                refine tr_skip (q_n ?_)
                refine tr_sr hT hm [] [14, 20, 22, 2015, 62003, 62005, 62007, 62009, 62013, 62015, 62017, 62019, 62021, 62023] ([(14, .d (.rp 1007 0)), (20, .d (iv v13.1)), (22, .d (iv 1)), bxO 2015 31000 (eXFunctor.o v13.2)] ++ rsS 31000 (eXFunctor.o v13.2)) .nil (by kernel_rfl) (by kernel_rfl) ?_
                refine tr_sr hT hm [(2, .call (rsR 31000 (eXFunctor.o v13.2)) [] [.agg (eXFunctor.b v13.2), iv 1] [] (iv v14))] [20, 22] [(20, .d (iv v13.1)), (22, .d (iv v14))] (cc (B := (rsR 31000 (eXFunctor.o v13.2))) (ρ := []) (rB := (rsP 31000 (eXFunctor.o v13.2))) ok13 (laws_heldFunctor_c v13.2 1 _ hv14) (.cons (bor_rs eXFunctor_r (q := 31000) (x := v13.2) (by kernel_rfl) (by kernel_rfl)) (.cons (.same rfl) .nil)) (.inr ⟨.v, trivial⟩) .nil) (by kernel_rfl) (by kernel_rfl) ?_
                refine tr_seq ?_
                refine tr_sr hT hm [] [20, 22, 184] [(20, .d (iv v13.1)), (22, .d (iv v14)), (184, .d (bv (decide (v14 < 0))))] .nil (by kernel_rfl) (by kernel_rfl) ?_
                refine tr_condFe (e := decide (v14 < 0)) h15 (by kernel_rfl) ?_
                refine tr_skip (q_n ?_)
                refine tr_seq ?_
                refine tr_sr hT hm [] [190] [(190, .d (bv (v14 != v13.1)))] .nil (by kernel_rfl) (by kernel_rfl) ?_
                refine tr_condFe (e := v14 != v13.1) h16 (by kernel_rfl) ?_
                refine tr_skip (q_n ?_)
                refine tr_sr hT hm [] [4] [(4, .d (bv true))] .nil (by kernel_rfl) (by kernel_rfl) ?_
                refine tr_ret (rg_r ?_)
                obtain rfl := Option.some.inj hM
                exact retg (names := []) .nil (by kernel_rfl)
        · have hM := ite_false' hM h10
          refine tr_condTe (e := !v9) (congrArg not h10) (by kernel_rfl) ?_
          refine tr_sr hT hm [] [4] [(4, .d (bv false))] .nil (by kernel_rfl) (by kernel_rfl) ?_
          refine tr_ret (q_r (rg_r ?_))
          obtain rfl := Option.some.inj hM
          exact retg (names := []) .nil (by kernel_rfl)
    · have hM := ite_false' hM h7
      refine tr_sr hT hm [(2, .call (rsR 31000 (eXFunctor.o v5.1) ++ rsR 24000 (eXFunctor.o v4.1)) [] [.agg (eXFunctor.b v5.1), .agg (eXFunctor.b v4.1)] [] (bv v6)), (4, .val (bv true))] [2, 8, 10, 12, 14, 16, 80, 2003, 2009, 2013, 2015, 48003, 48005, 48007, 48009, 48013, 48015, 48017, 48019, 48021, 48023, 56003, 56005, 56007, 56009, 56013, 56015, 56017, 56019, 56021, 56023, 62003, 62005, 62007, 62009, 62013, 62015, 62017, 62019, 62021, 62023] ([(2, .d (.rp 1001 0)), (8, .d (.rp 1004 0)), (10, .d (iv v4.2)), (12, .d (.rp 1006 0)), (14, .d (.rp 1007 0)), (16, .d (iv v5.2)), (80, .d (bv true)), bxB 2003 (eXFunctor.b a0), bxO 2009 24000 (eXFunctor.o v4.1), bxO 2013 28000 (eXFunctor.o v3), bxO 2015 31000 (eXFunctor.o v5.1)] ++ rsS 24000 (eXFunctor.o v4.1) ++ rsS 28000 (eXFunctor.o v3) ++ rsS 31000 (eXFunctor.o v5.1)) (cc (B := (rsR 31000 (eXFunctor.o v5.1) ++ rsR 24000 (eXFunctor.o v4.1))) (ρ := []) (rB := (rsP 31000 (eXFunctor.o v5.1) ++ rsP 24000 (eXFunctor.o v4.1))) ok11 (laws_eqFunctor_c v5.1 v4.1 _ hv6) (.cons (bor_rs eXFunctor_r (q := 31000) (x := v5.1) (by kernel_rfl) (by kernel_rfl)) (.cons (bor_rs eXFunctor_r (q := 24000) (x := v4.1) (by kernel_rfl) (by kernel_rfl)) .nil)) (.inr ⟨.v, trivial⟩) (.cons (congrArg (fun b => bv b) (congrArg not h7)) .nil)) (by kernel_rfl) (by kernel_rfl) ?_
      refine tr_condT (by kernel_rfl) ?_
      refine tr_sr hT hm [] [4] [(4, .d (bv false))] .nil (by kernel_rfl) (by kernel_rfl) ?_
      refine tr_ret (q_r (rg_r ?_))
      obtain rfl := Option.some.inj hM
      exact retg (names := []) .nil (by kernel_rfl)

end Go.Proofs.Ytknmijgiefkijaa.WzM
