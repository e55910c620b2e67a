/- Walks. Printed by wip/gen. -/
import Derived.Test.YtiikkfdehbcfaaaGxz23W0
namespace Go.Proofs.Ytiikkfdehbcfaaa.Wz23
open Go.Gx Go.Proofs.Ytiikkfdehbcfaaa.WvB Go.Proofs.Ytiikkfdehbcfaaa.WyT Go.Proofs.Ytiikkfdehbcfaaa.WyP Go.Proofs.Ytiikkfdehbcfaaa.WyO Go.Proofs.Ytiikkfdehbcfaaa.WyN Go.Proofs.Ytiikkfdehbcfaaa.WzN

theorem laws_FnExactCoconeMaps_c (a0 : XFunctor) (a1 : XCone) (a2 : XCone) (r : Bool) (hM : M.laws_FnExactCoconeMaps a0 a1 a2 = some r) :
    FnC Try.prog 9 [] [.agg (eXFunctor.b a0), .agg (eXCone.b a1), .agg (eXCone.b a2)] [] (bv r) := by
  refine fnc_startG (N := 142) (np := 500) hT Try.func9 rfl rfl (by kernel_rfl) ?_
  unfold M.laws_FnExactCoconeMaps at hM
  refine tr_start (ks := [0, 2, 4]) (st' := [(0, .d (.agg (eXFunctor.b a0))), (2, .d (.agg (eXCone.b a1))), (4, .d (.agg (eXCone.b a2)))]) (by kernel_rfl) ?_
  refine tr_sr hT hm [] [6, 8, 10, 2007, 2009, 2011] [(6, .d (.rp 1003 0)), (8, .d (.rp 1004 0)), (10, .d (.rp 1005 0)), bxB 2007 (eXFunctor.b a0), bxB 2009 (eXCone.b a1), bxB 2011 (eXCone.b a2)] .nil (by kernel_rfl) (by kernel_rfl) ?_
  refine tr_sr hT hm [] [6, 8, 10, 14, 2007, 2009, 2011] [(6, .d (.rp 1003 0)), (8, .d (.rp 1004 0)), (10, .d (.rp 1005 0)), (14, .d (iv 1048576)), bxB 2007 (eXFunctor.b a0), bxB 2009 (eXCone.b a1), bxB 2011 (eXCone.b a2)] .nil (by kernel_rfl) (by kernel_rfl) ?_
  obtain ⟨v1, hv1, hM⟩ := bind_some' hM
  refine tr_sr hT hm [(2, .call [] [] [.agg (eXFunctor.b a0), iv 1048576] [] (iv v1))] [6, 8, 10, 14, 2007, 2009, 2011] [(6, .d (.rp 1003 0)), (8, .d (.rp 1004 0)), (10, .d (.rp 1005 0)), (14, .d (iv v1)), bxB 2007 (eXFunctor.b a0), bxB 2009 (eXCone.b a1), bxB 2011 (eXCone.b a2)] (cc0 ok15 (laws_szFunctor_c a0 1048576 _ hv1) (by kernel_rfl) .nil) (by kernel_rfl) (by kernel_rfl) ?_
  refine tr_seq ?_
  refine tr_sr hT hm [] [6, 8, 10, 14, 48, 2007, 2009, 2011] [(6, .d (.rp 1003 0)), (8, .d (.rp 1004 0)), (10, .d (.rp 1005 0)), (14, .d (iv v1)), (48, .d (bv (decide (v1 < 0)))), bxB 2007 (eXFunctor.b a0), bxB 2009 (eXCone.b a1), bxB 2011 (eXCone.b a2)] .nil (by kernel_rfl) (by kernel_rfl) ?_
  rcases Bool.eq_false_or_eq_true (decide (v1 < 0)) with h2 | h2
  · have hM := ite_true' hM h2
    refine tr_condTe (e := decide (v1 < 0)) h2 (by kernel_rfl) ?_
    refine tr_sr hT hm [] [12] [(12, .d (bv true))] .nil (by kernel_rfl) (by kernel_rfl) ?_
    refine tr_ret (q_r (rg_r ?_))
    obtain rfl := Option.some.inj hM
    exact retg (names := []) .nil (by kernel_rfl)
  · have hM := ite_false' hM h2
    refine tr_condFe (e := decide (v1 < 0)) h2 (by kernel_rfl) ?_
    refine tr_skip (q_n ?_)
    obtain ⟨v3, hv3, hM⟩ := bind_some' hM
    refine tr_sr hT hm [(2, .call [] [] [.agg (eXCone.b a1), iv v1] [] (iv v3))] [6, 8, 10, 14, 2007, 2009, 2011] [(6, .d (.rp 1003 0)), (8, .d (.rp 1004 0)), (10, .d (.rp 1005 0)), (14, .d (iv v3)), bxB 2007 (eXFunctor.b a0), bxB 2009 (eXCone.b a1), bxB 2011 (eXCone.b a2)] (cc0 ok16 (laws_szCone_c a1 v1 _ hv3) (by kernel_rfl) .nil) (by kernel_rfl) (by kernel_rfl) ?_
    refine tr_seq ?_
    refine tr_sr hT hm [] [6, 8, 10, 14, 58, 2007, 2009, 2011] [(6, .d (.rp 1003 0)), (8, .d (.rp 1004 0)), (10, .d (.rp 1005 0)), (14, .d (iv v3)), (58, .d (bv (decide (v3 < 0)))), bxB 2007 (eXFunctor.b a0), bxB 2009 (eXCone.b a1), bxB 2011 (eXCone.b a2)] .nil (by kernel_rfl) (by kernel_rfl) ?_
    rcases Bool.eq_false_or_eq_true (decide (v3 < 0)) with h4 | h4
    · have hM := ite_true' hM h4
      refine tr_condTe (e := decide (v3 < 0)) h4 (by kernel_rfl) ?_
      refine tr_sr hT hm [] [12] [(12, .d (bv true))] .nil (by kernel_rfl) (by kernel_rfl) ?_
      refine tr_ret (q_r (rg_r ?_))
      obtain rfl := Option.some.inj hM
      exact retg (names := []) .nil (by kernel_rfl)
    · have hM := ite_false' hM h4
      refine tr_condFe (e := decide (v3 < 0)) h4 (by kernel_rfl) ?_
      refine tr_skip (q_n ?_)
      obtain ⟨v5, hv5, hM⟩ := bind_some' hM
      refine tr_sr hT hm [(2, .call [] [] [.agg (eXCone.b a2), iv v3] [] (iv v5))] [6, 8, 10, 14, 2007, 2009, 2011] [(6, .d (.rp 1003 0)), (8, .d (.rp 1004 0)), (10, .d (.rp 1005 0)), (14, .d (iv v5)), bxB 2007 (eXFunctor.b a0), bxB 2009 (eXCone.b a1), bxB 2011 (eXCone.b a2)] (cc0 ok16 (laws_szCone_c a2 v3 _ hv5) (by kernel_rfl) .nil) (by kernel_rfl) (by kernel_rfl) ?_
      refine tr_seq ?_
      refine tr_sr hT hm [] [6, 8, 10, 68, 2007, 2009, 2011] [(6, .d (.rp 1003 0)), (8, .d (.rp 1004 0)), (10, .d (.rp 1005 0)), (68, .d (bv (decide (v5 < 0)))), bxB 2007 (eXFunctor.b a0), bxB 2009 (eXCone.b a1), bxB 2011 (eXCone.b a2)] .nil (by kernel_rfl) (by kernel_rfl) ?_
      rcases Bool.eq_false_or_eq_true (decide (v5 < 0)) with h6 | h6
      · have hM := ite_true' hM h6
        refine tr_condTe (e := decide (v5 < 0)) h6 (by kernel_rfl) ?_
        refine tr_sr hT hm [] [12] [(12, .d (bv true))] .nil (by kernel_rfl) (by kernel_rfl) ?_
        refine tr_ret (q_r (rg_r ?_))
        obtain rfl := Option.some.inj hM
        exact retg (names := []) .nil (by kernel_rfl)
      · have hM := ite_false' hM h6
        refine tr_condFe (e := decide (v5 < 0)) h6 (by kernel_rfl) ?_
        refine tr_skip (q_n ?_)
        obtain ⟨v7, hv7, hM⟩ := bind_some' hM
        obtain ⟨v8, hv8, hM⟩ := bind_some' hM
        obtain ⟨v9, hv9, hM⟩ := bind_some' hM
        obtain ⟨v10, hv10, hM⟩ := bind_some' hM
        refine tr_sr hT hm [(1, .call [] [] [.agg (eXFunctor.b a0)] [] (.agg (eXFunctor.o v7))), (3, .call [] [] [.agg (eXCone.b a1)] [] (.agg (eXCone.o v8))), (5, .call [] [] [.agg (eXCone.b a2)] [] (.agg (eXCone.o v9))), (6, .call (rsR 39000 (eXFunctor.o v7) ++ [41001, 43001]) [] [.agg (eXFunctor.b v7), .agg (eXCone.b v8), .agg (eXCone.b v9)] [] (.tup [.fr 1 v10.1.length (v10.1.flatMap eI.o), iv v10.2]))] [6, 8, 10, 16, 18, 2007, 2009, 2011, 88001] [(6, .d (.rp 1003 0)), (8, .d (.rp 1004 0)), (10, .d (.rp 1005 0)), (16, .d (.rs 44000 0 v10.1.length)), (18, .d (iv v10.2)), bxB 2007 (eXFunctor.b a0), bxB 2009 (eXCone.b a1), bxB 2011 (eXCone.b a2), (88001, .r (.arr 1 (v10.1.flatMap eI.o) []))] (cc0 ok18 (laws_toFunctor_c a0 _ hv7) (by kernel_rfl) (cc0 ok19 (laws_toCone_c a1 _ hv8) (by kernel_rfl) (cc0 ok19 (laws_toCone_c a2 _ hv9) (by kernel_rfl) (cc (B := (rsR 39000 (eXFunctor.o v7) ++ [41001, 43001])) (ρ := []) (rB := (rsP 39000 (eXFunctor.o v7) ++ [(41001, .arr 1 (v8.Legs.flatMap eI.o) []), (43001, .arr 1 (v9.Legs.flatMap eI.o) [])])) ok56 (spec_CoconeMaps_c v7 v8 v9 _ hv10) (.cons (bor_rs eXFunctor_r (q := 39000) (x := v7) (by kernel_rfl) (by kernel_rfl)) (.cons (bor_rs eXCone_r (q := 41000) (x := v8) (by kernel_rfl) (by kernel_rfl)) (.cons (bor_rs eXCone_r (q := 43000) (x := v9) (by kernel_rfl) (by kernel_rfl)) .nil))) (.inr ⟨(nobor_tup (.cons (.fr (nb_flat eI_nb _)) (.cons .v .nil))), trivial⟩) .nil)))) (by kernel_rfl) (by kernel_rfl) ?_
        refine tr_sr hT hm [(1, .call [] [] [.agg (eXFunctor.b a0)] [] (.agg (eXFunctor.o v7)))] [6, 8, 10, 16, 18, 20, 2007, 2009, 2011, 2021, 88001, 96003, 96005, 96007, 96009, 96013, 96015, 96017, 96019, 96021, 96023] ([(6, .d (.rp 1003 0)), (8, .d (.rp 1004 0)), (10, .d (.rp 1005 0)), (16, .d (.rs 44000 0 v10.1.length)), (18, .d (iv v10.2)), (20, .d (.rp 1010 0)), bxB 2007 (eXFunctor.b a0), bxB 2009 (eXCone.b a1), bxB 2011 (eXCone.b a2), bxO 2021 48000 (eXFunctor.o v7), (88001, .r (.arr 1 (v10.1.flatMap eI.o) []))] ++ rsS 48000 (eXFunctor.o v7)) (cc0 ok18 (laws_toFunctor_c a0 _ hv7) (by kernel_rfl) (.cons (Nat.le_of_ble_eq_true (n := 12) (m := 12) rfl) .nil)) (by kernel_rfl) (by kernel_rfl) ?_
        refine tr_sr hT hm [(1, .call [] [] [.agg (eXCone.b a1)] [] (.agg (eXCone.o v8)))] [6, 8, 10, 16, 18, 20, 22, 2007, 2009, 2011, 2021, 2023, 88001, 96003, 96005, 96007, 96009, 96013, 96015, 96017, 96019, 96021, 96023, 100003] ([(6, .d (.rp 1003 0)), (8, .d (.rp 1004 0)), (10, .d (.rp 1005 0)), (16, .d (.rs 44000 0 v10.1.length)), (18, .d (iv v10.2)), (20, .d (.rp 1010 0)), (22, .d (.rp 1011 0)), bxB 2007 (eXFunctor.b a0), bxB 2009 (eXCone.b a1), bxB 2011 (eXCone.b a2), bxO 2021 48000 (eXFunctor.o v7), bxO 2023 50000 (eXCone.o v8), (88001, .r (.arr 1 (v10.1.flatMap eI.o) []))] ++ rsS 48000 (eXFunctor.o v7) ++ [(100003, .r (.arr 1 (v8.Legs.flatMap eI.o) []))]) (cc0 ok19 (laws_toCone_c a1 _ hv8) (by kernel_rfl) (.cons (Nat.le_of_ble_eq_true (n := 2) (m := 2) rfl) .nil)) (by kernel_rfl) (by kernel_rfl) ?_
        refine tr_sr hT hm [(1, .call [] [] [.agg (eXCone.b a2)] [] (.agg (eXCone.o v9)))] [6, 8, 10, 16, 18, 20, 22, 24, 2007, 2009, 2011, 2021, 2023, 2025, 88001, 96003, 96005, 96007, 96009, 96013, 96015, 96017, 96019, 96021, 96023, 100003, 104003] ([(6, .d (.rp 1003 0)), (8, .d (.rp 1004 0)), (10, .d (.rp 1005 0)), (16, .d (.rs 44000 0 v10.1.length)), (18, .d (iv v10.2)), (20, .d (.rp 1010 0)), (22, .d (.rp 1011 0)), (24, .d (.rp 1012 0)), bxB 2007 (eXFunctor.b a0), bxB 2009 (eXCone.b a1), bxB 2011 (eXCone.b a2), bxO 2021 48000 (eXFunctor.o v7), bxO 2023 50000 (eXCone.o v8), bxO 2025 52000 (eXCone.o v9), (88001, .r (.arr 1 (v10.1.flatMap eI.o) []))] ++ rsS 48000 (eXFunctor.o v7) ++ [(100003, .r (.arr 1 (v8.Legs.flatMap eI.o) [])), (104003, .r (.arr 1 (v9.Legs.flatMap eI.o) []))]) (cc0 ok19 (laws_toCone_c a2 _ hv9) (by kernel_rfl) (.cons (Nat.le_of_ble_eq_true (n := 2) (m := 2) rfl) .nil)) (by kernel_rfl) (by kernel_rfl) ?_
        obtain ⟨v11, hv11, hM⟩ := bind_some' hM
        refine tr_sr hT hm [(3, .call (rsR 48000 (eXFunctor.o v7) ++ [50001, 52001]) [] [.agg (eXFunctor.b v7), .agg (eXCone.b v8), .agg (eXCone.b v9)] [] (.tup [.fr 1 v11.1.length (v11.1.flatMap eI.o), iv v11.2]))] [6, 8, 10, 16, 18, 20, 22, 24, 26, 28, 2007, 2009, 2011, 2021, 2023, 2025, 88001, 96003, 96005, 96007, 96009, 96013, 96015, 96017, 96019, 96021, 96023, 100003, 104003, 114001] ([(6, .d (.rp 1003 0)), (8, .d (.rp 1004 0)), (10, .d (.rp 1005 0)), (16, .d (.rs 44000 0 v10.1.length)), (18, .d (iv v10.2)), (20, .d (.rp 1010 0)), (22, .d (.rp 1011 0)), (24, .d (.rp 1012 0)), (26, .d (.rs 57000 0 v11.1.length)), (28, .d (iv v11.2)), bxB 2007 (eXFunctor.b a0), bxB 2009 (eXCone.b a1), bxB 2011 (eXCone.b a2), bxO 2021 48000 (eXFunctor.o v7), bxO 2023 50000 (eXCone.o v8), bxO 2025 52000 (eXCone.o v9), (88001, .r (.arr 1 (v10.1.flatMap eI.o) []))] ++ rsS 48000 (eXFunctor.o v7) ++ [(100003, .r (.arr 1 (v8.Legs.flatMap eI.o) [])), (104003, .r (.arr 1 (v9.Legs.flatMap eI.o) [])), (114001, .r (.arr 1 (v11.1.flatMap eI.o) []))]) (cc (B := (rsR 48000 (eXFunctor.o v7) ++ [50001, 52001])) (ρ := []) (rB := (rsP 48000 (eXFunctor.o v7) ++ [(50001, .arr 1 (v8.Legs.flatMap eI.o) []), (52001, .arr 1 (v9.Legs.flatMap eI.o) [])])) ok57 (impl_CoconeMaps_c v7 v8 v9 _ hv11) (.cons (bor_rs eXFunctor_r (q := 48000) (x := v7) (by kernel_rfl) (by kernel_rfl)) (.cons (bor_rs eXCone_r (q := 50000) (x := v8) (by kernel_rfl) (by kernel_rfl)) (.cons (bor_rs eXCone_r (q := 52000) (x := v9) (by kernel_rfl) (by kernel_rfl)) .nil))) (.inr ⟨(nobor_tup (.cons (.fr (nb_flat eI_nb _)) (.cons .v .nil))), trivial⟩) .nil) (by kernel_rfl) (by kernel_rfl) ?_
        refine tr_seq ?_
        obtain ⟨v12, hv12, hM⟩ := bind_some' hM
        rcases Bool.eq_false_or_eq_true v12 with h13 | h13
        · have hM := ite_true' hM h13
          refine tr_sr hT hm [(2, .call [57000, 44000] [] [.sl v11.1.length 0 (v11.1.flatMap eI.b), .sl v10.1.length 0 (v10.1.flatMap eI.b)] [] (bv v12)), (4, .val (bv false))] [6, 8, 10, 16, 18, 20, 22, 24, 26, 28, 132, 2007, 2009, 2011, 2021, 2023, 2025, 88001, 96003, 96005, 96007, 96009, 96013, 96015, 96017, 96019, 96021, 96023, 100003, 104003, 114001] ([(6, .d (.rp 1003 0)), (8, .d (.rp 1004 0)), (10, .d (.rp 1005 0)), (16, .d (.rs 44000 0 v10.1.length)), (18, .d (iv v10.2)), (20, .d (.rp 1010 0)), (22, .d (.rp 1011 0)), (24, .d (.rp 1012 0)), (26, .d (.rs 57000 0 v11.1.length)), (28, .d (iv v11.2)), (132, .d (bv (v11.2 != v10.2))), bxB 2007 (eXFunctor.b a0), bxB 2009 (eXCone.b a1), bxB 2011 (eXCone.b a2), bxO 2021 48000 (eXFunctor.o v7), bxO 2023 50000 (eXCone.o v8), bxO 2025 52000 (eXCone.o v9), (88001, .r (.arr 1 (v10.1.flatMap eI.o) []))] ++ rsS 48000 (eXFunctor.o v7) ++ [(100003, .r (.arr 1 (v8.Legs.flatMap eI.o) [])), (104003, .r (.arr 1 (v9.Legs.flatMap eI.o) [])), (114001, .r (.arr 1 (v11.1.flatMap eI.o) []))]) (cc (B := [57000, 44000]) (ρ := []) (rB := [(57000, .arr 1 (v11.1.flatMap eI.o) []), (44000, .arr 1 (v10.1.flatMap eI.o) [])]) ok32 (laws_eqInt64S_c v11.1 v10.1 _ hv12) (.cons (.of1 (.rs (r := 57000) (sz := 1) (refs := []) (memB (by kernel_rfl)) (by kernel_rfl) (bor_flat eI_ok _ _ _))) (.cons (.of1 (.rs (r := 44000) (sz := 1) (refs := []) (memB (by kernel_rfl)) (by kernel_rfl) (bor_flat eI_ok _ _ _))) .nil)) (.inr ⟨.v, trivial⟩) (.cons (congrArg (fun b => bv b) (congrArg not h13)) .nil)) (by kernel_rfl) (by kernel_rfl) ?_
          rcases Bool.eq_false_or_eq_true (v11.2 != v10.2) with h14 | h14
          · have hM := ite_true' hM h14
            refine tr_condTe (e := v11.2 != v10.2) h14 (by kernel_rfl) ?_
            refine tr_sr hT hm [] [12] [(12, .d (bv false))] .nil (by kernel_rfl) (by kernel_rfl) ?_
            refine tr_ret (q_r (rg_r ?_))
            obtain rfl := Option.some.inj hM
            exact retg (names := []) .nil (by kernel_rfl)
          · have hM := ite_false' hM h14
            refine tr_condFe (e := v11.2 != v10.2) h14 (by kernel_rfl) ?_
            refine tr_skip (q_n ?_)
            refine tr_seq ?_
            obtain ⟨v15, hv15, hM⟩ := bind_some' hM
            refine tr_sr hT hm [(2, .call [] [] [.agg (eXFunctor.b a0)] [] (.agg (eXFunctor.o v7))), (3, .call (rsR 48000 (eXFunctor.o v7) ++ rsR 71000 (eXFunctor.o v7)) [] [.agg (eXFunctor.b v7), .agg (eXFunctor.b v7)] [] (bv v15))] [6, 8, 10, 16, 18, 20, 22, 24, 26, 28, 142, 2007, 2009, 2011, 2021, 2023, 2025, 88001, 96003, 96005, 96007, 96009, 96013, 96015, 96017, 96019, 96021, 96023, 100003, 104003, 114001] ([(6, .d (.rp 1003 0)), (8, .d (.rp 1004 0)), (10, .d (.rp 1005 0)), (16, .d (.rs 44000 0 v10.1.length)), (18, .d (iv v10.2)), (20, .d (.rp 1010 0)), (22, .d (.rp 1011 0)), (24, .d (.rp 1012 0)), (26, .d (.rs 57000 0 v11.1.length)), (28, .d (iv v11.2)), (142, .d (bv (!v15))), bxB 2007 (eXFunctor.b a0), bxB 2009 (eXCone.b a1), bxB 2011 (eXCone.b a2), bxO 2021 48000 (eXFunctor.o v7), bxO 2023 50000 (eXCone.o v8), bxO 2025 52000 (eXCone.o v9), (88001, .r (.arr 1 (v10.1.flatMap eI.o) []))] ++ rsS 48000 (eXFunctor.o v7) ++ [(100003, .r (.arr 1 (v8.Legs.flatMap eI.o) [])), (104003, .r (.arr 1 (v9.Legs.flatMap eI.o) [])), (114001, .r (.arr 1 (v11.1.flatMap eI.o) []))]) (cc0 ok18 (laws_toFunctor_c a0 _ hv7) (by kernel_rfl) (cc (B := (rsR 48000 (eXFunctor.o v7) ++ rsR 71000 (eXFunctor.o v7))) (ρ := []) (rB := (rsP 48000 (eXFunctor.o v7) ++ rsP 71000 (eXFunctor.o v7))) ok21 (laws_eqFunctor_c v7 v7 _ hv15) (.cons (bor_rs eXFunctor_r (q := 48000) (x := v7) (by kernel_rfl) (by kernel_rfl)) (.cons (bor_rs eXFunctor_r (q := 71000) (x := v7) (by kernel_rfl) (by kernel_rfl)) .nil)) (.inr ⟨.v, trivial⟩) .nil)) (by kernel_rfl) (by kernel_rfl) ?_
            rcases Bool.eq_false_or_eq_true v15 with h16 | h16
            · have hM := ite_true' hM h16
              refine tr_condFe (e := !v15) (congrArg not h16) (by kernel_rfl) ?_
              refine tr_skip (q_n ?_)
              refine tr_seq ?_
              obtain ⟨v17, hv17, hM⟩ := bind_some' hM
              refine tr_sr hT hm [(2, .call [] [] [.agg (eXCone.b a1)] [] (.agg (eXCone.o v8))), (3, .call [50001, 76001] [] [.agg (eXCone.b v8), .agg (eXCone.b v8)] [] (bv v17))] [6, 8, 10, 16, 18, 20, 22, 24, 26, 28, 152, 2007, 2009, 2011, 2021, 2023, 2025, 88001, 96003, 96005, 96007, 96009, 96013, 96015, 96017, 96019, 96021, 96023, 100003, 104003, 114001] ([(6, .d (.rp 1003 0)), (8, .d (.rp 1004 0)), (10, .d (.rp 1005 0)), (16, .d (.rs 44000 0 v10.1.length)), (18, .d (iv v10.2)), (20, .d (.rp 1010 0)), (22, .d (.rp 1011 0)), (24, .d (.rp 1012 0)), (26, .d (.rs 57000 0 v11.1.length)), (28, .d (iv v11.2)), (152, .d (bv (!v17))), bxB 2007 (eXFunctor.b a0), bxB 2009 (eXCone.b a1), bxB 2011 (eXCone.b a2), bxO 2021 48000 (eXFunctor.o v7), bxO 2023 50000 (eXCone.o v8), bxO 2025 52000 (eXCone.o v9), (88001, .r (.arr 1 (v10.1.flatMap eI.o) []))] ++ rsS 48000 (eXFunctor.o v7) ++ [(100003, .r (.arr 1 (v8.Legs.flatMap eI.o) [])), (104003, .r (.arr 1 (v9.Legs.flatMap eI.o) [])), (114001, .r (.arr 1 (v11.1.flatMap eI.o) []))]) (cc0 ok19 (laws_toCone_c a1 _ hv8) (by kernel_rfl) (cc (B := [50001, 76001]) (ρ := []) (rB := [(50001, .arr 1 (v8.Legs.flatMap eI.o) []), (76001, .arr 1 (v8.Legs.flatMap eI.o) [])]) ok22 (laws_eqCone_c v8 v8 _ hv17) (.cons (bor_rs eXCone_r (q := 50000) (x := v8) (by kernel_rfl) (by kernel_rfl)) (.cons (bor_rs eXCone_r (q := 76000) (x := v8) (by kernel_rfl) (by kernel_rfl)) .nil)) (.inr ⟨.v, trivial⟩) .nil)) (by kernel_rfl) (by kernel_rfl) ?_
              rcases Bool.eq_false_or_eq_true v17 with h18 | h18
              · have hM := ite_true' hM h18
                refine tr_condFe (e := !v17) (congrArg not h18) (by kernel_rfl) ?_
                refine tr_skip (q_n ?_)
                refine tr_seq ?_
                obtain ⟨v19, hv19, hM⟩ := bind_some' hM
                refine tr_sr hT hm [(2, .call [] [] [.agg (eXCone.b a2)] [] (.agg (eXCone.o v9))), (3, .call [52001, 81001] [] [.agg (eXCone.b v9), .agg (eXCone.b v9)] [] (bv v19))] [6, 8, 10, 16, 18, 20, 22, 24, 26, 28, 162, 2007, 2009, 2011, 2021, 2023, 2025, 88001, 96003, 96005, 96007, 96009, 96013, 96015, 96017, 96019, 96021, 96023, 100003, 104003, 114001] ([(6, .d (.rp 1003 0)), (8, .d (.rp 1004 0)), (10, .d (.rp 1005 0)), (16, .d (.rs 44000 0 v10.1.length)), (18, .d (iv v10.2)), (20, .d (.rp 1010 0)), (22, .d (.rp 1011 0)), (24, .d (.rp 1012 0)), (26, .d (.rs 57000 0 v11.1.length)), (28, .d (iv v11.2)), (162, .d (bv (!v19))), bxB 2007 (eXFunctor.b a0), bxB 2009 (eXCone.b a1), bxB 2011 (eXCone.b a2), bxO 2021 48000 (eXFunctor.o v7), bxO 2023 50000 (eXCone.o v8), bxO 2025 52000 (eXCone.o v9), (88001, .r (.arr 1 (v10.1.flatMap eI.o) []))] ++ rsS 48000 (eXFunctor.o v7) ++ [(100003, .r (.arr 1 (v8.Legs.flatMap eI.o) [])), (104003, .r (.arr 1 (v9.Legs.flatMap eI.o) [])), (114001, .r (.arr 1 (v11.1.flatMap eI.o) []))]) (cc0 ok19 (laws_toCone_c a2 _ hv9) (by kernel_rfl) (cc (B := [52001, 81001]) (ρ := []) (rB := [(52001, .arr 1 (v9.Legs.flatMap eI.o) []), (81001, .arr 1 (v9.Legs.flatMap eI.o) [])]) ok22 (laws_eqCone_c v9 v9 _ hv19) (.cons (bor_rs eXCone_r (q := 52000) (x := v9) (by kernel_rfl) (by kernel_rfl)) (.cons (bor_rs eXCone_r (q := 81000) (x := v9) (by kernel_rfl) (by kernel_rfl)) .nil)) (.inr ⟨.v, trivial⟩) .nil)) (by kernel_rfl) (by kernel_rfl) ?_
                rcases Bool.eq_false_or_eq_true v19 with h20 | h20
                · have hM := ite_true' hM h20
                  refine tr_condFe (e := !v19) (congrArg not h20) (by kernel_rfl) ?_
                  refine tr_skip (q_n ?_)
                  refine tr_sr hT hm [] [6, 8, 10, 16, 18, 20, 22, 24, 26, 28, 30, 2007, 2009, 2011, 2021, 2023, 2025, 88001, 96003, 96005, 96007, 96009, 96013, 96015, 96017, 96019, 96021, 96023, 100003, 104003, 114001] ([(6, .d (.rp 1003 0)), (8, .d (.rp 1004 0)), (10, .d (.rp 1005 0)), (16, .d (.rs 44000 0 v10.1.length)), (18, .d (iv v10.2)), (20, .d (.rp 1010 0)), (22, .d (.rp 1011 0)), (24, .d (.rp 1012 0)), (26, .d (.rs 57000 0 v11.1.length)), (28, .d (iv v11.2)), (30, .d (iv 1)), bxB 2007 (eXFunctor.b a0), bxB 2009 (eXCone.b a1), bxB 2011 (eXCone.b a2), bxO 2021 48000 (eXFunctor.o v7), bxO 2023 50000 (eXCone.o v8), bxO 2025 52000 (eXCone.o v9), (88001, .r (.arr 1 (v10.1.flatMap eI.o) []))] ++ rsS 48000 (eXFunctor.o v7) ++ [(100003, .r (.arr 1 (v8.Legs.flatMap eI.o) [])), (104003, .r (.arr 1 (v9.Legs.flatMap eI.o) [])), (114001, .r (.arr 1 (v11.1.flatMap eI.o) []))]) .nil (by kernel_rfl) (by kernel_rfl) ?_
                  obtain ⟨v21, hv21, hM⟩ := bind_some' hM
                  refine tr_sr hT hm [(2, .call [] [(101, 48001), (102, 48002), (103, 48003), (104, 48004), (106, 48006), (107, 48007), (108, 48008), (109, 48009), (110, 48010), (111, 48011)] [.agg [iv v7.Source.Objects, .rs 101 0 v7.Source.From.length, .rs 102 0 v7.Source.To.length, .rs 103 0 v7.Source.Identity.length, .rs 104 0 v7.Source.Composites.length, iv v7.Target.Objects, .rs 106 0 v7.Target.From.length, .rs 107 0 v7.Target.To.length, .rs 108 0 v7.Target.Identity.length, .rs 109 0 v7.Target.Composites.length, .rs 110 0 v7.Objects.length, .rs 111 0 v7.Arrows.length], iv 1] [(101, .arr 1 (v21.2.Source.From.flatMap eI.o) []), (102, .arr 1 (v21.2.Source.To.flatMap eI.o) []), (103, .arr 1 (v21.2.Source.Identity.flatMap eI.o) []), (104, .arr 1 (v21.2.Source.Composites.flatMap (eS eI).o) []), (106, .arr 1 (v21.2.Target.From.flatMap eI.o) []), (107, .arr 1 (v21.2.Target.To.flatMap eI.o) []), (108, .arr 1 (v21.2.Target.Identity.flatMap eI.o) []), (109, .arr 1 (v21.2.Target.Composites.flatMap (eS eI).o) []), (110, .arr 1 (v21.2.Objects.flatMap eI.o) []), (111, .arr 1 (v21.2.Arrows.flatMap eI.o) [])] (iv v21.1))] [6, 8, 10, 16, 18, 22, 24, 26, 28, 30, 2007, 2009, 2011, 2023, 2025, 88001, 100003, 104003, 114001] [(6, .d (.rp 1003 0)), (8, .d (.rp 1004 0)), (10, .d (.rp 1005 0)), (16, .d (.rs 44000 0 v10.1.length)), (18, .d (iv v10.2)), (22, .d (.rp 1011 0)), (24, .d (.rp 1012 0)), (26, .d (.rs 57000 0 v11.1.length)), (28, .d (iv v11.2)), (30, .d (iv v21.1)), bxB 2007 (eXFunctor.b a0), bxB 2009 (eXCone.b a1), bxB 2011 (eXCone.b a2), bxO 2023 50000 (eXCone.o v8), bxO 2025 52000 (eXCone.o v9), (88001, .r (.arr 1 (v10.1.flatMap eI.o) [])), (100003, .r (.arr 1 (v8.Legs.flatMap eI.o) [])), (104003, .r (.arr 1 (v9.Legs.flatMap eI.o) [])), (114001, .r (.arr 1 (v11.1.flatMap eI.o) []))] (cc (B := []) (ρ := [(101, 48001), (102, 48002), (103, 48003), (104, 48004), (106, 48006), (107, 48007), (108, 48008), (109, 48009), (110, 48010), (111, 48011)]) (rB := []) ok48 (laws_markFunctor_c v7 1 _ hv21) (.cons (.aggA (.cons (.same rfl) (.cons (.pass (.rs rfl)) (.cons (.pass (.rs rfl)) (.cons (.pass (.rs rfl)) (.cons (.pass (.rs rfl)) (.cons (.same rfl) (.cons (.pass (.rs rfl)) (.cons (.pass (.rs rfl)) (.cons (.pass (.rs rfl)) (.cons (.pass (.rs rfl)) (.cons (.pass (.rs rfl)) (.cons (.pass (.rs rfl)) .nil))))))))))))) (.cons (.same rfl) .nil)) (.inl rfl) .nil) (by kernel_rfl) (by kernel_rfl) ?_
                  obtain ⟨v22, hv22, hM⟩ := bind_some' hM
                  refine tr_sr hT hm [(2, .call [] [(101, 50001)] [.agg [iv v8.Apex, .rs 101 0 v8.Legs.length], iv v21.1] [(101, .arr 1 (v22.2.Legs.flatMap eI.o) [])] (iv v22.1))] [6, 8, 10, 16, 18, 24, 26, 28, 30, 2007, 2009, 2011, 2025, 88001, 104003, 114001] [(6, .d (.rp 1003 0)), (8, .d (.rp 1004 0)), (10, .d (.rp 1005 0)), (16, .d (.rs 44000 0 v10.1.length)), (18, .d (iv v10.2)), (24, .d (.rp 1012 0)), (26, .d (.rs 57000 0 v11.1.length)), (28, .d (iv v11.2)), (30, .d (iv v22.1)), bxB 2007 (eXFunctor.b a0), bxB 2009 (eXCone.b a1), bxB 2011 (eXCone.b a2), bxO 2025 52000 (eXCone.o v9), (88001, .r (.arr 1 (v10.1.flatMap eI.o) [])), (104003, .r (.arr 1 (v9.Legs.flatMap eI.o) [])), (114001, .r (.arr 1 (v11.1.flatMap eI.o) []))] (cc (B := []) (ρ := [(101, 50001)]) (rB := []) ok58 (laws_markCone_c v8 v21.1 _ hv22) (.cons (.aggA (.cons (.same rfl) (.cons (.pass (.rs rfl)) .nil))) (.cons (.same rfl) .nil)) (.inl rfl) .nil) (by kernel_rfl) (by kernel_rfl) ?_
                  obtain ⟨v23, hv23, hM⟩ := bind_some' hM
                  refine tr_sr hT hm [(2, .call [] [(101, 52001)] [.agg [iv v9.Apex, .rs 101 0 v9.Legs.length], iv v22.1] [(101, .arr 1 (v23.2.Legs.flatMap eI.o) [])] (iv v23.1))] [6, 8, 10, 16, 18, 26, 28, 30, 2007, 2009, 2011, 88001, 114001] [(6, .d (.rp 1003 0)), (8, .d (.rp 1004 0)), (10, .d (.rp 1005 0)), (16, .d (.rs 44000 0 v10.1.length)), (18, .d (iv v10.2)), (26, .d (.rs 57000 0 v11.1.length)), (28, .d (iv v11.2)), (30, .d (iv v23.1)), bxB 2007 (eXFunctor.b a0), bxB 2009 (eXCone.b a1), bxB 2011 (eXCone.b a2), (88001, .r (.arr 1 (v10.1.flatMap eI.o) [])), (114001, .r (.arr 1 (v11.1.flatMap eI.o) []))] (cc (B := []) (ρ := [(101, 52001)]) (rB := []) ok58 (laws_markCone_c v9 v22.1 _ hv23) (.cons (.aggA (.cons (.same rfl) (.cons (.pass (.rs rfl)) .nil))) (.cons (.same rfl) .nil)) (.inl rfl) .nil) (by kernel_rfl) (by kernel_rfl) ?_
                  refine tr_seq ?_
                  rcases Bool.eq_false_or_eq_true (decide (v23.1 < 0)) with h24 | h24
                  · have hM := ite_true' hM h24
                    refine tr_sr hT hm [(2, .val (bv true))] [6, 8, 10, 16, 18, 26, 206, 2007, 2009, 2011, 88001, 114001] [(6, .d (.rp 1003 0)), (8, .d (.rp 1004 0)), (10, .d (.rp 1005 0)), (16, .d (.rs 44000 0 v10.1.length)), (18, .d (iv v10.2)), (26, .d (.rs 57000 0 v11.1.length)), (206, .d (bv true)), bxB 2007 (eXFunctor.b a0), bxB 2009 (eXCone.b a1), bxB 2011 (eXCone.b a2), (88001, .r (.arr 1 (v10.1.flatMap eI.o) [])), (114001, .r (.arr 1 (v11.1.flatMap eI.o) []))] (.cons (congrArg (fun b => bv b) h24) .nil) (by kernel_rfl) (by kernel_rfl) ?_
                    refine tr_condT (by kernel_rfl) ?_
                    refine tr_sr hT hm [] [12] [(12, .d (bv false))] .nil (by kernel_rfl) (by kernel_rfl) ?_
                    refine tr_ret (q_r (rg_r ?_))
                    obtain rfl := Option.some.inj hM
                    exact retg (names := []) .nil (by kernel_rfl)
                  · have hM := ite_false' hM h24
                    refine tr_sr hT hm [(2, .val (bv false)), (5, .call [57000, 44000] [] [.sl v11.1.length 0 (v11.1.flatMap eI.b), .sl v10.1.length 0 (v10.1.flatMap eI.b)] [] (bv v12)), (8, .val (bv false))] [6, 8, 10, 16, 18, 26, 206, 2007, 2009, 2011, 88001, 114001] [(6, .d (.rp 1003 0)), (8, .d (.rp 1004 0)), (10, .d (.rp 1005 0)), (16, .d (.rs 44000 0 v10.1.length)), (18, .d (iv v10.2)), (26, .d (.rs 57000 0 v11.1.length)), (206, .d (bv (v11.2 != v10.2))), bxB 2007 (eXFunctor.b a0), bxB 2009 (eXCone.b a1), bxB 2011 (eXCone.b a2), (88001, .r (.arr 1 (v10.1.flatMap eI.o) [])), (114001, .r (.arr 1 (v11.1.flatMap eI.o) []))] (.cons (congrArg (fun b => bv b) h24) (cc (B := [57000, 44000]) (ρ := []) (rB := [(57000, .arr 1 (v11.1.flatMap eI.o) []), (44000, .arr 1 (v10.1.flatMap eI.o) [])]) ok32 (laws_eqInt64S_c v11.1 v10.1 _ hv12) (.cons (.of1 (.rs (r := 57000) (sz := 1) (refs := []) (memB (by kernel_rfl)) (by kernel_rfl) (bor_flat eI_ok _ _ _))) (.cons (.of1 (.rs (r := 44000) (sz := 1) (refs := []) (memB (by kernel_rfl)) (by kernel_rfl) (bor_flat eI_ok _ _ _))) .nil)) (.inr ⟨.v, trivial⟩) (.cons (congrArg (fun b => bv b) (congrArg not h13)) .nil))) (by kernel_rfl) (by kernel_rfl) ?_
                    refine tr_condFe (e := v11.2 != v10.2) h14 (by kernel_rfl) ?_
                    refine tr_skip (q_n ?_)
                    refine tr_sr hT hm [] [6, 8, 10, 16, 18, 26, 32, 2007, 2009, 2011, 88001, 114001] [(6, .d (.rp 1003 0)), (8, .d (.rp 1004 0)), (10, .d (.rp 1005 0)), (16, .d (.rs 44000 0 v10.1.length)), (18, .d (iv v10.2)), (26, .d (.rs 57000 0 v11.1.length)), (32, .d (iv 1)), bxB 2007 (eXFunctor.b a0), bxB 2009 (eXCone.b a1), bxB 2011 (eXCone.b a2), (88001, .r (.arr 1 (v10.1.flatMap eI.o) [])), (114001, .r (.arr 1 (v11.1.flatMap eI.o) []))] .nil (by kernel_rfl) (by kernel_rfl) ?_
                    obtain ⟨v25, hv25, hM⟩ := bind_some' hM
                    refine tr_sr hT hm [(2, .call [] [(0, 57000)] [.rs 0 0 v11.1.length, iv 1] [(0, .arr 1 (v25.2.flatMap eI.o) [])] (iv v25.1))] [6, 8, 10, 16, 18, 26, 32, 2007, 2009, 2011, 88001, 114001] [(6, .d (.rp 1003 0)), (8, .d (.rp 1004 0)), (10, .d (.rp 1005 0)), (16, .d (.rs 44000 0 v10.1.length)), (18, .d (iv v10.2)), (26, .d (.rs 57000 0 v11.1.length)), (32, .d (iv v25.1)), bxB 2007 (eXFunctor.b a0), bxB 2009 (eXCone.b a1), bxB 2011 (eXCone.b a2), (88001, .r (.arr 1 (v10.1.flatMap eI.o) [])), (114001, .r (.arr 1 (v25.2.flatMap eI.o) []))] (cc (B := []) (ρ := [(0, 57000)]) (rB := []) ok37 (laws_markInt64S_c v11.1 1 _ hv25) (.cons (.pass (.rs rfl)) (.cons (.same rfl) .nil)) (.inl rfl) .nil) (by kernel_rfl) (by kernel_rfl) ?_
                    refine Tr.by (imp_cvD (k := 26) (congrArg (D.rs 57000 0) ((M.len_markInt64S hv25) : v11.1.length = v25.2.length)) (by kernel_rfl)) ?_
                    refine tr_sr hT hm [] [6, 8, 10, 16, 18, 26, 32, 34, 2007, 2009, 2011, 88001, 114001] [(6, .d (.rp 1003 0)), (8, .d (.rp 1004 0)), (10, .d (.rp 1005 0)), (16, .d (.rs 44000 0 v10.1.length)), (18, .d (iv v10.2)), (26, .d (.rs 57000 0 v25.2.length)), (32, .d (iv v25.1)), (34, .d (iv 1)), bxB 2007 (eXFunctor.b a0), bxB 2009 (eXCone.b a1), bxB 2011 (eXCone.b a2), (88001, .r (.arr 1 (v10.1.flatMap eI.o) [])), (114001, .r (.arr 1 (v25.2.flatMap eI.o) []))] .nil (by kernel_rfl) (by kernel_rfl) ?_
                    obtain ⟨v26, hv26, hM⟩ := bind_some' hM
                    refine tr_sr hT hm [(2, .call [57000] [] [.sl v25.2.length 0 (v25.2.flatMap eI.b), iv 1] [] (iv v26))] [6, 8, 10, 16, 18, 26, 32, 34, 2007, 2009, 2011, 88001, 114001] [(6, .d (.rp 1003 0)), (8, .d (.rp 1004 0)), (10, .d (.rp 1005 0)), (16, .d (.rs 44000 0 v10.1.length)), (18, .d (iv v10.2)), (26, .d (.rs 57000 0 v25.2.length)), (32, .d (iv v25.1)), (34, .d (iv v26)), bxB 2007 (eXFunctor.b a0), bxB 2009 (eXCone.b a1), bxB 2011 (eXCone.b a2), (88001, .r (.arr 1 (v10.1.flatMap eI.o) [])), (114001, .r (.arr 1 (v25.2.flatMap eI.o) []))] (cc (B := [57000]) (ρ := []) (rB := [(57000, .arr 1 (v25.2.flatMap eI.o) [])]) ok40 (laws_heldInt64S_c v25.2 1 _ hv26) (.cons (.of1 (.rs (r := 57000) (sz := 1) (refs := []) (memB (by kernel_rfl)) (by kernel_rfl) (bor_flat eI_ok _ _ _))) (.cons (.same rfl) .nil)) (.inr ⟨.v, trivial⟩) .nil) (by kernel_rfl) (by kernel_rfl) ?_
                    refine tr_seq ?_
                    refine tr_sr hT hm [] [6, 8, 10, 16, 18, 26, 32, 34, 222, 2007, 2009, 2011, 88001, 114001] [(6, .d (.rp 1003 0)), (8, .d (.rp 1004 0)), (10, .d (.rp 1005 0)), (16, .d (.rs 44000 0 v10.1.length)), (18, .d (iv v10.2)), (26, .d (.rs 57000 0 v25.2.length)), (32, .d (iv v25.1)), (34, .d (iv v26)), (222, .d (bv (decide (v26 < 0)))), bxB 2007 (eXFunctor.b a0), bxB 2009 (eXCone.b a1), bxB 2011 (eXCone.b a2), (88001, .r (.arr 1 (v10.1.flatMap eI.o) [])), (114001, .r (.arr 1 (v25.2.flatMap eI.o) []))] .nil (by kernel_rfl) (by kernel_rfl) ?_
                    rcases Bool.eq_false_or_eq_true (decide (v26 < 0)) with h27 | h27
                    · have hM := ite_true' hM h27
                      refine tr_condTe (e := decide (v26 < 0)) h27 (by kernel_rfl) ?_
                      refine tr_sr hT hm [] [12] [(12, .d (bv false))] .nil (by kernel_rfl) (by kernel_rfl) ?_
                      refine tr_ret (q_r (rg_r ?_))
                      obtain rfl := Option.some.inj hM
                      exact retg (names := []) .nil (by kernel_rfl)
                    · have hM := ite_false' hM h27
                      refine tr_condFe (e := decide (v26 < 0)) h27 (by kernel_rfl) ?_
                      refine tr_skip (q_n ?_)
                      refine tr_seq ?_
                      refine tr_sr hT hm [] [6, 8, 10, 16, 18, 26, 32, 228, 2007, 2009, 2011, 88001, 114001] [(6, .d (.rp 1003 0)), (8, .d (.rp 1004 0)), (10, .d (.rp 1005 0)), (16, .d (.rs 44000 0 v10.1.length)), (18, .d (iv v10.2)), (26, .d (.rs 57000 0 v25.2.length)), (32, .d (iv v25.1)), (228, .d (bv (v26 != v25.1))), bxB 2007 (eXFunctor.b a0), bxB 2009 (eXCone.b a1), bxB 2011 (eXCone.b a2), (88001, .r (.arr 1 (v10.1.flatMap eI.o) [])), (114001, .r (.arr 1 (v25.2.flatMap eI.o) []))] .nil (by kernel_rfl) (by kernel_rfl) ?_
                      rcases Bool.eq_false_or_eq_true (v26 != v25.1) with h28 | h28
                      · have hM := ite_true' hM h28
                        refine tr_condTe (e := v26 != v25.1) h28 (by kernel_rfl) ?_
                        refine tr_sr hT hm [] [12] [(12, .d (bv false))] .nil (by kernel_rfl) (by kernel_rfl) ?_
                        refine tr_ret (q_r (rg_r ?_))
                        obtain rfl := Option.some.inj hM
                        exact retg (names := []) .nil (by kernel_rfl)
                      · have hM := ite_false' hM h28
                        refine tr_condFe (e := v26 != v25.1) h28 (by kernel_rfl) ?_
                        refine tr_skip (q_n ?_)
                        refine tr_sr hT hm [(1, .call [] [] [.agg (eXFunctor.b a0)] [] (.agg (eXFunctor.o v7))), (3, .call [] [] [.agg (eXCone.b a1)] [] (.agg (eXCone.o v8))), (5, .call [] [] [.agg (eXCone.b a2)] [] (.agg (eXCone.o v9))), (6, .call (rsR 119000 (eXFunctor.o v7) ++ [121001, 123001]) [] [.agg (eXFunctor.b v7), .agg (eXCone.b v8), .agg (eXCone.b v9)] [] (.tup [.fr 1 v11.1.length (v11.1.flatMap eI.o), iv v11.2]))] [16, 18, 26, 32, 36, 38, 88001, 114001, 248001] [(16, .d (.rs 44000 0 v10.1.length)), (18, .d (iv v10.2)), (26, .d (.rs 57000 0 v25.2.length)), (32, .d (iv v25.1)), (36, .d (.rs 124000 0 v11.1.length)), (38, .d (iv v11.2)), (88001, .r (.arr 1 (v10.1.flatMap eI.o) [])), (114001, .r (.arr 1 (v25.2.flatMap eI.o) [])), (248001, .r (.arr 1 (v11.1.flatMap eI.o) []))] (cc0 ok18 (laws_toFunctor_c a0 _ hv7) (by kernel_rfl) (cc0 ok19 (laws_toCone_c a1 _ hv8) (by kernel_rfl) (cc0 ok19 (laws_toCone_c a2 _ hv9) (by kernel_rfl) (cc (B := (rsR 119000 (eXFunctor.o v7) ++ [121001, 123001])) (ρ := []) (rB := (rsP 119000 (eXFunctor.o v7) ++ [(121001, .arr 1 (v8.Legs.flatMap eI.o) []), (123001, .arr 1 (v9.Legs.flatMap eI.o) [])])) ok57 (impl_CoconeMaps_c v7 v8 v9 _ hv11) (.cons (bor_rs eXFunctor_r (q := 119000) (x := v7) (by kernel_rfl) (by kernel_rfl)) (.cons (bor_rs eXCone_r (q := 121000) (x := v8) (by kernel_rfl) (by kernel_rfl)) (.cons (bor_rs eXCone_r (q := 123000) (x := v9) (by kernel_rfl) (by kernel_rfl)) .nil))) (.inr ⟨(nobor_tup (.cons (.fr (nb_flat eI_nb _)) (.cons .v .nil))), trivial⟩) .nil)))) (by kernel_rfl) (by kernel_rfl) ?_
                        refine tr_seq ?_
                        refine tr_sr hT hm [(2, .call [124000, 44000] [] [.sl v11.1.length 0 (v11.1.flatMap eI.b), .sl v10.1.length 0 (v10.1.flatMap eI.b)] [] (bv v12)), (4, .val (bv false))] [26, 32, 266, 114001] [(26, .d (.rs 57000 0 v25.2.length)), (32, .d (iv v25.1)), (266, .d (bv (v11.2 != v10.2))), (114001, .r (.arr 1 (v25.2.flatMap eI.o) []))] (cc (B := [124000, 44000]) (ρ := []) (rB := [(124000, .arr 1 (v11.1.flatMap eI.o) []), (44000, .arr 1 (v10.1.flatMap eI.o) [])]) ok32 (laws_eqInt64S_c v11.1 v10.1 _ hv12) (.cons (.of1 (.rs (r := 124000) (sz := 1) (refs := []) (memB (by kernel_rfl)) (by kernel_rfl) (bor_flat eI_ok _ _ _))) (.cons (.of1 (.rs (r := 44000) (sz := 1) (refs := []) (memB (by kernel_rfl)) (by kernel_rfl) (bor_flat eI_ok _ _ _))) .nil)) (.inr ⟨.v, trivial⟩) (.cons (congrArg (fun b => bv b) (congrArg not h13)) .nil)) (by kernel_rfl) (by kernel_rfl) ?_
                        refine tr_condFe (e := v11.2 != v10.2) h14 (by kernel_rfl) ?_
                        refine tr_skip (q_n ?_)
                        refine tr_sr hT hm [] [26, 32, 34, 114001] [(26, .d (.rs 57000 0 v25.2.length)), (32, .d (iv v25.1)), (34, .d (iv 1)), (114001, .r (.arr 1 (v25.2.flatMap eI.o) []))] .nil (by kernel_rfl) (by kernel_rfl) ?_
                        refine tr_sr hT hm [(2, .call [57000] [] [.sl v25.2.length 0 (v25.2.flatMap eI.b), iv 1] [] (iv v26))] [32, 34] [(32, .d (iv v25.1)), (34, .d (iv v26))] (cc (B := [57000]) (ρ := []) (rB := [(57000, .arr 1 (v25.2.flatMap eI.o) [])]) ok40 (laws_heldInt64S_c v25.2 1 _ hv26) (.cons (.of1 (.rs (r := 57000) (sz := 1) (refs := []) (memB (by kernel_rfl)) (by kernel_rfl) (bor_flat eI_ok _ _ _))) (.cons (.same rfl) .nil)) (.inr ⟨.v, trivial⟩) .nil) (by kernel_rfl) (by kernel_rfl) ?_
                        refine tr_seq ?_
                        refine tr_sr hT hm [] [32, 34, 276] [(32, .d (iv v25.1)), (34, .d (iv v26)), (276, .d (bv (decide (v26 < 0))))] .nil (by kernel_rfl) (by kernel_rfl) ?_
                        refine tr_condFe (e := decide (v26 < 0)) h27 (by kernel_rfl) ?_
                        refine tr_skip (q_n ?_)
                        refine tr_seq ?_
                        refine tr_sr hT hm [] [282] [(282, .d (bv (v26 != v25.1)))] .nil (by kernel_rfl) (by kernel_rfl) ?_
                        refine tr_condFe (e := v26 != v25.1) h28 (by kernel_rfl) ?_
                        refine tr_skip (q_n ?_)
                        refine tr_sr hT hm [] [12] [(12, .d (bv true))] .nil (by kernel_rfl) (by kernel_rfl) ?_
                        refine tr_ret (rg_r ?_)
                        obtain rfl := Option.some.inj hM
                        exact retg (names := []) .nil (by kernel_rfl)
                · have hM := ite_false' hM h20
                  refine tr_condTe (e := !v19) (congrArg not h20) (by kernel_rfl) ?_
                  refine tr_sr hT hm [] [12] [(12, .d (bv false))] .nil (by kernel_rfl) (by kernel_rfl) ?_
                  refine tr_ret (q_r (rg_r ?_))
                  obtain rfl := Option.some.inj hM
                  exact retg (names := []) .nil (by kernel_rfl)
              · have hM := ite_false' hM h18
                refine tr_condTe (e := !v17) (congrArg not h18) (by kernel_rfl) ?_
                refine tr_sr hT hm [] [12] [(12, .d (bv false))] .nil (by kernel_rfl) (by kernel_rfl) ?_
                refine tr_ret (q_r (rg_r ?_))
                obtain rfl := Option.some.inj hM
                exact retg (names := []) .nil (by kernel_rfl)
            · have hM := ite_false' hM h16
              refine tr_condTe (e := !v15) (congrArg not h16) (by kernel_rfl) ?_
              refine tr_sr hT hm [] [12] [(12, .d (bv false))] .nil (by kernel_rfl) (by kernel_rfl) ?_
              refine tr_ret (q_r (rg_r ?_))
              obtain rfl := Option.some.inj hM
              exact retg (names := []) .nil (by kernel_rfl)
        · have hM := ite_false' hM h13
          refine tr_sr hT hm [(2, .call [57000, 44000] [] [.sl v11.1.length 0 (v11.1.flatMap eI.b), .sl v10.1.length 0 (v10.1.flatMap eI.b)] [] (bv v12)), (4, .val (bv true))] [6, 8, 10, 16, 18, 20, 22, 24, 26, 28, 132, 2007, 2009, 2011, 2021, 2023, 2025, 88001, 96003, 96005, 96007, 96009, 96013, 96015, 96017, 96019, 96021, 96023, 100003, 104003, 114001] ([(6, .d (.rp 1003 0)), (8, .d (.rp 1004 0)), (10, .d (.rp 1005 0)), (16, .d (.rs 44000 0 v10.1.length)), (18, .d (iv v10.2)), (20, .d (.rp 1010 0)), (22, .d (.rp 1011 0)), (24, .d (.rp 1012 0)), (26, .d (.rs 57000 0 v11.1.length)), (28, .d (iv v11.2)), (132, .d (bv true)), bxB 2007 (eXFunctor.b a0), bxB 2009 (eXCone.b a1), bxB 2011 (eXCone.b a2), bxO 2021 48000 (eXFunctor.o v7), bxO 2023 50000 (eXCone.o v8), bxO 2025 52000 (eXCone.o v9), (88001, .r (.arr 1 (v10.1.flatMap eI.o) []))] ++ rsS 48000 (eXFunctor.o v7) ++ [(100003, .r (.arr 1 (v8.Legs.flatMap eI.o) [])), (104003, .r (.arr 1 (v9.Legs.flatMap eI.o) [])), (114001, .r (.arr 1 (v11.1.flatMap eI.o) []))]) (cc (B := [57000, 44000]) (ρ := []) (rB := [(57000, .arr 1 (v11.1.flatMap eI.o) []), (44000, .arr 1 (v10.1.flatMap eI.o) [])]) ok32 (laws_eqInt64S_c v11.1 v10.1 _ hv12) (.cons (.of1 (.rs (r := 57000) (sz := 1) (refs := []) (memB (by kernel_rfl)) (by kernel_rfl) (bor_flat eI_ok _ _ _))) (.cons (.of1 (.rs (r := 44000) (sz := 1) (refs := []) (memB (by kernel_rfl)) (by kernel_rfl) (bor_flat eI_ok _ _ _))) .nil)) (.inr ⟨.v, trivial⟩) (.cons (congrArg (fun b => bv b) (congrArg not h13)) .nil)) (by kernel_rfl) (by kernel_rfl) ?_
          refine tr_condT (by kernel_rfl) ?_
          refine tr_sr hT hm [] [12] [(12, .d (bv false))] .nil (by kernel_rfl) (by kernel_rfl) ?_
          refine tr_ret (q_r (rg_r ?_))
          obtain rfl := Option.some.inj hM
          exact retg (names := []) .nil (by kernel_rfl)

end Go.Proofs.Ytiikkfdehbcfaaa.Wz23
