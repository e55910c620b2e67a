/- Walks. Printed by wip/gen. -/
import Derived.Test.YtiikkfdehbcfaaaGxz21W
namespace Go.Proofs.Ytiikkfdehbcfaaa.Wz21
open Go.Gx Go.Proofs.Ytiikkfdehbcfaaa.WvB Go.Proofs.Ytiikkfdehbcfaaa.WyT Go.Proofs.Ytiikkfdehbcfaaa.WyN Go.Proofs.Ytiikkfdehbcfaaa.WzC Go.Proofs.Ytiikkfdehbcfaaa.WvI Go.Proofs.Ytiikkfdehbcfaaa.WzU Go.Proofs.Ytiikkfdehbcfaaa.WvH Go.Proofs.Ytiikkfdehbcfaaa.WvS Go.Proofs.Ytiikkfdehbcfaaa.WzP Go.Proofs.Ytiikkfdehbcfaaa.WvJ

theorem ok263 : CallOk Try.prog 263 := callOk_of Try.func263 (by kernel_rfl) (by kernel_rfl)
theorem spec_IsPartition_c (a0 : List Int) (r : Bool) (hM : M.spec_IsPartition a0 = some r) :
    FnC Try.prog 263 [] [.sl a0.length 0 (a0.flatMap eI.b)] [] (bv r) := by
  refine fnc_startG (N := 12) (np := 500) hT Try.func263 rfl rfl (by kernel_rfl) ?_
  unfold M.spec_IsPartition at hM
  refine tr_start (ks := [0]) (st' := [(0, .d (.sl a0.length 0 (a0.flatMap eI.b)))]) (by kernel_rfl) ?_
  refine tr_sr hT hm [] [0] [(0, .d (.sl a0.length 0 (a0.flatMap eI.b)))] .nil (by kernel_rfl) (by kernel_rfl) ?_
  rcases Bool.eq_false_or_eq_true (decide ((a0.length : Int) ≤ 256)) with h1 | h1
  · have hM := ite_true' hM h1
    obtain ⟨v2, hv2, hM⟩ := bind_some' hM
    obtain ⟨v3, hv3, hM⟩ := bind_some' hM
    refine tr_sr hT hm [(3, .val (bv true)), (6, .call [] [] [.sl a0.length 0 (a0.flatMap eI.b)] [] (.fr 1 v2.length (v2.flatMap eI.o))), (7, .call [11000] [] [.sl a0.length 0 (a0.flatMap eI.b), .sl v2.length 0 (v2.flatMap eI.b)] [] (bv v3))] [4] [(4, .d (bv v3))] (.cons (congrArg (fun b => bv b) h1) (cc0 ok272 (spec_l01Classes_c a0 _ hv2) (by kernel_rfl) (cc (B := [11000]) (ρ := []) (rB := [(11000, .arr 1 (v2.flatMap eI.o) [])]) ok179 (spec_l01Same_c a0 v2 _ hv3) (.cons (.same rfl) (.cons (.of1 (.rs (r := 11000) (sz := 1) (refs := []) (memB (by kernel_rfl)) (by kernel_rfl) (bor_flat eI_ok _ _ _))) .nil)) (.inr ⟨.v, trivial⟩) .nil))) (by kernel_rfl) (by kernel_rfl) ?_
    refine tr_ret (rg_r ?_)
    obtain rfl := Option.some.inj hM
    exact retg (names := []) .nil (by kernel_rfl)
  · have hM := ite_false' hM h1
    refine tr_sr hT hm [(3, .val (bv false))] [4] [(4, .d (bv false))] (.cons (congrArg (fun b => bv b) h1) .nil) (by kernel_rfl) (by kernel_rfl) ?_
    refine tr_ret (rg_r ?_)
    obtain rfl := Option.some.inj hM
    exact retg (names := []) .nil (by kernel_rfl)

theorem ok264 : CallOk Try.prog 264 := callOk_of Try.func264 (by kernel_rfl) (by kernel_rfl)
theorem spec_l01Pairs_c (a0 : List Int) (r : (List (List Int))) (hM : M.spec_l01Pairs a0 = some r) :
    FnC Try.prog 264 [] [.sl a0.length 0 (a0.flatMap eI.b)] [] (.fr 1 r.length (r.flatMap (eS eI).o)) := by
  refine fnc_startG (N := 24) (np := 500) hT Try.func264 rfl rfl (by kernel_rfl) ?_
  unfold M.spec_l01Pairs at hM
  refine tr_start (ks := [0]) (st' := [(0, .d (.sl a0.length 0 (a0.flatMap eI.b)))]) (by kernel_rfl) ?_
  refine tr_sr hT hm [] [0] [(0, .d (.sl a0.length 0 (a0.flatMap eI.b)))] .nil (by kernel_rfl) (by kernel_rfl) ?_
  refine tr_sr hT hm [] [0, 6, 2011] [(0, .d (.sl a0.length 0 (a0.flatMap eI.b))), (6, .d (.rs 1005 0 (([] : List (List Int)).length))), (2011, .r (.arr 1 (([] : List (List Int)).flatMap (eS eI).o) []))] .nil (by kernel_rfl) (by kernel_rfl) ?_
  refine tr_seq ?_
  refine tr_sr hT hm [] [0, 6, 8, 2011] [(0, .d (.sl a0.length 0 (a0.flatMap eI.b))), (6, .d (.rs 1005 0 (([] : List (List Int)).length))), (8, .d (iv 0)), (2011, .r (.arr 1 (([] : List (List Int)).flatMap (eS eI).o) []))] .nil (by kernel_rfl) (by kernel_rfl) ?_
  refine tr_block ?_
  refine tr_iterS (fun (s1 : (List (List Int)) × Int) => [(0, .d (.sl a0.length 0 (a0.flatMap eI.b))), (6, .d (.rs 1005 0 s1.1.length)), (8, .d (iv s1.2)), (2011, .r (.arr 1 (s1.1.flatMap (eS eI).o) []))]) (([] : List (List Int)), 0) [0, 6, 8, 2011] (by kernel_rfl) hM ?_
  intro n4 next2 ih3 s1 hM
  refine tr_seq ?_
  refine tr_sr hT hm [] [0, 6, 8, 18, 2011] [(0, .d (.sl a0.length 0 (a0.flatMap eI.b))), (6, .d (.rs 1005 0 s1.1.length)), (8, .d (iv s1.2)), (18, .d (bv (decide (s1.2 < (a0.length : Int))))), (2011, .r (.arr 1 (s1.1.flatMap (eS eI).o) []))] .nil (by kernel_rfl) (by kernel_rfl) ?_
  rcases Bool.eq_false_or_eq_true (decide (s1.2 < (a0.length : Int))) with h5 | h5
  · have hM := ite_true' hM h5
    refine tr_condTe (e := decide (s1.2 < (a0.length : Int))) h5 (by kernel_rfl) ?_
    refine tr_skip (q_n ?_)
    refine tr_seq ?_
    refine tr_block ?_
    obtain ⟨y6, hy6, hM⟩ := bind_some' hM
    have hy6' := idx_some hy6
    obtain ⟨v7, hv7, hM⟩ := bind_some' hM
    obtain ⟨h8, hM⟩ := chk_some hM
    refine tr_r hT hm [(5, .val (iv y6)), (6, .call [] [] [.sl a0.length 0 (a0.flatMap eI.b), iv y6] [] (iv v7)), (10, .app true)] [0, 6, 8, 2041, 2045] [(0, .d (.sl a0.length 0 (a0.flatMap eI.b))), (6, .d (.rs 1022 0 (s1.1.length + 1))), (8, .d (iv s1.2)), (2041, .r (.arr 1 (([v7, s1.2] : List Int).flatMap eI.o) [])), (2045, .r (.arr 1 (s1.1.flatMap (eS eI).o ++ [.rs 1020 0 (([v7, s1.2] : List Int).length)]) [1020]))] (.cons hy6'.1 (.cons hy6'.2.1 (.cons (at_b0 eI_ok hy6'.2.2 (d := iv y6) (by kernel_rfl)) (cc0 ok111 (spec_l01Index_c a0 y6 _ hv7) (by kernel_rfl) (.cons (lenO_flat (eS_ok eI_ok) s1.1) (.cons (by kernel_rfl : ([.rs 1020 0 (([v7, s1.2] : List Int).length)] : List D).length = 1 * 1) (.cons h8 .nil))))))) (by kernel_rfl) (by kernel_rfl) (b_n (q_n ?_))
    refine Tr.by (imp_demE (r := 1022) (q := 1020) (sz := 1) (n := (([v7, s1.2] : List Int).length)) (j := 0) (pre := s1.1.flatMap (eS eI).o) (l := [.rs 1020 0 (([v7, s1.2] : List Int).length)]) (refs := [1020]) (refs' := []) (menO_flat (eS_ok eI_ok) _) (lenO_flat eI_ok ([v7, s1.2] : List Int)) (by kernel_rfl) (by kernel_rfl) (by kernel_rfl) (by kernel_rfl) (by kernel_rfl)) ?_
    refine Tr.by (imp_cvE (r := 1022) (sz := 1) (refs := []) (flat_snoc (eS eI).o s1.1 [v7, s1.2]) (menO_flat (eS_ok eI_ok) _) (by kernel_rfl)) ?_
    refine Tr.by (imp_cvD (k := 6) (congrArg (D.rs 1022 0) ((len_snoc s1.1 [v7, s1.2]) : s1.1.length + 1 = (s1.1 ++ [[v7, s1.2]]).length)) (by kernel_rfl)) ?_
    refine tr_r hT hm [] [0, 6, 8, 2045] [(0, .d (.sl a0.length 0 (a0.flatMap eI.b))), (6, .d (.rs 1022 0 ((s1.1 ++ [[v7, s1.2]]).length))), (8, .d (iv (IntKind.i64.wrap (s1.2 + 1)))), (2045, .r (.arr 1 ((s1.1 ++ [[v7, s1.2]]).flatMap (eS eI).o) []))] .nil (by kernel_rfl) (by kernel_rfl) (l_n ?_)
    refine TrL.by (imp_sel (ks := [0, 6, 8, 2045]) (st' := [(0, .d (.sl a0.length 0 (a0.flatMap eI.b))), (6, .d (.rs 1022 0 ((s1.1 ++ [[v7, s1.2]]).length))), (8, .d (iv (IntKind.i64.wrap (s1.2 + 1)))), (2045, .r (.arr 1 ((s1.1 ++ [[v7, s1.2]]).flatMap (eS eI).o) []))]) (by kernel_rfl)) ?_
    refine TrL.by (imp_rename (r := 1022) (q := 1005) (by kernel_rfl) (Nat.le_of_ble_eq_true rfl)) ?_
    exact trl_start (ks := [0, 6, 8, 2011]) (by kernel_rfl) (ih3 (s1.1 ++ [[v7, s1.2]], IntKind.i64.wrap (s1.2 + 1)) hM)
  · have hM := ite_false' hM h5
    refine tr_condFe (e := decide (s1.2 < (a0.length : Int))) h5 (by kernel_rfl) ?_
    refine tr_exit (q_x (l_x (b_h (q_n ?_))))
    refine tr_sr hT hm [] [4, 2011] [(4, .d (.rs 1005 0 s1.1.length)), (2011, .r (.arr 1 (s1.1.flatMap (eS eI).o) []))] .nil (by kernel_rfl) (by kernel_rfl) ?_
    refine tr_ret (rg_r ?_)
    obtain rfl := Option.some.inj hM
    exact retg (names := []) (.cons (lenO_flat (eS_ok eI_ok) s1.1) .nil) (by kernel_rfl)

theorem ok266 : CallOk Try.prog 266 := callOk_of Try.func266 (by kernel_rfl) (by kernel_rfl)
theorem spec_l03Spread_c (a0 : XCategory) (a1 : List (List Int)) (r : (List Int)) (hM : M.spec_l03Spread a0 a1 = some r) :
    FnC Try.prog 266 [] [.agg (eXCategory.b a0), .sl a1.length 0 (a1.flatMap (eS eI).b)] [] (.fr 1 r.length (r.flatMap eI.o)) := by
  refine fnc_startG (N := 90) (np := 500) hT Try.func266 rfl rfl (by kernel_rfl) ?_
  unfold M.spec_l03Spread at hM
  refine tr_start (ks := [0, 2]) (st' := [(0, .d (.agg (eXCategory.b a0))), (2, .d (.sl a1.length 0 (a1.flatMap (eS eI).b)))]) (by kernel_rfl) ?_
  refine tr_sr hT hm [] [2, 4, 2005] [(2, .d (.sl a1.length 0 (a1.flatMap (eS eI).b))), (4, .d (.rp 1002 0)), bxB 2005 (eXCategory.b a0)] .nil (by kernel_rfl) (by kernel_rfl) ?_
  refine tr_sr hT hm [] [2, 4, 10, 2005] [(2, .d (.sl a1.length 0 (a1.flatMap (eS eI).b))), (4, .d (.rp 1002 0)), (10, .d (iv (a0.From.length : Int))), bxB 2005 (eXCategory.b a0)] .nil (by kernel_rfl) (by kernel_rfl) ?_
  obtain ⟨v1, hv1, hM⟩ := bind_some' hM
  refine tr_sr hT hm [(1, .call [] [] [.sl a1.length 0 (a1.flatMap (eS eI).b)] [] (.fr 1 v1.length (v1.flatMap (eS eI).o)))] [2, 4, 10, 12, 2005, 36001] [(2, .d (.sl a1.length 0 (a1.flatMap (eS eI).b))), (4, .d (.rp 1002 0)), (10, .d (iv (a0.From.length : Int))), (12, .d (.rs 18000 0 v1.length)), bxB 2005 (eXCategory.b a0), (36001, .r (.arr 1 (v1.flatMap (eS eI).o) []))] (cc0 ok88 (spec_l01Own2_c a1 _ hv1) (by kernel_rfl) .nil) (by kernel_rfl) (by kernel_rfl) ?_
  refine tr_seq ?_
  refine tr_sr hT hm [] [2, 4, 10, 12, 14, 2005, 36001] [(2, .d (.sl a1.length 0 (a1.flatMap (eS eI).b))), (4, .d (.rp 1002 0)), (10, .d (iv (a0.From.length : Int))), (12, .d (.rs 18000 0 v1.length)), (14, .d (iv 0)), bxB 2005 (eXCategory.b a0), (36001, .r (.arr 1 (v1.flatMap (eS eI).o) []))] .nil (by kernel_rfl) (by kernel_rfl) ?_
  refine tr_block ?_
  refine tr_iterS (fun (s2 : (List (List Int)) × Int) => [(2, .d (.sl a1.length 0 (a1.flatMap (eS eI).b))), (4, .d (.rp 1002 0)), (10, .d (iv (a0.From.length : Int))), (12, .d (.rs 18000 0 s2.1.length)), (14, .d (iv s2.2)), bxB 2005 (eXCategory.b a0), (36001, .r (.arr 1 (s2.1.flatMap (eS eI).o) []))]) (v1, 0) [2, 4, 10, 12, 14, 2005, 36001] (by kernel_rfl) hM ?_
  intro n5 next3 ih4 s2 hM
  refine tr_seq ?_
  refine tr_sr hT hm [] [2, 4, 10, 12, 14, 40, 2005, 36001] [(2, .d (.sl a1.length 0 (a1.flatMap (eS eI).b))), (4, .d (.rp 1002 0)), (10, .d (iv (a0.From.length : Int))), (12, .d (.rs 18000 0 s2.1.length)), (14, .d (iv s2.2)), (40, .d (bv (decide (s2.2 < (a1.length : Int))))), bxB 2005 (eXCategory.b a0), (36001, .r (.arr 1 (s2.1.flatMap (eS eI).o) []))] .nil (by kernel_rfl) (by kernel_rfl) ?_
  rcases Bool.eq_false_or_eq_true (decide (s2.2 < (a1.length : Int))) with h6 | h6
  · have hM := ite_true' hM h6
    refine tr_condTe (e := decide (s2.2 < (a1.length : Int))) h6 (by kernel_rfl) ?_
    refine tr_skip (q_n ?_)
    refine tr_seq ?_
    refine tr_block ?_
    obtain ⟨y7, hy7, hM⟩ := bind_some' hM
    have hy7' := idx_some hy7
    obtain ⟨y8, hy8, hM⟩ := bind_some' hM
    have hy8' := idx_some hy8
    obtain ⟨y9, hy9, hM⟩ := bind_some' hM
    have hy9' := idx_some hy9
    refine tr_sr hT hm [(3, .val (.sl y7.length 0 (y7.flatMap eI.b))), (5, .val (iv y8)), (9, .val (.sl y7.length 0 (y7.flatMap eI.b))), (11, .val (iv y9))] [2, 4, 10, 12, 14, 16, 18, 2005, 36001] [(2, .d (.sl a1.length 0 (a1.flatMap (eS eI).b))), (4, .d (.rp 1002 0)), (10, .d (iv (a0.From.length : Int))), (12, .d (.rs 18000 0 s2.1.length)), (14, .d (iv s2.2)), (16, .d (iv y8)), (18, .d (iv y9)), bxB 2005 (eXCategory.b a0), (36001, .r (.arr 1 (s2.1.flatMap (eS eI).o) []))] (.cons hy7'.1 (.cons hy7'.2.1 (.cons (at_b0 (eS_ok eI_ok) hy7'.2.2 (d := .sl y7.length 0 (y7.flatMap eI.b)) (by kernel_rfl)) (.cons hy8'.1 (.cons hy8'.2.1 (.cons (at_b0 eI_ok hy8'.2.2 (d := iv y8) (by kernel_rfl)) (.cons hy7'.1 (.cons hy7'.2.1 (.cons (at_b0 (eS_ok eI_ok) hy7'.2.2 (d := .sl y7.length 0 (y7.flatMap eI.b)) (by kernel_rfl)) (.cons hy9'.1 (.cons hy9'.2.1 (.cons (at_b0 eI_ok hy9'.2.2 (d := iv y9) (by kernel_rfl)) .nil)))))))))))) (by kernel_rfl) (by kernel_rfl) ?_
    refine tr_sr hT hm [] [2, 4, 10, 12, 14, 16, 18, 20, 2005, 36001] [(2, .d (.sl a1.length 0 (a1.flatMap (eS eI).b))), (4, .d (.rp 1002 0)), (10, .d (iv (a0.From.length : Int))), (12, .d (.rs 18000 0 s2.1.length)), (14, .d (iv s2.2)), (16, .d (iv y8)), (18, .d (iv y9)), (20, .d (iv 0)), bxB 2005 (eXCategory.b a0), (36001, .r (.arr 1 (s2.1.flatMap (eS eI).o) []))] .nil (by kernel_rfl) (by kernel_rfl) ?_
    refine tr_block ?_
    refine tr_iterS (fun (s10 : (List (List Int)) × Int) => [(2, .d (.sl a1.length 0 (a1.flatMap (eS eI).b))), (4, .d (.rp 1002 0)), (10, .d (iv (a0.From.length : Int))), (12, .d (.rs 18000 0 s10.1.length)), (14, .d (iv s2.2)), (16, .d (iv y8)), (18, .d (iv y9)), (20, .d (iv s10.2)), bxB 2005 (eXCategory.b a0), (36001, .r (.arr 1 (s10.1.flatMap (eS eI).o) []))]) (s2.1, 0) [2, 4, 10, 12, 14, 16, 18, 20, 2005, 36001] (by kernel_rfl) hM ?_
    intro n13 next11 ih12 s10 hM
    refine tr_seq ?_
    refine tr_sr hT hm [] [2, 4, 10, 12, 14, 16, 18, 20, 74, 2005, 36001] [(2, .d (.sl a1.length 0 (a1.flatMap (eS eI).b))), (4, .d (.rp 1002 0)), (10, .d (iv (a0.From.length : Int))), (12, .d (.rs 18000 0 s10.1.length)), (14, .d (iv s2.2)), (16, .d (iv y8)), (18, .d (iv y9)), (20, .d (iv s10.2)), (74, .d (bv (decide (s10.2 < (a0.From.length : Int))))), bxB 2005 (eXCategory.b a0), (36001, .r (.arr 1 (s10.1.flatMap (eS eI).o) []))] .nil (by kernel_rfl) (by kernel_rfl) ?_
    rcases Bool.eq_false_or_eq_true (decide (s10.2 < (a0.From.length : Int))) with h14 | h14
    · have hM := ite_true' hM h14
      refine tr_condTe (e := decide (s10.2 < (a0.From.length : Int))) h14 (by kernel_rfl) ?_
      refine tr_skip (q_n ?_)
      refine tr_seq ?_
      refine tr_block ?_
      refine tr_sr hT hm [] [2, 4, 10, 12, 14, 16, 18, 20, 22, 2005, 36001] [(2, .d (.sl a1.length 0 (a1.flatMap (eS eI).b))), (4, .d (.rp 1002 0)), (10, .d (iv (a0.From.length : Int))), (12, .d (.rs 18000 0 s10.1.length)), (14, .d (iv s2.2)), (16, .d (iv y8)), (18, .d (iv y9)), (20, .d (iv s10.2)), (22, .d (iv 0)), bxB 2005 (eXCategory.b a0), (36001, .r (.arr 1 (s10.1.flatMap (eS eI).o) []))] .nil (by kernel_rfl) (by kernel_rfl) ?_
      refine tr_block ?_
      refine tr_iterS (fun (s15 : (List (List Int)) × Int) => [(2, .d (.sl a1.length 0 (a1.flatMap (eS eI).b))), (4, .d (.rp 1002 0)), (10, .d (iv (a0.From.length : Int))), (12, .d (.rs 18000 0 s15.1.length)), (14, .d (iv s2.2)), (16, .d (iv y8)), (18, .d (iv y9)), (20, .d (iv s10.2)), (22, .d (iv s15.2)), bxB 2005 (eXCategory.b a0), (36001, .r (.arr 1 (s15.1.flatMap (eS eI).o) []))]) (s10.1, 0) [2, 4, 10, 12, 14, 16, 18, 20, 22, 2005, 36001] (by kernel_rfl) hM ?_
      intro n18 next16 ih17 s15 hM
      refine tr_seq ?_
      refine tr_sr hT hm [] [2, 4, 10, 12, 14, 16, 18, 20, 22, 84, 2005, 36001] [(2, .d (.sl a1.length 0 (a1.flatMap (eS eI).b))), (4, .d (.rp 1002 0)), (10, .d (iv (a0.From.length : Int))), (12, .d (.rs 18000 0 s15.1.length)), (14, .d (iv s2.2)), (16, .d (iv y8)), (18, .d (iv y9)), (20, .d (iv s10.2)), (22, .d (iv s15.2)), (84, .d (bv (decide (s15.2 < (a0.From.length : Int))))), bxB 2005 (eXCategory.b a0), (36001, .r (.arr 1 (s15.1.flatMap (eS eI).o) []))] .nil (by kernel_rfl) (by kernel_rfl) ?_
      rcases Bool.eq_false_or_eq_true (decide (s15.2 < (a0.From.length : Int))) with h19 | h19
      · have hM := ite_true' hM h19
        refine tr_condTe (e := decide (s15.2 < (a0.From.length : Int))) h19 (by kernel_rfl) ?_
        refine tr_skip (q_n ?_)
        refine tr_seq ?_
        refine tr_block ?_
        obtain ⟨y20, hy20, hM⟩ := bind_some' hM
        have hy20' := idx_some hy20
        obtain ⟨y21, hy21, hM⟩ := bind_some' hM
        have hy21' := idx_some hy21
        rcases Bool.eq_false_or_eq_true (y20 == y21) with h22 | h22
        · have hM := ite_true' hM h22
          obtain ⟨y23, hy23, hM⟩ := bind_some' hM
          have hy23' := idx_some hy23
          obtain ⟨y24, hy24, hM⟩ := bind_some' hM
          have hy24' := idx_some hy24
          refine tr_sr hT hm [(4, .val (iv y20)), (9, .val (iv y21)), (11, .val (bv true)), (16, .val (iv y23)), (21, .val (iv y24))] [2, 4, 10, 12, 14, 16, 18, 20, 22, 136, 2005, 36001] [(2, .d (.sl a1.length 0 (a1.flatMap (eS eI).b))), (4, .d (.rp 1002 0)), (10, .d (iv (a0.From.length : Int))), (12, .d (.rs 18000 0 s15.1.length)), (14, .d (iv s2.2)), (16, .d (iv y8)), (18, .d (iv y9)), (20, .d (iv s10.2)), (22, .d (iv s15.2)), (136, .d (bv (y23 == y24))), bxB 2005 (eXCategory.b a0), (36001, .r (.arr 1 (s15.1.flatMap (eS eI).o) []))] (.cons hy20'.1 (.cons hy20'.2.1 (.cons (at_b0 eI_ok hy20'.2.2 (d := iv y20) (by kernel_rfl)) (.cons hy21'.1 (.cons hy21'.2.1 (.cons (at_b0 eI_ok hy21'.2.2 (d := iv y21) (by kernel_rfl)) (.cons (congrArg (fun b => bv b) h22) (.cons hy23'.1 (.cons hy23'.2.1 (.cons (at_b0 eI_ok hy23'.2.2 (d := iv y23) (by kernel_rfl)) (.cons hy24'.1 (.cons hy24'.2.1 (.cons (at_b0 eI_ok hy24'.2.2 (d := iv y24) (by kernel_rfl)) .nil))))))))))))) (by kernel_rfl) (by kernel_rfl) ?_
          rcases Bool.eq_false_or_eq_true (y23 == y24) with h25 | h25
          · have hM := ite_true' hM h25
            refine tr_condTe (e := y23 == y24) h25 (by kernel_rfl) ?_
            obtain ⟨v26, hv26, hM⟩ := bind_some' hM
            obtain ⟨v27, hv27, hM⟩ := bind_some' hM
            obtain ⟨v28, hv28, hM⟩ := bind_some' hM
            obtain ⟨v29, hv29, hM⟩ := bind_some' hM
            obtain ⟨h30, hM⟩ := chk_some hM
            refine tr_r hT hm [(5, .call [] [] [.agg (eXCategory.b a0), iv s10.2, iv y8] [] (iv v26)), (7, .call [] [] [.agg (eXCategory.b a0), iv v26, iv s15.2] [] (iv v27)), (12, .call [] [] [.agg (eXCategory.b a0), iv s10.2, iv y9] [] (iv v28)), (14, .call [] [] [.agg (eXCategory.b a0), iv v28, iv s15.2] [] (iv v29)), (17, .app true)] [2, 4, 10, 12, 14, 16, 18, 20, 22, 2005, 2169, 2173] [(2, .d (.sl a1.length 0 (a1.flatMap (eS eI).b))), (4, .d (.rp 1002 0)), (10, .d (iv (a0.From.length : Int))), (12, .d (.rs 1086 0 (s15.1.length + 1))), (14, .d (iv s2.2)), (16, .d (iv y8)), (18, .d (iv y9)), (20, .d (iv s10.2)), (22, .d (iv s15.2)), bxB 2005 (eXCategory.b a0), (2169, .r (.arr 1 (([v27, v29] : List Int).flatMap eI.o) [])), (2173, .r (.arr 1 (s15.1.flatMap (eS eI).o ++ [.rs 1084 0 (([v27, v29] : List Int).length)]) [1084]))] (cc0 ok113 (spec_l02Then_c a0 s10.2 y8 _ hv26) (by kernel_rfl) (cc0 ok113 (spec_l02Then_c a0 v26 s15.2 _ hv27) (by kernel_rfl) (cc0 ok113 (spec_l02Then_c a0 s10.2 y9 _ hv28) (by kernel_rfl) (cc0 ok113 (spec_l02Then_c a0 v28 s15.2 _ hv29) (by kernel_rfl) (.cons (lenO_flat (eS_ok eI_ok) s15.1) (.cons (by kernel_rfl : ([.rs 1084 0 (([v27, v29] : List Int).length)] : List D).length = 1 * 1) (.cons h30 .nil))))))) (by kernel_rfl) (by kernel_rfl) (b_n (q_n ?_))
            refine Tr.by (imp_demE (r := 1086) (q := 1084) (sz := 1) (n := (([v27, v29] : List Int).length)) (j := 0) (pre := s15.1.flatMap (eS eI).o) (l := [.rs 1084 0 (([v27, v29] : List Int).length)]) (refs := [1084]) (refs' := []) (menO_flat (eS_ok eI_ok) _) (lenO_flat eI_ok ([v27, v29] : List Int)) (by kernel_rfl) (by kernel_rfl) (by kernel_rfl) (by kernel_rfl) (by kernel_rfl)) ?_
            refine Tr.by (imp_cvE (r := 1086) (sz := 1) (refs := []) (flat_snoc (eS eI).o s15.1 [v27, v29]) (menO_flat (eS_ok eI_ok) _) (by kernel_rfl)) ?_
            refine Tr.by (imp_cvD (k := 12) (congrArg (D.rs 1086 0) ((len_snoc s15.1 [v27, v29]) : s15.1.length + 1 = (s15.1 ++ [[v27, v29]]).length)) (by kernel_rfl)) ?_
            refine tr_r hT hm [] [2, 4, 10, 12, 14, 16, 18, 20, 22, 2005, 2173] [(2, .d (.sl a1.length 0 (a1.flatMap (eS eI).b))), (4, .d (.rp 1002 0)), (10, .d (iv (a0.From.length : Int))), (12, .d (.rs 1086 0 ((s15.1 ++ [[v27, v29]]).length))), (14, .d (iv s2.2)), (16, .d (iv y8)), (18, .d (iv y9)), (20, .d (iv s10.2)), (22, .d (iv (IntKind.i64.wrap (s15.2 + 1)))), bxB 2005 (eXCategory.b a0), (2173, .r (.arr 1 ((s15.1 ++ [[v27, v29]]).flatMap (eS eI).o) []))] .nil (by kernel_rfl) (by kernel_rfl) (l_n ?_)
            refine TrL.by (imp_sel (ks := [2, 4, 10, 12, 14, 16, 18, 20, 22, 2005, 2173]) (st' := [(2, .d (.sl a1.length 0 (a1.flatMap (eS eI).b))), (4, .d (.rp 1002 0)), (10, .d (iv (a0.From.length : Int))), (12, .d (.rs 1086 0 ((s15.1 ++ [[v27, v29]]).length))), (14, .d (iv s2.2)), (16, .d (iv y8)), (18, .d (iv y9)), (20, .d (iv s10.2)), (22, .d (iv (IntKind.i64.wrap (s15.2 + 1)))), bxB 2005 (eXCategory.b a0), (2173, .r (.arr 1 ((s15.1 ++ [[v27, v29]]).flatMap (eS eI).o) []))]) (by kernel_rfl)) ?_
            refine TrL.by (imp_rename (r := 1086) (q := 18000) (by kernel_rfl) (Nat.le_of_ble_eq_true rfl)) ?_
            exact trl_start (ks := [2, 4, 10, 12, 14, 16, 18, 20, 22, 2005, 36001]) (by kernel_rfl) (ih17 (s15.1 ++ [[v27, v29]], IntKind.i64.wrap (s15.2 + 1)) hM)
          · have hM := ite_false' hM h25
            refine tr_condFe (e := y23 == y24) h25 (by kernel_rfl) ?_
            refine tr_skip (b_n (q_n ?_))
            refine tr_r hT hm [] [2, 4, 10, 12, 14, 16, 18, 20, 22, 2005, 36001] [(2, .d (.sl a1.length 0 (a1.flatMap (eS eI).b))), (4, .d (.rp 1002 0)), (10, .d (iv (a0.From.length : Int))), (12, .d (.rs 18000 0 s15.1.length)), (14, .d (iv s2.2)), (16, .d (iv y8)), (18, .d (iv y9)), (20, .d (iv s10.2)), (22, .d (iv (IntKind.i64.wrap (s15.2 + 1)))), bxB 2005 (eXCategory.b a0), (36001, .r (.arr 1 (s15.1.flatMap (eS eI).o) []))] .nil (by kernel_rfl) (by kernel_rfl) (l_n ?_)
            exact trl_start (ks := [2, 4, 10, 12, 14, 16, 18, 20, 22, 2005, 36001]) (by kernel_rfl) (ih17 (s15.1, IntKind.i64.wrap (s15.2 + 1)) hM)
        · have hM := ite_false' hM h22
          refine tr_sr hT hm [(4, .val (iv y20)), (9, .val (iv y21)), (11, .val (bv false))] [2, 4, 10, 12, 14, 16, 18, 20, 22, 136, 2005, 36001] [(2, .d (.sl a1.length 0 (a1.flatMap (eS eI).b))), (4, .d (.rp 1002 0)), (10, .d (iv (a0.From.length : Int))), (12, .d (.rs 18000 0 s15.1.length)), (14, .d (iv s2.2)), (16, .d (iv y8)), (18, .d (iv y9)), (20, .d (iv s10.2)), (22, .d (iv s15.2)), (136, .d (bv false)), bxB 2005 (eXCategory.b a0), (36001, .r (.arr 1 (s15.1.flatMap (eS eI).o) []))] (.cons hy20'.1 (.cons hy20'.2.1 (.cons (at_b0 eI_ok hy20'.2.2 (d := iv y20) (by kernel_rfl)) (.cons hy21'.1 (.cons hy21'.2.1 (.cons (at_b0 eI_ok hy21'.2.2 (d := iv y21) (by kernel_rfl)) (.cons (congrArg (fun b => bv b) h22) .nil))))))) (by kernel_rfl) (by kernel_rfl) ?_
          refine tr_condF (by kernel_rfl) ?_
          refine tr_skip (b_n (q_n ?_))
          refine tr_r hT hm [] [2, 4, 10, 12, 14, 16, 18, 20, 22, 2005, 36001] [(2, .d (.sl a1.length 0 (a1.flatMap (eS eI).b))), (4, .d (.rp 1002 0)), (10, .d (iv (a0.From.length : Int))), (12, .d (.rs 18000 0 s15.1.length)), (14, .d (iv s2.2)), (16, .d (iv y8)), (18, .d (iv y9)), (20, .d (iv s10.2)), (22, .d (iv (IntKind.i64.wrap (s15.2 + 1)))), bxB 2005 (eXCategory.b a0), (36001, .r (.arr 1 (s15.1.flatMap (eS eI).o) []))] .nil (by kernel_rfl) (by kernel_rfl) (l_n ?_)
          exact trl_start (ks := [2, 4, 10, 12, 14, 16, 18, 20, 22, 2005, 36001]) (by kernel_rfl) (ih17 (s15.1, IntKind.i64.wrap (s15.2 + 1)) hM)
      · have hM := ite_false' hM h19
        refine tr_condFe (e := decide (s15.2 < (a0.From.length : Int))) h19 (by kernel_rfl) ?_
        refine tr_exit (q_x (l_x (b_h (b_n (q_n ?_)))))
        refine tr_r hT hm [] [2, 4, 10, 12, 14, 16, 18, 20, 2005, 36001] [(2, .d (.sl a1.length 0 (a1.flatMap (eS eI).b))), (4, .d (.rp 1002 0)), (10, .d (iv (a0.From.length : Int))), (12, .d (.rs 18000 0 s15.1.length)), (14, .d (iv s2.2)), (16, .d (iv y8)), (18, .d (iv y9)), (20, .d (iv (IntKind.i64.wrap (s10.2 + 1)))), bxB 2005 (eXCategory.b a0), (36001, .r (.arr 1 (s15.1.flatMap (eS eI).o) []))] .nil (by kernel_rfl) (by kernel_rfl) (l_n ?_)
        exact trl_start (ks := [2, 4, 10, 12, 14, 16, 18, 20, 2005, 36001]) (by kernel_rfl) (ih12 (s15.1, IntKind.i64.wrap (s10.2 + 1)) hM)
    · have hM := ite_false' hM h14
      refine tr_condFe (e := decide (s10.2 < (a0.From.length : Int))) h14 (by kernel_rfl) ?_
      refine tr_exit (q_x (l_x (b_h (b_n (q_n ?_)))))
      refine tr_r hT hm [] [2, 4, 10, 12, 14, 2005, 36001] [(2, .d (.sl a1.length 0 (a1.flatMap (eS eI).b))), (4, .d (.rp 1002 0)), (10, .d (iv (a0.From.length : Int))), (12, .d (.rs 18000 0 s10.1.length)), (14, .d (iv (IntKind.i64.wrap (s2.2 + 1)))), bxB 2005 (eXCategory.b a0), (36001, .r (.arr 1 (s10.1.flatMap (eS eI).o) []))] .nil (by kernel_rfl) (by kernel_rfl) (l_n ?_)
      exact trl_start (ks := [2, 4, 10, 12, 14, 2005, 36001]) (by kernel_rfl) (ih4 (s10.1, IntKind.i64.wrap (s2.2 + 1)) hM)
  · have hM := ite_false' hM h6
    refine tr_condFe (e := decide (s2.2 < (a1.length : Int))) h6 (by kernel_rfl) ?_
    refine tr_exit (q_x (l_x (b_h (q_n ?_))))
    obtain ⟨v31, hv31, hM⟩ := bind_some' hM
    refine tr_sr hT hm [(2, .call [18000] [] [iv (a0.From.length : Int), .sl s2.1.length 0 (s2.1.flatMap (eS eI).b)] [] (.fr 1 v31.length (v31.flatMap eI.o)))] [8, 182001] [(8, .d (.rs 91000 0 v31.length)), (182001, .r (.arr 1 (v31.flatMap eI.o) []))] (cc (B := [18000]) (ρ := []) (rB := [(18000, .arr 1 (s2.1.flatMap (eS eI).o) [])]) ok215 (spec_l01Join_c (a0.From.length : Int) s2.1 _ hv31) (.cons (.same rfl) (.cons (.of1 (.rs (r := 18000) (sz := 1) (refs := []) (memB (by kernel_rfl)) (by kernel_rfl) (bor_flat (eS_ok eI_ok) _ _ _))) .nil)) (.inr ⟨(.fr (nb_flat eI_nb _)), trivial⟩) .nil) (by kernel_rfl) (by kernel_rfl) ?_
    refine tr_ret (rg_r ?_)
    obtain rfl := Option.some.inj hM
    exact retg (names := []) (.cons (lenO_flat eI_ok v31) .nil) (by kernel_rfl)

theorem ok206 : CallOk Try.prog 206 := callOk_of Try.func206 (by kernel_rfl) (by kernel_rfl)
theorem spec_l03Congruence_c (a0 : XCategory) (a1 : List Int) (r : Bool) (hM : M.spec_l03Congruence a0 a1 = some r) :
    FnC Try.prog 206 [] [.agg (eXCategory.b a0), .sl a1.length 0 (a1.flatMap eI.b)] [] (bv r) := by
  refine fnc_startG (N := 46) (np := 500) hT Try.func206 rfl rfl (by kernel_rfl) ?_
  unfold M.spec_l03Congruence at hM
  refine tr_start (ks := [0, 2]) (st' := [(0, .d (.agg (eXCategory.b a0))), (2, .d (.sl a1.length 0 (a1.flatMap eI.b)))]) (by kernel_rfl) ?_
  refine tr_sr hT hm [] [2, 4, 2005] [(2, .d (.sl a1.length 0 (a1.flatMap eI.b))), (4, .d (.rp 1002 0)), bxB 2005 (eXCategory.b a0)] .nil (by kernel_rfl) (by kernel_rfl) ?_
  refine tr_seq ?_
  rcases Bool.eq_false_or_eq_true ((a1.length : Int) != (a0.From.length : Int)) with h1 | h1
  · have hM := ite_true' hM h1
    refine tr_sr hT hm [(6, .val (bv true))] [2, 4, 34, 2005] [(2, .d (.sl a1.length 0 (a1.flatMap eI.b))), (4, .d (.rp 1002 0)), (34, .d (bv true)), bxB 2005 (eXCategory.b a0)] (.cons (congrArg (fun b => bv b) h1) .nil) (by kernel_rfl) (by kernel_rfl) ?_
    refine tr_condT (by kernel_rfl) ?_
    refine tr_sr hT hm [] [8] [(8, .d (bv false))] .nil (by kernel_rfl) (by kernel_rfl) ?_
    refine tr_ret (q_r (rg_r ?_))
    obtain rfl := Option.some.inj hM
    exact retg (names := []) .nil (by kernel_rfl)
  · have hM := ite_false' hM h1
    obtain ⟨v2, hv2, hM⟩ := bind_some' hM
    refine tr_sr hT hm [(6, .val (bv false)), (8, .call [] [] [.sl a1.length 0 (a1.flatMap eI.b)] [] (bv v2))] [2, 4, 34, 2005] [(2, .d (.sl a1.length 0 (a1.flatMap eI.b))), (4, .d (.rp 1002 0)), (34, .d (bv (!v2))), bxB 2005 (eXCategory.b a0)] (.cons (congrArg (fun b => bv b) h1) (cc0 ok263 (spec_IsPartition_c a1 _ hv2) (by kernel_rfl) .nil)) (by kernel_rfl) (by kernel_rfl) ?_
    rcases Bool.eq_false_or_eq_true v2 with h3 | h3
    · have hM := ite_true' hM h3
      refine tr_condFe (e := !v2) (congrArg not h3) (by kernel_rfl) ?_
      refine tr_skip (q_n ?_)
      obtain ⟨v4, hv4, hM⟩ := bind_some' hM
      refine tr_sr hT hm [(1, .call [] [] [.sl a1.length 0 (a1.flatMap eI.b)] [] (.fr 1 v4.length (v4.flatMap (eS eI).o)))] [2, 4, 10, 2005, 42001] [(2, .d (.sl a1.length 0 (a1.flatMap eI.b))), (4, .d (.rp 1002 0)), (10, .d (.rs 21000 0 v4.length)), bxB 2005 (eXCategory.b a0), (42001, .r (.arr 1 (v4.flatMap (eS eI).o) []))] (cc0 ok264 (spec_l01Pairs_c a1 _ hv4) (by kernel_rfl) .nil) (by kernel_rfl) (by kernel_rfl) ?_
      refine tr_seq ?_
      refine tr_sr hT hm [] [2, 4, 10, 12, 2005, 42001] [(2, .d (.sl a1.length 0 (a1.flatMap eI.b))), (4, .d (.rp 1002 0)), (10, .d (.rs 21000 0 v4.length)), (12, .d (iv 0)), bxB 2005 (eXCategory.b a0), (42001, .r (.arr 1 (v4.flatMap (eS eI).o) []))] .nil (by kernel_rfl) (by kernel_rfl) ?_
      refine tr_block ?_
      refine tr_iterS (fun (s5 : Int) => [(2, .d (.sl a1.length 0 (a1.flatMap eI.b))), (4, .d (.rp 1002 0)), (10, .d (.rs 21000 0 v4.length)), (12, .d (iv s5)), bxB 2005 (eXCategory.b a0), (42001, .r (.arr 1 (v4.flatMap (eS eI).o) []))]) 0 [2, 4, 10, 12, 2005, 42001] (by kernel_rfl) hM ?_
      intro n8 next6 ih7 s5 hM
      refine tr_seq ?_
      refine tr_sr hT hm [] [2, 4, 10, 12, 46, 2005, 42001] [(2, .d (.sl a1.length 0 (a1.flatMap eI.b))), (4, .d (.rp 1002 0)), (10, .d (.rs 21000 0 v4.length)), (12, .d (iv s5)), (46, .d (bv (decide (s5 < (v4.length : Int))))), bxB 2005 (eXCategory.b a0), (42001, .r (.arr 1 (v4.flatMap (eS eI).o) []))] .nil (by kernel_rfl) (by kernel_rfl) ?_
      rcases Bool.eq_false_or_eq_true (decide (s5 < (v4.length : Int))) with h9 | h9
      · have hM := ite_true' hM h9
        refine tr_condTe (e := decide (s5 < (v4.length : Int))) h9 (by kernel_rfl) ?_
        refine tr_skip (q_n ?_)
        refine tr_seq ?_
        refine tr_block ?_
        obtain ⟨y10, hy10, hM⟩ := bind_some' hM
        have hy10' := idx_some hy10
        refine Tr.by (imp_rowOut (r := 21000) (q := 700024) (i := s5) (xs := v4) (e := eI) (eS_ok eI_ok) hy10'.2.2 (by kernel_rfl) (by kernel_rfl)) ?_
        obtain ⟨y11, hy11, hM⟩ := bind_some' hM
        have hy11' := idx_some hy11
        obtain ⟨y12, hy12, hM⟩ := bind_some' hM
        have hy12' := idx_some hy12
        obtain ⟨v13, hv13, hM⟩ := bind_some' hM
        refine tr_sr hT hm [(4, .val (.rs 700024 0 y10.length)), (6, .val (iv y11)), (10, .val (.rs 700024 0 y10.length)), (12, .val (iv y12)), (13, .call [] [] [.agg (eXCategory.b a0), iv y11, iv y12] [] (bv v13))] [2, 4, 10, 12, 80, 2005, 42001, 1400049] [(2, .d (.sl a1.length 0 (a1.flatMap eI.b))), (4, .d (.rp 1002 0)), (10, .d (.rs 21000 0 v4.length)), (12, .d (iv s5)), (80, .d (bv (!v13))), bxB 2005 (eXCategory.b a0), (42001, .r (.arr 1 ((v4.flatMap (eS eI).o).set (0 + s5.toNat * 1) (.rs 700024 0 y10.length)) [700024])), (1400049, .r (.arr 1 (y10.flatMap eI.o) []))] (.cons hy10'.1 (.cons hy10'.2.1 (.cons (set_at (d := .rs 700024 0 y10.length) (lt_flat (eS_ok eI_ok) (by kernel_rfl) hy10'.2.2)) (.cons hy11'.1 (.cons hy11'.2.1 (.cons (at_o0 eI_ok hy11'.2.2 (d := iv y11) (by kernel_rfl)) (.cons hy10'.1 (.cons hy10'.2.1 (.cons (set_at (d := .rs 700024 0 y10.length) (lt_flat (eS_ok eI_ok) (by kernel_rfl) hy10'.2.2)) (.cons hy12'.1 (.cons hy12'.2.1 (.cons (at_o0 eI_ok hy12'.2.2 (d := iv y12) (by kernel_rfl)) (cc0 ok265 (spec_l03Parallel_c a0 y11 y12 _ hv13) (by kernel_rfl) .nil))))))))))))) (by kernel_rfl) (by kernel_rfl) ?_
        refine Tr.by (imp_rowSame (r := 21000) (q := 700024) (n := y10.length) (i := s5) (xs := v4) (e := eI) (x := y10) eI_ok hy10'.2.2 rfl (by kernel_rfl) (by kernel_rfl) (by kernel_rfl)) ?_
        rcases Bool.eq_false_or_eq_true v13 with h14 | h14
        · have hM := ite_true' hM h14
          refine tr_condFe (e := !v13) (congrArg not h14) (by kernel_rfl) ?_
          refine tr_skip (b_n (q_n ?_))
          refine tr_r hT hm [] [2, 4, 10, 12, 2005, 42001] [(2, .d (.sl a1.length 0 (a1.flatMap eI.b))), (4, .d (.rp 1002 0)), (10, .d (.rs 21000 0 v4.length)), (12, .d (iv (IntKind.i64.wrap (s5 + 1)))), bxB 2005 (eXCategory.b a0), (42001, .r (.arr 1 (v4.flatMap (eS eI).o) []))] .nil (by kernel_rfl) (by kernel_rfl) (l_n ?_)
          exact trl_start (ks := [2, 4, 10, 12, 2005, 42001]) (by kernel_rfl) (ih7 (IntKind.i64.wrap (s5 + 1)) hM)
        · have hM := ite_false' hM h14
          refine tr_condTe (e := !v13) (congrArg not h14) (by kernel_rfl) ?_
          refine tr_sr hT hm [] [8] [(8, .d (bv false))] .nil (by kernel_rfl) (by kernel_rfl) ?_
          refine tr_ret (b_r (q_r (l_r (b_r (q_r (rg_r ?_))))))
          obtain rfl := Option.some.inj hM
          exact retg (names := []) .nil (by kernel_rfl)
      · have hM := ite_false' hM h9
        refine tr_condFe (e := decide (s5 < (v4.length : Int))) h9 (by kernel_rfl) ?_
        refine tr_exit (q_x (l_x (b_h (q_n ?_))))
        obtain ⟨v15, hv15, hM⟩ := bind_some' hM
        obtain ⟨v16, hv16, hM⟩ := bind_some' hM
        refine tr_sr hT hm [(3, .call [21000] [] [.agg (eXCategory.b a0), .sl v4.length 0 (v4.flatMap (eS eI).b)] [] (.fr 1 v15.length (v15.flatMap eI.o))), (4, .call [46000] [] [.sl a1.length 0 (a1.flatMap eI.b), .sl v15.length 0 (v15.flatMap eI.b)] [] (bv v16))] [8] [(8, .d (bv v16))] (cc (B := [21000]) (ρ := []) (rB := [(21000, .arr 1 (v4.flatMap (eS eI).o) [])]) ok266 (spec_l03Spread_c a0 v4 _ hv15) (.cons (.same rfl) (.cons (.of1 (.rs (r := 21000) (sz := 1) (refs := []) (memB (by kernel_rfl)) (by kernel_rfl) (bor_flat (eS_ok eI_ok) _ _ _))) .nil)) (.inr ⟨(.fr (nb_flat eI_nb _)), trivial⟩) (cc (B := [46000]) (ρ := []) (rB := [(46000, .arr 1 (v15.flatMap eI.o) [])]) ok179 (spec_l01Same_c a1 v15 _ hv16) (.cons (.same rfl) (.cons (.of1 (.rs (r := 46000) (sz := 1) (refs := []) (memB (by kernel_rfl)) (by kernel_rfl) (bor_flat eI_ok _ _ _))) .nil)) (.inr ⟨.v, trivial⟩) .nil)) (by kernel_rfl) (by kernel_rfl) ?_
        refine tr_ret (rg_r ?_)
        obtain rfl := Option.some.inj hM
        exact retg (names := []) .nil (by kernel_rfl)
    · have hM := ite_false' hM h3
      refine tr_condTe (e := !v2) (congrArg not h3) (by kernel_rfl) ?_
      refine tr_sr hT hm [] [8] [(8, .d (bv false))] .nil (by kernel_rfl) (by kernel_rfl) ?_
      refine tr_ret (q_r (rg_r ?_))
      obtain rfl := Option.some.inj hM
      exact retg (names := []) .nil (by kernel_rfl)

theorem ok207 : CallOk Try.prog 207 := callOk_of Try.func207 (by kernel_rfl) (by kernel_rfl)
theorem spec_l03Quotient_c (a0 : XCategory) (a1 : List Int) (r : XCategory) (hM : M.spec_l03Quotient a0 a1 = some r) :
    FnC Try.prog 207 [] [.agg (eXCategory.b a0), .sl a1.length 0 (a1.flatMap eI.b)] [] (.agg (eXCategory.o r)) := by
  refine fnc_startG (N := 128) (np := 500) hT Try.func207 rfl rfl (by kernel_rfl) ?_
  unfold M.spec_l03Quotient at hM
  refine tr_start (ks := [0, 2]) (st' := [(0, .d (.agg (eXCategory.b a0))), (2, .d (.sl a1.length 0 (a1.flatMap eI.b)))]) (by kernel_rfl) ?_
  refine tr_sr hT hm [] [2, 4, 8, 2005, 2009] [(2, .d (.sl a1.length 0 (a1.flatMap eI.b))), (4, .d (.rp 1002 0)), (8, .d (.rp 1004 0)), bxB 2005 (eXCategory.b a0), (2009, .r (.arr 1 [iv 0, nilv, nilv, nilv, nilv] []))] .nil (by kernel_rfl) (by kernel_rfl) ?_
  refine tr_sr hT hm [] [2, 4, 8, 10, 2005, 2009, 2027] [(2, .d (.sl a1.length 0 (a1.flatMap eI.b))), (4, .d (.rp 1002 0)), (8, .d (.rp 1004 0)), (10, .d (.rs 1013 0 (([] : List Int).length))), bxB 2005 (eXCategory.b a0), (2009, .r (.arr 1 [iv 0, nilv, nilv, nilv, nilv] [])), (2027, .r (.arr 1 (([] : List Int).flatMap eI.o) []))] .nil (by kernel_rfl) (by kernel_rfl) ?_
  refine tr_seq ?_
  refine tr_sr hT hm [] [2, 4, 8, 10, 12, 2005, 2009, 2027] [(2, .d (.sl a1.length 0 (a1.flatMap eI.b))), (4, .d (.rp 1002 0)), (8, .d (.rp 1004 0)), (10, .d (.rs 1013 0 (([] : List Int).length))), (12, .d (iv 0)), bxB 2005 (eXCategory.b a0), (2009, .r (.arr 1 [iv 0, nilv, nilv, nilv, nilv] [])), (2027, .r (.arr 1 (([] : List Int).flatMap eI.o) []))] .nil (by kernel_rfl) (by kernel_rfl) ?_
  refine tr_block ?_
  refine tr_iterS (fun (s1 : (List Int) × Int) => [(2, .d (.sl a1.length 0 (a1.flatMap eI.b))), (4, .d (.rp 1002 0)), (8, .d (.rp 1004 0)), (10, .d (.rs 1013 0 s1.1.length)), (12, .d (iv s1.2)), bxB 2005 (eXCategory.b a0), (2009, .r (.arr 1 [iv 0, nilv, nilv, nilv, nilv] [])), (2027, .r (.arr 1 (s1.1.flatMap eI.o) []))]) (([] : List Int), 0) [2, 4, 8, 10, 12, 2005, 2009, 2027] (by kernel_rfl) hM ?_
  intro n4 next2 ih3 s1 hM
  refine tr_seq ?_
  refine tr_sr hT hm [] [2, 4, 8, 10, 12, 34, 2005, 2009, 2027] [(2, .d (.sl a1.length 0 (a1.flatMap eI.b))), (4, .d (.rp 1002 0)), (8, .d (.rp 1004 0)), (10, .d (.rs 1013 0 s1.1.length)), (12, .d (iv s1.2)), (34, .d (bv (decide (s1.2 < (a1.length : Int))))), bxB 2005 (eXCategory.b a0), (2009, .r (.arr 1 [iv 0, nilv, nilv, nilv, nilv] [])), (2027, .r (.arr 1 (s1.1.flatMap eI.o) []))] .nil (by kernel_rfl) (by kernel_rfl) ?_
  rcases Bool.eq_false_or_eq_true (decide (s1.2 < (a1.length : Int))) with h5 | h5
  · have hM := ite_true' hM h5
    refine tr_condTe (e := decide (s1.2 < (a1.length : Int))) h5 (by kernel_rfl) ?_
    refine tr_skip (q_n ?_)
    refine tr_seq ?_
    refine tr_block ?_
    obtain ⟨y6, hy6, hM⟩ := bind_some' hM
    have hy6' := idx_some hy6
    obtain ⟨v7, hv7, hM⟩ := bind_some' hM
    refine tr_sr hT hm [(4, .val (iv y6)), (5, .call [] [] [.sl a1.length 0 (a1.flatMap eI.b), iv y6] [] (iv v7))] [2, 4, 8, 10, 12, 54, 2005, 2009, 2027] [(2, .d (.sl a1.length 0 (a1.flatMap eI.b))), (4, .d (.rp 1002 0)), (8, .d (.rp 1004 0)), (10, .d (.rs 1013 0 s1.1.length)), (12, .d (iv s1.2)), (54, .d (bv (v7 == s1.2))), bxB 2005 (eXCategory.b a0), (2009, .r (.arr 1 [iv 0, nilv, nilv, nilv, nilv] [])), (2027, .r (.arr 1 (s1.1.flatMap eI.o) []))] (.cons hy6'.1 (.cons hy6'.2.1 (.cons (at_b0 eI_ok hy6'.2.2 (d := iv y6) (by kernel_rfl)) (cc0 ok111 (spec_l01Index_c a1 y6 _ hv7) (by kernel_rfl) .nil)))) (by kernel_rfl) (by kernel_rfl) ?_
    rcases Bool.eq_false_or_eq_true (v7 == s1.2) with h8 | h8
    · have hM := ite_true' hM h8
      refine tr_condTe (e := v7 == s1.2) h8 (by kernel_rfl) ?_
      obtain ⟨h9, hM⟩ := chk_some hM
      refine tr_r hT hm [(3, .app true)] [2, 4, 8, 10, 12, 2005, 2009, 2063] [(2, .d (.sl a1.length 0 (a1.flatMap eI.b))), (4, .d (.rp 1002 0)), (8, .d (.rp 1004 0)), (10, .d (.rs 1031 0 (s1.1.length + (([s1.2] : List Int).length)))), (12, .d (iv s1.2)), bxB 2005 (eXCategory.b a0), (2009, .r (.arr 1 [iv 0, nilv, nilv, nilv, nilv] [])), (2063, .r (.arr 1 (s1.1.flatMap eI.o ++ ([s1.2] : List Int).flatMap eI.o) []))] (.cons (lenO_flat eI_ok s1.1) (.cons (lenO_flat eI_ok ([s1.2] : List Int)) (.cons h9 .nil))) (by kernel_rfl) (by kernel_rfl) (b_n (q_n ?_))
      refine Tr.by (imp_cvE (r := 1031) (sz := 1) (refs := []) (flat_app eI.o s1.1 ([s1.2] : List Int)) (menO_flat eI_ok _) (by kernel_rfl)) ?_
      refine Tr.by (imp_cvD (k := 10) (congrArg (D.rs 1031 0) ((len_app s1.1 ([s1.2] : List Int)) : s1.1.length + (([s1.2] : List Int).length) = (s1.1 ++ ([s1.2] : List Int)).length)) (by kernel_rfl)) ?_
      refine tr_r hT hm [] [2, 4, 8, 10, 12, 2005, 2009, 2063] [(2, .d (.sl a1.length 0 (a1.flatMap eI.b))), (4, .d (.rp 1002 0)), (8, .d (.rp 1004 0)), (10, .d (.rs 1031 0 ((s1.1 ++ ([s1.2] : List Int)).length))), (12, .d (iv (IntKind.i64.wrap (s1.2 + 1)))), bxB 2005 (eXCategory.b a0), (2009, .r (.arr 1 [iv 0, nilv, nilv, nilv, nilv] [])), (2063, .r (.arr 1 ((s1.1 ++ ([s1.2] : List Int)).flatMap eI.o) []))] .nil (by kernel_rfl) (by kernel_rfl) (l_n ?_)
      refine TrL.by (imp_sel (ks := [2, 4, 8, 10, 12, 2005, 2009, 2063]) (st' := [(2, .d (.sl a1.length 0 (a1.flatMap eI.b))), (4, .d (.rp 1002 0)), (8, .d (.rp 1004 0)), (10, .d (.rs 1031 0 ((s1.1 ++ ([s1.2] : List Int)).length))), (12, .d (iv (IntKind.i64.wrap (s1.2 + 1)))), bxB 2005 (eXCategory.b a0), (2009, .r (.arr 1 [iv 0, nilv, nilv, nilv, nilv] [])), (2063, .r (.arr 1 ((s1.1 ++ ([s1.2] : List Int)).flatMap eI.o) []))]) (by kernel_rfl)) ?_
      refine TrL.by (imp_rename (r := 1031) (q := 1013) (by kernel_rfl) (Nat.le_of_ble_eq_true rfl)) ?_
      exact trl_start (ks := [2, 4, 8, 10, 12, 2005, 2009, 2027]) (by kernel_rfl) (ih3 (s1.1 ++ ([s1.2] : List Int), IntKind.i64.wrap (s1.2 + 1)) hM)
    · have hM := ite_false' hM h8
      refine tr_condFe (e := v7 == s1.2) h8 (by kernel_rfl) ?_
      refine tr_skip (b_n (q_n ?_))
      refine tr_r hT hm [] [2, 4, 8, 10, 12, 2005, 2009, 2027] [(2, .d (.sl a1.length 0 (a1.flatMap eI.b))), (4, .d (.rp 1002 0)), (8, .d (.rp 1004 0)), (10, .d (.rs 1013 0 s1.1.length)), (12, .d (iv (IntKind.i64.wrap (s1.2 + 1)))), bxB 2005 (eXCategory.b a0), (2009, .r (.arr 1 [iv 0, nilv, nilv, nilv, nilv] [])), (2027, .r (.arr 1 (s1.1.flatMap eI.o) []))] .nil (by kernel_rfl) (by kernel_rfl) (l_n ?_)
      exact trl_start (ks := [2, 4, 8, 10, 12, 2005, 2009, 2027]) (by kernel_rfl) (ih3 (s1.1, IntKind.i64.wrap (s1.2 + 1)) hM)
  · have hM := ite_false' hM h5
    refine tr_condFe (e := decide (s1.2 < (a1.length : Int))) h5 (by kernel_rfl) ?_
    refine tr_exit (q_x (l_x (b_h (q_n ?_))))
    refine tr_sr hT hm [] [2, 4, 8, 10, 14, 2005, 2009, 2015, 2027, 2069, 2071, 2073, 2075] [(2, .d (.sl a1.length 0 (a1.flatMap eI.b))), (4, .d (.rp 1002 0)), (8, .d (.rp 1004 0)), (10, .d (.rs 1013 0 s1.1.length)), (14, .d (.rp 1007 0)), bxB 2005 (eXCategory.b a0), (2009, .r (.arr 1 [iv 0, nilv, nilv, nilv, nilv] [])), (2015, .r (.arr 1 [iv a0.Objects, .rs 1034 0 (([] : List Int).length), .rs 1035 0 (([] : List Int).length), .rs 1036 0 (([] : List Int).length), .rs 1037 0 (([] : List (List Int)).length)] [1034, 1035, 1036, 1037])), (2027, .r (.arr 1 (s1.1.flatMap eI.o) [])), (2069, .r (.arr 1 (([] : List Int).flatMap eI.o) [])), (2071, .r (.arr 1 (([] : List Int).flatMap eI.o) [])), (2073, .r (.arr 1 (([] : List Int).flatMap eI.o) [])), (2075, .r (.arr 1 (([] : List (List Int)).flatMap (eS eI).o) []))] (.cons (Nat.le_of_ble_eq_true (n := 5) (m := 5) rfl) .nil) (by kernel_rfl) (by kernel_rfl) ?_
    refine tr_seq ?_
    refine tr_sr hT hm [] [2, 4, 8, 10, 14, 16, 2005, 2009, 2015, 2027, 2069, 2071, 2073, 2075] [(2, .d (.sl a1.length 0 (a1.flatMap eI.b))), (4, .d (.rp 1002 0)), (8, .d (.rp 1004 0)), (10, .d (.rs 1013 0 s1.1.length)), (14, .d (.rp 1007 0)), (16, .d (iv 0)), bxB 2005 (eXCategory.b a0), (2009, .r (.arr 1 [iv 0, nilv, nilv, nilv, nilv] [])), (2015, .r (.arr 1 [iv a0.Objects, .rs 1034 0 (([] : List Int).length), .rs 1035 0 (([] : List Int).length), .rs 1036 0 (([] : List Int).length), .rs 1037 0 (([] : List (List Int)).length)] [1034, 1035, 1036, 1037])), (2027, .r (.arr 1 (s1.1.flatMap eI.o) [])), (2069, .r (.arr 1 (([] : List Int).flatMap eI.o) [])), (2071, .r (.arr 1 (([] : List Int).flatMap eI.o) [])), (2073, .r (.arr 1 (([] : List Int).flatMap eI.o) [])), (2075, .r (.arr 1 (([] : List (List Int)).flatMap (eS eI).o) []))] .nil (by kernel_rfl) (by kernel_rfl) ?_
    refine tr_block ?_
    refine tr_iterS (fun (s10 : (List Int) × Int) => [(2, .d (.sl a1.length 0 (a1.flatMap eI.b))), (4, .d (.rp 1002 0)), (8, .d (.rp 1004 0)), (10, .d (.rs 1013 0 s1.1.length)), (14, .d (.rp 1007 0)), (16, .d (iv s10.2)), bxB 2005 (eXCategory.b a0), (2009, .r (.arr 1 [iv 0, nilv, nilv, nilv, nilv] [])), (2015, .r (.arr 1 [iv a0.Objects, .rs 1034 0 (([] : List Int).length), .rs 1035 0 (([] : List Int).length), .rs 1036 0 s10.1.length, .rs 1037 0 (([] : List (List Int)).length)] [1034, 1035, 1036, 1037])), (2027, .r (.arr 1 (s1.1.flatMap eI.o) [])), (2069, .r (.arr 1 (([] : List Int).flatMap eI.o) [])), (2071, .r (.arr 1 (([] : List Int).flatMap eI.o) [])), (2073, .r (.arr 1 (s10.1.flatMap eI.o) [])), (2075, .r (.arr 1 (([] : List (List Int)).flatMap (eS eI).o) []))]) (([] : List Int), 0) [2, 4, 8, 10, 14, 16, 2005, 2009, 2015, 2027, 2069, 2071, 2073, 2075] (by kernel_rfl) hM ?_
    intro n13 next11 ih12 s10 hM
    refine tr_seq ?_
    refine tr_sr hT hm [] [2, 4, 8, 10, 14, 16, 84, 2005, 2009, 2015, 2027, 2069, 2071, 2073, 2075] [(2, .d (.sl a1.length 0 (a1.flatMap eI.b))), (4, .d (.rp 1002 0)), (8, .d (.rp 1004 0)), (10, .d (.rs 1013 0 s1.1.length)), (14, .d (.rp 1007 0)), (16, .d (iv s10.2)), (84, .d (bv (decide (s10.2 < a0.Objects)))), bxB 2005 (eXCategory.b a0), (2009, .r (.arr 1 [iv 0, nilv, nilv, nilv, nilv] [])), (2015, .r (.arr 1 [iv a0.Objects, .rs 1034 0 (([] : List Int).length), .rs 1035 0 (([] : List Int).length), .rs 1036 0 s10.1.length, .rs 1037 0 (([] : List (List Int)).length)] [1034, 1035, 1036, 1037])), (2027, .r (.arr 1 (s1.1.flatMap eI.o) [])), (2069, .r (.arr 1 (([] : List Int).flatMap eI.o) [])), (2071, .r (.arr 1 (([] : List Int).flatMap eI.o) [])), (2073, .r (.arr 1 (s10.1.flatMap eI.o) [])), (2075, .r (.arr 1 (([] : List (List Int)).flatMap (eS eI).o) []))] .nil (by kernel_rfl) (by kernel_rfl) ?_
    rcases Bool.eq_false_or_eq_true (decide (s10.2 < a0.Objects)) with h14 | h14
    · have hM := ite_true' hM h14
      refine tr_condTe (e := decide (s10.2 < a0.Objects)) h14 (by kernel_rfl) ?_
      refine tr_skip (q_n ?_)
      refine tr_seq ?_
      refine tr_block ?_
      obtain ⟨y15, hy15, hM⟩ := bind_some' hM
      have hy15' := idx_some hy15
      obtain ⟨y16, hy16, hM⟩ := bind_some' hM
      have hy16' := idx_some hy16
      obtain ⟨h17, hM⟩ := chk_some hM
      refine tr_r hT hm [(7, .val (iv y15)), (9, .val (iv y16)), (11, .app true)] [2, 4, 8, 10, 14, 16, 2005, 2009, 2015, 2027, 2069, 2071, 2075, 2113] [(2, .d (.sl a1.length 0 (a1.flatMap eI.b))), (4, .d (.rp 1002 0)), (8, .d (.rp 1004 0)), (10, .d (.rs 1013 0 s1.1.length)), (14, .d (.rp 1007 0)), (16, .d (iv s10.2)), bxB 2005 (eXCategory.b a0), (2009, .r (.arr 1 [iv 0, nilv, nilv, nilv, nilv] [])), (2015, .r (.arr 1 [iv a0.Objects, .rs 1034 0 (([] : List Int).length), .rs 1035 0 (([] : List Int).length), .rs 1056 0 (s10.1.length + (([y16] : List Int).length)), .rs 1037 0 (([] : List (List Int)).length)] [1034, 1035, 1036, 1037, 1056])), (2027, .r (.arr 1 (s1.1.flatMap eI.o) [])), (2069, .r (.arr 1 (([] : List Int).flatMap eI.o) [])), (2071, .r (.arr 1 (([] : List Int).flatMap eI.o) [])), (2075, .r (.arr 1 (([] : List (List Int)).flatMap (eS eI).o) [])), (2113, .r (.arr 1 (s10.1.flatMap eI.o ++ ([y16] : List Int).flatMap eI.o) []))] (.cons hy15'.1 (.cons hy15'.2.1 (.cons (at_b0 eI_ok hy15'.2.2 (d := iv y15) (by kernel_rfl)) (.cons hy16'.1 (.cons hy16'.2.1 (.cons (at_b0 eI_ok hy16'.2.2 (d := iv y16) (by kernel_rfl)) (.cons (lenO_flat eI_ok s10.1) (.cons (lenO_flat eI_ok ([y16] : List Int)) (.cons h17 (.cons (Nat.le_of_ble_eq_true (n := 4) (m := 5) rfl) .nil)))))))))) (by kernel_rfl) (by kernel_rfl) (b_n (q_n ?_))
      refine Tr.by (imp_cvE (r := 1056) (sz := 1) (refs := []) (flat_app eI.o s10.1 ([y16] : List Int)) (menO_flat eI_ok _) (by kernel_rfl)) ?_
      refine Tr.by (imp_cvB (r := 1007) (sz := 1) (cells := [iv a0.Objects, .rs 1034 0 (([] : List Int).length), .rs 1035 0 (([] : List Int).length), .rs 1056 0 (s10.1.length + (([y16] : List Int).length)), .rs 1037 0 (([] : List (List Int)).length)]) (cells' := [iv a0.Objects, .rs 1034 0 (([] : List Int).length), .rs 1035 0 (([] : List Int).length), .rs 1056 0 ((s10.1 ++ ([y16] : List Int)).length), .rs 1037 0 (([] : List (List Int)).length)]) (refs := [1034, 1035, 1036, 1037, 1056]) (refs' := [1034, 1035, 1036, 1037, 1056]) (.cons (.refl _) (.cons (.refl _) (.cons (.refl _) (.cons (Sub.of_eq (congrArg (D.rs 1056 0) ((len_app s10.1 ([y16] : List Int)) : s10.1.length + (([y16] : List Int).length) = (s10.1 ++ ([y16] : List Int)).length))) (.cons (.refl _) .nil))))) (by kernel_rfl) (by kernel_rfl) (by kernel_rfl)) ?_
      refine tr_r hT hm [] [2, 4, 8, 10, 14, 16, 2005, 2009, 2015, 2027, 2069, 2071, 2075, 2113] [(2, .d (.sl a1.length 0 (a1.flatMap eI.b))), (4, .d (.rp 1002 0)), (8, .d (.rp 1004 0)), (10, .d (.rs 1013 0 s1.1.length)), (14, .d (.rp 1007 0)), (16, .d (iv (IntKind.i64.wrap (s10.2 + 1)))), bxB 2005 (eXCategory.b a0), (2009, .r (.arr 1 [iv 0, nilv, nilv, nilv, nilv] [])), (2015, .r (.arr 1 [iv a0.Objects, .rs 1034 0 (([] : List Int).length), .rs 1035 0 (([] : List Int).length), .rs 1056 0 ((s10.1 ++ ([y16] : List Int)).length), .rs 1037 0 (([] : List (List Int)).length)] [1034, 1035, 1036, 1037, 1056])), (2027, .r (.arr 1 (s1.1.flatMap eI.o) [])), (2069, .r (.arr 1 (([] : List Int).flatMap eI.o) [])), (2071, .r (.arr 1 (([] : List Int).flatMap eI.o) [])), (2075, .r (.arr 1 (([] : List (List Int)).flatMap (eS eI).o) [])), (2113, .r (.arr 1 ((s10.1 ++ ([y16] : List Int)).flatMap eI.o) []))] .nil (by kernel_rfl) (by kernel_rfl) (l_n ?_)
      refine TrL.by (imp_cvB (r := 1007) (sz := 1) (cells := [iv a0.Objects, .rs 1034 0 (([] : List Int).length), .rs 1035 0 (([] : List Int).length), .rs 1056 0 ((s10.1 ++ ([y16] : List Int)).length), .rs 1037 0 (([] : List (List Int)).length)]) (cells' := [iv a0.Objects, .rs 1034 0 (([] : List Int).length), .rs 1035 0 (([] : List Int).length), .rs 1056 0 ((s10.1 ++ ([y16] : List Int)).length), .rs 1037 0 (([] : List (List Int)).length)]) (refs := [1034, 1035, 1036, 1037, 1056]) (refs' := [1034, 1035, 1056, 1037]) (.cons (.refl _) (.cons (.refl _) (.cons (.refl _) (.cons (.refl _) (.cons (.refl _) .nil))))) (by kernel_rfl) (by kernel_rfl) (by kernel_rfl)) ?_
      refine TrL.by (imp_sel (ks := [2, 4, 8, 10, 14, 16, 2005, 2009, 2015, 2027, 2069, 2071, 2075, 2113]) (st' := [(2, .d (.sl a1.length 0 (a1.flatMap eI.b))), (4, .d (.rp 1002 0)), (8, .d (.rp 1004 0)), (10, .d (.rs 1013 0 s1.1.length)), (14, .d (.rp 1007 0)), (16, .d (iv (IntKind.i64.wrap (s10.2 + 1)))), bxB 2005 (eXCategory.b a0), (2009, .r (.arr 1 [iv 0, nilv, nilv, nilv, nilv] [])), (2015, .r (.arr 1 [iv a0.Objects, .rs 1034 0 (([] : List Int).length), .rs 1035 0 (([] : List Int).length), .rs 1056 0 ((s10.1 ++ ([y16] : List Int)).length), .rs 1037 0 (([] : List (List Int)).length)] [1034, 1035, 1056, 1037])), (2027, .r (.arr 1 (s1.1.flatMap eI.o) [])), (2069, .r (.arr 1 (([] : List Int).flatMap eI.o) [])), (2071, .r (.arr 1 (([] : List Int).flatMap eI.o) [])), (2075, .r (.arr 1 (([] : List (List Int)).flatMap (eS eI).o) [])), (2113, .r (.arr 1 ((s10.1 ++ ([y16] : List Int)).flatMap eI.o) []))]) (by kernel_rfl)) ?_
      refine TrL.by (imp_rename (r := 1056) (q := 1036) (by kernel_rfl) (Nat.le_of_ble_eq_true rfl)) ?_
      exact trl_start (ks := [2, 4, 8, 10, 14, 16, 2005, 2009, 2015, 2027, 2069, 2071, 2073, 2075]) (by kernel_rfl) (ih12 (s10.1 ++ ([y16] : List Int), IntKind.i64.wrap (s10.2 + 1)) hM)
    · have hM := ite_false' hM h14
      refine tr_condFe (e := decide (s10.2 < a0.Objects)) h14 (by kernel_rfl) ?_
      refine tr_exit (q_x (l_x (b_h (q_n ?_))))
      refine tr_seq ?_
      refine tr_sr hT hm [] [2, 4, 8, 10, 14, 18, 2005, 2009, 2015, 2027, 2069, 2071, 2073, 2075] [(2, .d (.sl a1.length 0 (a1.flatMap eI.b))), (4, .d (.rp 1002 0)), (8, .d (.rp 1004 0)), (10, .d (.rs 1013 0 s1.1.length)), (14, .d (.rp 1007 0)), (18, .d (iv 0)), bxB 2005 (eXCategory.b a0), (2009, .r (.arr 1 [iv 0, nilv, nilv, nilv, nilv] [])), (2015, .r (.arr 1 [iv a0.Objects, .rs 1034 0 (([] : List Int).length), .rs 1035 0 (([] : List Int).length), .rs 1036 0 s10.1.length, .rs 1037 0 (([] : List (List Int)).length)] [1034, 1035, 1036, 1037])), (2027, .r (.arr 1 (s1.1.flatMap eI.o) [])), (2069, .r (.arr 1 (([] : List Int).flatMap eI.o) [])), (2071, .r (.arr 1 (([] : List Int).flatMap eI.o) [])), (2073, .r (.arr 1 (s10.1.flatMap eI.o) [])), (2075, .r (.arr 1 (([] : List (List Int)).flatMap (eS eI).o) []))] .nil (by kernel_rfl) (by kernel_rfl) ?_
      refine tr_block ?_
      refine tr_iterS (fun (s18 : (List Int) × (List Int) × (List (List Int)) × Int) => [(2, .d (.sl a1.length 0 (a1.flatMap eI.b))), (4, .d (.rp 1002 0)), (8, .d (.rp 1004 0)), (10, .d (.rs 1013 0 s1.1.length)), (14, .d (.rp 1007 0)), (18, .d (iv s18.2.2.2)), bxB 2005 (eXCategory.b a0), (2009, .r (.arr 1 [iv 0, nilv, nilv, nilv, nilv] [])), (2015, .r (.arr 1 [iv a0.Objects, .rs 1034 0 s18.1.length, .rs 1035 0 s18.2.1.length, .rs 1036 0 s10.1.length, .rs 1037 0 s18.2.2.1.length] [1034, 1035, 1036, 1037])), (2027, .r (.arr 1 (s1.1.flatMap eI.o) [])), (2069, .r (.arr 1 (s18.1.flatMap eI.o) [])), (2071, .r (.arr 1 (s18.2.1.flatMap eI.o) [])), (2073, .r (.arr 1 (s10.1.flatMap eI.o) [])), (2075, .r (.arr 1 (s18.2.2.1.flatMap (eS eI).o) []))]) (([] : List Int), ([] : List Int), ([] : List (List Int)), 0) [2, 4, 8, 10, 14, 18, 2005, 2009, 2015, 2027, 2069, 2071, 2073, 2075] (by kernel_rfl) hM ?_
      intro n21 next19 ih20 s18 hM
      refine tr_seq ?_
      refine tr_sr hT hm [] [2, 4, 8, 10, 14, 18, 122, 2005, 2009, 2015, 2027, 2069, 2071, 2073, 2075] [(2, .d (.sl a1.length 0 (a1.flatMap eI.b))), (4, .d (.rp 1002 0)), (8, .d (.rp 1004 0)), (10, .d (.rs 1013 0 s1.1.length)), (14, .d (.rp 1007 0)), (18, .d (iv s18.2.2.2)), (122, .d (bv (decide (s18.2.2.2 < (s1.1.length : Int))))), bxB 2005 (eXCategory.b a0), (2009, .r (.arr 1 [iv 0, nilv, nilv, nilv, nilv] [])), (2015, .r (.arr 1 [iv a0.Objects, .rs 1034 0 s18.1.length, .rs 1035 0 s18.2.1.length, .rs 1036 0 s10.1.length, .rs 1037 0 s18.2.2.1.length] [1034, 1035, 1036, 1037])), (2027, .r (.arr 1 (s1.1.flatMap eI.o) [])), (2069, .r (.arr 1 (s18.1.flatMap eI.o) [])), (2071, .r (.arr 1 (s18.2.1.flatMap eI.o) [])), (2073, .r (.arr 1 (s10.1.flatMap eI.o) [])), (2075, .r (.arr 1 (s18.2.2.1.flatMap (eS eI).o) []))] .nil (by kernel_rfl) (by kernel_rfl) ?_
      rcases Bool.eq_false_or_eq_true (decide (s18.2.2.2 < (s1.1.length : Int))) with h22 | h22
      · have hM := ite_true' hM h22
        refine tr_condTe (e := decide (s18.2.2.2 < (s1.1.length : Int))) h22 (by kernel_rfl) ?_
        refine tr_skip (q_n ?_)
        refine tr_seq ?_
        refine tr_block ?_
        obtain ⟨y23, hy23, hM⟩ := bind_some' hM
        have hy23' := idx_some hy23
        obtain ⟨y24, hy24, hM⟩ := bind_some' hM
        have hy24' := idx_some hy24
        obtain ⟨h25, hM⟩ := chk_some hM
        refine tr_sr hT hm [(7, .val (iv y23)), (9, .val (iv y24)), (11, .app true)] [2, 4, 8, 10, 14, 18, 2005, 2009, 2015, 2027, 2071, 2073, 2075, 2151] [(2, .d (.sl a1.length 0 (a1.flatMap eI.b))), (4, .d (.rp 1002 0)), (8, .d (.rp 1004 0)), (10, .d (.rs 1013 0 s1.1.length)), (14, .d (.rp 1007 0)), (18, .d (iv s18.2.2.2)), bxB 2005 (eXCategory.b a0), (2009, .r (.arr 1 [iv 0, nilv, nilv, nilv, nilv] [])), (2015, .r (.arr 1 [iv a0.Objects, .rs 1075 0 (s18.1.length + (([y24] : List Int).length)), .rs 1035 0 s18.2.1.length, .rs 1036 0 s10.1.length, .rs 1037 0 s18.2.2.1.length] [1034, 1035, 1036, 1037, 1075])), (2027, .r (.arr 1 (s1.1.flatMap eI.o) [])), (2071, .r (.arr 1 (s18.2.1.flatMap eI.o) [])), (2073, .r (.arr 1 (s10.1.flatMap eI.o) [])), (2075, .r (.arr 1 (s18.2.2.1.flatMap (eS eI).o) [])), (2151, .r (.arr 1 (s18.1.flatMap eI.o ++ ([y24] : List Int).flatMap eI.o) []))] (.cons hy23'.1 (.cons hy23'.2.1 (.cons (at_o0 eI_ok hy23'.2.2 (d := iv y23) (by kernel_rfl)) (.cons hy24'.1 (.cons hy24'.2.1 (.cons (at_b0 eI_ok hy24'.2.2 (d := iv y24) (by kernel_rfl)) (.cons (lenO_flat eI_ok s18.1) (.cons (lenO_flat eI_ok ([y24] : List Int)) (.cons h25 (.cons (Nat.le_of_ble_eq_true (n := 2) (m := 5) rfl) .nil)))))))))) (by kernel_rfl) (by kernel_rfl) ?_
        refine Tr.by (imp_cvE (r := 1075) (sz := 1) (refs := []) (flat_app eI.o s18.1 ([y24] : List Int)) (menO_flat eI_ok _) (by kernel_rfl)) ?_
        refine Tr.by (imp_cvB (r := 1007) (sz := 1) (cells := [iv a0.Objects, .rs 1075 0 (s18.1.length + (([y24] : List Int).length)), .rs 1035 0 s18.2.1.length, .rs 1036 0 s10.1.length, .rs 1037 0 s18.2.2.1.length]) (cells' := [iv a0.Objects, .rs 1075 0 ((s18.1 ++ ([y24] : List Int)).length), .rs 1035 0 s18.2.1.length, .rs 1036 0 s10.1.length, .rs 1037 0 s18.2.2.1.length]) (refs := [1034, 1035, 1036, 1037, 1075]) (refs' := [1034, 1035, 1036, 1037, 1075]) (.cons (.refl _) (.cons (Sub.of_eq (congrArg (D.rs 1075 0) ((len_app s18.1 ([y24] : List Int)) : s18.1.length + (([y24] : List Int).length) = (s18.1 ++ ([y24] : List Int)).length))) (.cons (.refl _) (.cons (.refl _) (.cons (.refl _) .nil))))) (by kernel_rfl) (by kernel_rfl) (by kernel_rfl)) ?_
        obtain ⟨y26, hy26, hM⟩ := bind_some' hM
        have hy26' := idx_some hy26
        obtain ⟨h27, hM⟩ := chk_some hM
        refine tr_sr hT hm [(7, .val (iv y23)), (9, .val (iv y26)), (11, .app true)] [2, 4, 8, 10, 14, 18, 2005, 2009, 2015, 2027, 2073, 2075, 2151, 2177] [(2, .d (.sl a1.length 0 (a1.flatMap eI.b))), (4, .d (.rp 1002 0)), (8, .d (.rp 1004 0)), (10, .d (.rs 1013 0 s1.1.length)), (14, .d (.rp 1007 0)), (18, .d (iv s18.2.2.2)), bxB 2005 (eXCategory.b a0), (2009, .r (.arr 1 [iv 0, nilv, nilv, nilv, nilv] [])), (2015, .r (.arr 1 [iv a0.Objects, .rs 1075 0 ((s18.1 ++ ([y24] : List Int)).length), .rs 1088 0 (s18.2.1.length + (([y26] : List Int).length)), .rs 1036 0 s10.1.length, .rs 1037 0 s18.2.2.1.length] [1034, 1035, 1036, 1037, 1075, 1088])), (2027, .r (.arr 1 (s1.1.flatMap eI.o) [])), (2073, .r (.arr 1 (s10.1.flatMap eI.o) [])), (2075, .r (.arr 1 (s18.2.2.1.flatMap (eS eI).o) [])), (2151, .r (.arr 1 ((s18.1 ++ ([y24] : List Int)).flatMap eI.o) [])), (2177, .r (.arr 1 (s18.2.1.flatMap eI.o ++ ([y26] : List Int).flatMap eI.o) []))] (.cons hy23'.1 (.cons hy23'.2.1 (.cons (at_o0 eI_ok hy23'.2.2 (d := iv y23) (by kernel_rfl)) (.cons hy26'.1 (.cons hy26'.2.1 (.cons (at_b0 eI_ok hy26'.2.2 (d := iv y26) (by kernel_rfl)) (.cons (lenO_flat eI_ok s18.2.1) (.cons (lenO_flat eI_ok ([y26] : List Int)) (.cons h27 (.cons (Nat.le_of_ble_eq_true (n := 3) (m := 5) rfl) .nil)))))))))) (by kernel_rfl) (by kernel_rfl) ?_
        refine Tr.by (imp_cvE (r := 1088) (sz := 1) (refs := []) (flat_app eI.o s18.2.1 ([y26] : List Int)) (menO_flat eI_ok _) (by kernel_rfl)) ?_
        refine Tr.by (imp_cvB (r := 1007) (sz := 1) (cells := [iv a0.Objects, .rs 1075 0 ((s18.1 ++ ([y24] : List Int)).length), .rs 1088 0 (s18.2.1.length + (([y26] : List Int).length)), .rs 1036 0 s10.1.length, .rs 1037 0 s18.2.2.1.length]) (cells' := [iv a0.Objects, .rs 1075 0 ((s18.1 ++ ([y24] : List Int)).length), .rs 1088 0 ((s18.2.1 ++ ([y26] : List Int)).length), .rs 1036 0 s10.1.length, .rs 1037 0 s18.2.2.1.length]) (refs := [1034, 1035, 1036, 1037, 1075, 1088]) (refs' := [1034, 1035, 1036, 1037, 1075, 1088]) (.cons (.refl _) (.cons (.refl _) (.cons (Sub.of_eq (congrArg (D.rs 1088 0) ((len_app s18.2.1 ([y26] : List Int)) : s18.2.1.length + (([y26] : List Int).length) = (s18.2.1 ++ ([y26] : List Int)).length))) (.cons (.refl _) (.cons (.refl _) .nil))))) (by kernel_rfl) (by kernel_rfl) (by kernel_rfl)) ?_
        refine tr_sr hT hm [] [2, 4, 8, 10, 14, 18, 20, 2005, 2009, 2015, 2027, 2073, 2075, 2151, 2177, 2181] [(2, .d (.sl a1.length 0 (a1.flatMap eI.b))), (4, .d (.rp 1002 0)), (8, .d (.rp 1004 0)), (10, .d (.rs 1013 0 s1.1.length)), (14, .d (.rp 1007 0)), (18, .d (iv s18.2.2.2)), (20, .d (.rs 1090 0 (([] : List Int).length))), bxB 2005 (eXCategory.b a0), (2009, .r (.arr 1 [iv 0, nilv, nilv, nilv, nilv] [])), (2015, .r (.arr 1 [iv a0.Objects, .rs 1075 0 ((s18.1 ++ ([y24] : List Int)).length), .rs 1088 0 ((s18.2.1 ++ ([y26] : List Int)).length), .rs 1036 0 s10.1.length, .rs 1037 0 s18.2.2.1.length] [1034, 1035, 1036, 1037, 1075, 1088])), (2027, .r (.arr 1 (s1.1.flatMap eI.o) [])), (2073, .r (.arr 1 (s10.1.flatMap eI.o) [])), (2075, .r (.arr 1 (s18.2.2.1.flatMap (eS eI).o) [])), (2151, .r (.arr 1 ((s18.1 ++ ([y24] : List Int)).flatMap eI.o) [])), (2177, .r (.arr 1 ((s18.2.1 ++ ([y26] : List Int)).flatMap eI.o) [])), (2181, .r (.arr 1 (([] : List Int).flatMap eI.o) []))] .nil (by kernel_rfl) (by kernel_rfl) ?_
        refine tr_seq ?_
        refine tr_sr hT hm [] [2, 4, 8, 10, 14, 18, 20, 22, 2005, 2009, 2015, 2027, 2073, 2075, 2151, 2177, 2181] [(2, .d (.sl a1.length 0 (a1.flatMap eI.b))), (4, .d (.rp 1002 0)), (8, .d (.rp 1004 0)), (10, .d (.rs 1013 0 s1.1.length)), (14, .d (.rp 1007 0)), (18, .d (iv s18.2.2.2)), (20, .d (.rs 1090 0 (([] : List Int).length))), (22, .d (iv 0)), bxB 2005 (eXCategory.b a0), (2009, .r (.arr 1 [iv 0, nilv, nilv, nilv, nilv] [])), (2015, .r (.arr 1 [iv a0.Objects, .rs 1075 0 ((s18.1 ++ ([y24] : List Int)).length), .rs 1088 0 ((s18.2.1 ++ ([y26] : List Int)).length), .rs 1036 0 s10.1.length, .rs 1037 0 s18.2.2.1.length] [1034, 1035, 1036, 1037, 1075, 1088])), (2027, .r (.arr 1 (s1.1.flatMap eI.o) [])), (2073, .r (.arr 1 (s10.1.flatMap eI.o) [])), (2075, .r (.arr 1 (s18.2.2.1.flatMap (eS eI).o) [])), (2151, .r (.arr 1 ((s18.1 ++ ([y24] : List Int)).flatMap eI.o) [])), (2177, .r (.arr 1 ((s18.2.1 ++ ([y26] : List Int)).flatMap eI.o) [])), (2181, .r (.arr 1 (([] : List Int).flatMap eI.o) []))] .nil (by kernel_rfl) (by kernel_rfl) ?_
        refine tr_block ?_
        refine Tr.by (imp_cvB (r := 1007) (sz := 1) (cells := [iv a0.Objects, .rs 1075 0 ((s18.1 ++ ([y24] : List Int)).length), .rs 1088 0 ((s18.2.1 ++ ([y26] : List Int)).length), .rs 1036 0 s10.1.length, .rs 1037 0 s18.2.2.1.length]) (cells' := [iv a0.Objects, .rs 1075 0 ((s18.1 ++ ([y24] : List Int)).length), .rs 1088 0 ((s18.2.1 ++ ([y26] : List Int)).length), .rs 1036 0 s10.1.length, .rs 1037 0 s18.2.2.1.length]) (refs := [1034, 1035, 1036, 1037, 1075, 1088]) (refs' := [1075, 1088, 1036, 1037]) (.cons (.refl _) (.cons (.refl _) (.cons (.refl _) (.cons (.refl _) (.cons (.refl _) .nil))))) (by kernel_rfl) (by kernel_rfl) (by kernel_rfl)) ?_
        refine tr_iterS (fun (s28 : (List Int) × Int) => [(2, .d (.sl a1.length 0 (a1.flatMap eI.b))), (4, .d (.rp 1002 0)), (8, .d (.rp 1004 0)), (10, .d (.rs 1013 0 s1.1.length)), (14, .d (.rp 1007 0)), (18, .d (iv s18.2.2.2)), (20, .d (.rs 1090 0 s28.1.length)), (22, .d (iv s28.2)), bxB 2005 (eXCategory.b a0), (2009, .r (.arr 1 [iv 0, nilv, nilv, nilv, nilv] [])), (2015, .r (.arr 1 [iv a0.Objects, .rs 1075 0 ((s18.1 ++ ([y24] : List Int)).length), .rs 1088 0 ((s18.2.1 ++ ([y26] : List Int)).length), .rs 1036 0 s10.1.length, .rs 1037 0 s18.2.2.1.length] [1075, 1088, 1036, 1037])), (2027, .r (.arr 1 (s1.1.flatMap eI.o) [])), (2073, .r (.arr 1 (s10.1.flatMap eI.o) [])), (2075, .r (.arr 1 (s18.2.2.1.flatMap (eS eI).o) [])), (2151, .r (.arr 1 ((s18.1 ++ ([y24] : List Int)).flatMap eI.o) [])), (2177, .r (.arr 1 ((s18.2.1 ++ ([y26] : List Int)).flatMap eI.o) [])), (2181, .r (.arr 1 (s28.1.flatMap eI.o) []))]) (([] : List Int), 0) [2, 4, 8, 10, 14, 18, 20, 22, 2005, 2009, 2015, 2027, 2073, 2075, 2151, 2177, 2181] (by kernel_rfl) hM ?_
        intro n31 next29 ih30 s28 hM
        refine tr_seq ?_
        refine tr_sr hT hm [] [2, 4, 8, 10, 14, 18, 20, 22, 188, 2005, 2009, 2015, 2027, 2073, 2075, 2151, 2177, 2181] [(2, .d (.sl a1.length 0 (a1.flatMap eI.b))), (4, .d (.rp 1002 0)), (8, .d (.rp 1004 0)), (10, .d (.rs 1013 0 s1.1.length)), (14, .d (.rp 1007 0)), (18, .d (iv s18.2.2.2)), (20, .d (.rs 1090 0 s28.1.length)), (22, .d (iv s28.2)), (188, .d (bv (decide (s28.2 < (s1.1.length : Int))))), bxB 2005 (eXCategory.b a0), (2009, .r (.arr 1 [iv 0, nilv, nilv, nilv, nilv] [])), (2015, .r (.arr 1 [iv a0.Objects, .rs 1075 0 ((s18.1 ++ ([y24] : List Int)).length), .rs 1088 0 ((s18.2.1 ++ ([y26] : List Int)).length), .rs 1036 0 s10.1.length, .rs 1037 0 s18.2.2.1.length] [1075, 1088, 1036, 1037])), (2027, .r (.arr 1 (s1.1.flatMap eI.o) [])), (2073, .r (.arr 1 (s10.1.flatMap eI.o) [])), (2075, .r (.arr 1 (s18.2.2.1.flatMap (eS eI).o) [])), (2151, .r (.arr 1 ((s18.1 ++ ([y24] : List Int)).flatMap eI.o) [])), (2177, .r (.arr 1 ((s18.2.1 ++ ([y26] : List Int)).flatMap eI.o) [])), (2181, .r (.arr 1 (s28.1.flatMap eI.o) []))] .nil (by kernel_rfl) (by kernel_rfl) ?_
        rcases Bool.eq_false_or_eq_true (decide (s28.2 < (s1.1.length : Int))) with h32 | h32
        · have hM := ite_true' hM h32
          refine tr_condTe (e := decide (s28.2 < (s1.1.length : Int))) h32 (by kernel_rfl) ?_
          refine tr_skip (q_n ?_)
          refine tr_seq ?_
          refine tr_block ?_
          obtain ⟨y33, hy33, hM⟩ := bind_some' hM
          have hy33' := idx_some hy33
          obtain ⟨y34, hy34, hM⟩ := bind_some' hM
          have hy34' := idx_some hy34
          obtain ⟨y35, hy35, hM⟩ := bind_some' hM
          have hy35' := idx_some hy35
          refine tr_sr hT hm [(5, .val (iv y23)), (7, .val (.sl y33.length 0 (y33.flatMap eI.b))), (11, .val (iv y34)), (13, .val (iv y35))] [2, 4, 8, 10, 14, 18, 20, 22, 24, 2005, 2009, 2015, 2027, 2073, 2075, 2151, 2177, 2181] [(2, .d (.sl a1.length 0 (a1.flatMap eI.b))), (4, .d (.rp 1002 0)), (8, .d (.rp 1004 0)), (10, .d (.rs 1013 0 s1.1.length)), (14, .d (.rp 1007 0)), (18, .d (iv s18.2.2.2)), (20, .d (.rs 1090 0 s28.1.length)), (22, .d (iv s28.2)), (24, .d (iv y35)), bxB 2005 (eXCategory.b a0), (2009, .r (.arr 1 [iv 0, nilv, nilv, nilv, nilv] [])), (2015, .r (.arr 1 [iv a0.Objects, .rs 1075 0 ((s18.1 ++ ([y24] : List Int)).length), .rs 1088 0 ((s18.2.1 ++ ([y26] : List Int)).length), .rs 1036 0 s10.1.length, .rs 1037 0 s18.2.2.1.length] [1075, 1088, 1036, 1037])), (2027, .r (.arr 1 (s1.1.flatMap eI.o) [])), (2073, .r (.arr 1 (s10.1.flatMap eI.o) [])), (2075, .r (.arr 1 (s18.2.2.1.flatMap (eS eI).o) [])), (2151, .r (.arr 1 ((s18.1 ++ ([y24] : List Int)).flatMap eI.o) [])), (2177, .r (.arr 1 ((s18.2.1 ++ ([y26] : List Int)).flatMap eI.o) [])), (2181, .r (.arr 1 (s28.1.flatMap eI.o) []))] (.cons hy23'.1 (.cons hy23'.2.1 (.cons (at_o0 eI_ok hy23'.2.2 (d := iv y23) (by kernel_rfl)) (.cons hy33'.1 (.cons hy33'.2.1 (.cons (at_b0 (eS_ok eI_ok) hy33'.2.2 (d := .sl y33.length 0 (y33.flatMap eI.b)) (by kernel_rfl)) (.cons hy34'.1 (.cons hy34'.2.1 (.cons (at_o0 eI_ok hy34'.2.2 (d := iv y34) (by kernel_rfl)) (.cons hy35'.1 (.cons hy35'.2.1 (.cons (at_b0 eI_ok hy35'.2.2 (d := iv y35) (by kernel_rfl)) .nil)))))))))))) (by kernel_rfl) (by kernel_rfl) ?_
          refine tr_seq ?_
          refine tr_sr hT hm [] [2, 4, 8, 10, 14, 18, 20, 22, 24, 224, 2005, 2009, 2015, 2027, 2073, 2075, 2151, 2177, 2181] [(2, .d (.sl a1.length 0 (a1.flatMap eI.b))), (4, .d (.rp 1002 0)), (8, .d (.rp 1004 0)), (10, .d (.rs 1013 0 s1.1.length)), (14, .d (.rp 1007 0)), (18, .d (iv s18.2.2.2)), (20, .d (.rs 1090 0 s28.1.length)), (22, .d (iv s28.2)), (24, .d (iv y35)), (224, .d (bv (decide (y35 ≥ 0)))), bxB 2005 (eXCategory.b a0), (2009, .r (.arr 1 [iv 0, nilv, nilv, nilv, nilv] [])), (2015, .r (.arr 1 [iv a0.Objects, .rs 1075 0 ((s18.1 ++ ([y24] : List Int)).length), .rs 1088 0 ((s18.2.1 ++ ([y26] : List Int)).length), .rs 1036 0 s10.1.length, .rs 1037 0 s18.2.2.1.length] [1075, 1088, 1036, 1037])), (2027, .r (.arr 1 (s1.1.flatMap eI.o) [])), (2073, .r (.arr 1 (s10.1.flatMap eI.o) [])), (2075, .r (.arr 1 (s18.2.2.1.flatMap (eS eI).o) [])), (2151, .r (.arr 1 ((s18.1 ++ ([y24] : List Int)).flatMap eI.o) [])), (2177, .r (.arr 1 ((s18.2.1 ++ ([y26] : List Int)).flatMap eI.o) [])), (2181, .r (.arr 1 (s28.1.flatMap eI.o) []))] .nil (by kernel_rfl) (by kernel_rfl) ?_
          rcases Bool.eq_false_or_eq_true (decide (y35 ≥ 0)) with h36 | h36
          · have hM := ite_true' hM h36
            refine tr_condTe (e := decide (y35 ≥ 0)) h36 (by kernel_rfl) ?_
            obtain ⟨y37, hy37, hM⟩ := bind_some' hM
            have hy37' := idx_some hy37
            refine tr_r hT hm [(3, .val (iv y37))] [2, 4, 8, 10, 14, 18, 20, 22, 24, 2005, 2009, 2015, 2027, 2073, 2075, 2151, 2177, 2181] [(2, .d (.sl a1.length 0 (a1.flatMap eI.b))), (4, .d (.rp 1002 0)), (8, .d (.rp 1004 0)), (10, .d (.rs 1013 0 s1.1.length)), (14, .d (.rp 1007 0)), (18, .d (iv s18.2.2.2)), (20, .d (.rs 1090 0 s28.1.length)), (22, .d (iv s28.2)), (24, .d (iv y37)), bxB 2005 (eXCategory.b a0), (2009, .r (.arr 1 [iv 0, nilv, nilv, nilv, nilv] [])), (2015, .r (.arr 1 [iv a0.Objects, .rs 1075 0 ((s18.1 ++ ([y24] : List Int)).length), .rs 1088 0 ((s18.2.1 ++ ([y26] : List Int)).length), .rs 1036 0 s10.1.length, .rs 1037 0 s18.2.2.1.length] [1075, 1088, 1036, 1037])), (2027, .r (.arr 1 (s1.1.flatMap eI.o) [])), (2073, .r (.arr 1 (s10.1.flatMap eI.o) [])), (2075, .r (.arr 1 (s18.2.2.1.flatMap (eS eI).o) [])), (2151, .r (.arr 1 ((s18.1 ++ ([y24] : List Int)).flatMap eI.o) [])), (2177, .r (.arr 1 ((s18.2.1 ++ ([y26] : List Int)).flatMap eI.o) [])), (2181, .r (.arr 1 (s28.1.flatMap eI.o) []))] (.cons hy37'.1 (.cons hy37'.2.1 (.cons (at_b0 eI_ok hy37'.2.2 (d := iv y37) (by kernel_rfl)) .nil))) (by kernel_rfl) (by kernel_rfl) (q_n ?_)
            obtain ⟨h38, hM⟩ := chk_some hM
            refine tr_r hT hm [(3, .app true)] [2, 4, 8, 10, 14, 18, 20, 22, 2005, 2009, 2015, 2027, 2073, 2075, 2151, 2177, 2241] [(2, .d (.sl a1.length 0 (a1.flatMap eI.b))), (4, .d (.rp 1002 0)), (8, .d (.rp 1004 0)), (10, .d (.rs 1013 0 s1.1.length)), (14, .d (.rp 1007 0)), (18, .d (iv s18.2.2.2)), (20, .d (.rs 1120 0 (s28.1.length + (([y37] : List Int).length)))), (22, .d (iv s28.2)), bxB 2005 (eXCategory.b a0), (2009, .r (.arr 1 [iv 0, nilv, nilv, nilv, nilv] [])), (2015, .r (.arr 1 [iv a0.Objects, .rs 1075 0 ((s18.1 ++ ([y24] : List Int)).length), .rs 1088 0 ((s18.2.1 ++ ([y26] : List Int)).length), .rs 1036 0 s10.1.length, .rs 1037 0 s18.2.2.1.length] [1075, 1088, 1036, 1037])), (2027, .r (.arr 1 (s1.1.flatMap eI.o) [])), (2073, .r (.arr 1 (s10.1.flatMap eI.o) [])), (2075, .r (.arr 1 (s18.2.2.1.flatMap (eS eI).o) [])), (2151, .r (.arr 1 ((s18.1 ++ ([y24] : List Int)).flatMap eI.o) [])), (2177, .r (.arr 1 ((s18.2.1 ++ ([y26] : List Int)).flatMap eI.o) [])), (2241, .r (.arr 1 (s28.1.flatMap eI.o ++ ([y37] : List Int).flatMap eI.o) []))] (.cons (lenO_flat eI_ok s28.1) (.cons (lenO_flat eI_ok ([y37] : List Int)) (.cons h38 .nil))) (by kernel_rfl) (by kernel_rfl) (b_n (q_n ?_))
            refine Tr.by (imp_cvE (r := 1120) (sz := 1) (refs := []) (flat_app eI.o s28.1 ([y37] : List Int)) (menO_flat eI_ok _) (by kernel_rfl)) ?_
            refine Tr.by (imp_cvD (k := 20) (congrArg (D.rs 1120 0) ((len_app s28.1 ([y37] : List Int)) : s28.1.length + (([y37] : List Int).length) = (s28.1 ++ ([y37] : List Int)).length)) (by kernel_rfl)) ?_
            refine tr_r hT hm [] [2, 4, 8, 10, 14, 18, 20, 22, 2005, 2009, 2015, 2027, 2073, 2075, 2151, 2177, 2241] [(2, .d (.sl a1.length 0 (a1.flatMap eI.b))), (4, .d (.rp 1002 0)), (8, .d (.rp 1004 0)), (10, .d (.rs 1013 0 s1.1.length)), (14, .d (.rp 1007 0)), (18, .d (iv s18.2.2.2)), (20, .d (.rs 1120 0 ((s28.1 ++ ([y37] : List Int)).length))), (22, .d (iv (IntKind.i64.wrap (s28.2 + 1)))), bxB 2005 (eXCategory.b a0), (2009, .r (.arr 1 [iv 0, nilv, nilv, nilv, nilv] [])), (2015, .r (.arr 1 [iv a0.Objects, .rs 1075 0 ((s18.1 ++ ([y24] : List Int)).length), .rs 1088 0 ((s18.2.1 ++ ([y26] : List Int)).length), .rs 1036 0 s10.1.length, .rs 1037 0 s18.2.2.1.length] [1075, 1088, 1036, 1037])), (2027, .r (.arr 1 (s1.1.flatMap eI.o) [])), (2073, .r (.arr 1 (s10.1.flatMap eI.o) [])), (2075, .r (.arr 1 (s18.2.2.1.flatMap (eS eI).o) [])), (2151, .r (.arr 1 ((s18.1 ++ ([y24] : List Int)).flatMap eI.o) [])), (2177, .r (.arr 1 ((s18.2.1 ++ ([y26] : List Int)).flatMap eI.o) [])), (2241, .r (.arr 1 ((s28.1 ++ ([y37] : List Int)).flatMap eI.o) []))] .nil (by kernel_rfl) (by kernel_rfl) (l_n ?_)
            refine TrL.by (imp_sel (ks := [2, 4, 8, 10, 14, 18, 20, 22, 2005, 2009, 2015, 2027, 2073, 2075, 2151, 2177, 2241]) (st' := [(2, .d (.sl a1.length 0 (a1.flatMap eI.b))), (4, .d (.rp 1002 0)), (8, .d (.rp 1004 0)), (10, .d (.rs 1013 0 s1.1.length)), (14, .d (.rp 1007 0)), (18, .d (iv s18.2.2.2)), (20, .d (.rs 1120 0 ((s28.1 ++ ([y37] : List Int)).length))), (22, .d (iv (IntKind.i64.wrap (s28.2 + 1)))), bxB 2005 (eXCategory.b a0), (2009, .r (.arr 1 [iv 0, nilv, nilv, nilv, nilv] [])), (2015, .r (.arr 1 [iv a0.Objects, .rs 1075 0 ((s18.1 ++ ([y24] : List Int)).length), .rs 1088 0 ((s18.2.1 ++ ([y26] : List Int)).length), .rs 1036 0 s10.1.length, .rs 1037 0 s18.2.2.1.length] [1075, 1088, 1036, 1037])), (2027, .r (.arr 1 (s1.1.flatMap eI.o) [])), (2073, .r (.arr 1 (s10.1.flatMap eI.o) [])), (2075, .r (.arr 1 (s18.2.2.1.flatMap (eS eI).o) [])), (2151, .r (.arr 1 ((s18.1 ++ ([y24] : List Int)).flatMap eI.o) [])), (2177, .r (.arr 1 ((s18.2.1 ++ ([y26] : List Int)).flatMap eI.o) [])), (2241, .r (.arr 1 ((s28.1 ++ ([y37] : List Int)).flatMap eI.o) []))]) (by kernel_rfl)) ?_
            refine TrL.by (imp_rename (r := 1120) (q := 1090) (by kernel_rfl) (Nat.le_of_ble_eq_true rfl)) ?_
            exact trl_start (ks := [2, 4, 8, 10, 14, 18, 20, 22, 2005, 2009, 2015, 2027, 2073, 2075, 2151, 2177, 2181]) (by kernel_rfl) (ih30 (s28.1 ++ ([y37] : List Int), IntKind.i64.wrap (s28.2 + 1)) hM)
          · have hM := ite_false' hM h36
            refine tr_condFe (e := decide (y35 ≥ 0)) h36 (by kernel_rfl) ?_
            refine tr_skip (q_n ?_)
            obtain ⟨h39, hM⟩ := chk_some hM
            refine tr_r hT hm [(3, .app true)] [2, 4, 8, 10, 14, 18, 20, 22, 2005, 2009, 2015, 2027, 2073, 2075, 2151, 2177, 2241] [(2, .d (.sl a1.length 0 (a1.flatMap eI.b))), (4, .d (.rp 1002 0)), (8, .d (.rp 1004 0)), (10, .d (.rs 1013 0 s1.1.length)), (14, .d (.rp 1007 0)), (18, .d (iv s18.2.2.2)), (20, .d (.rs 1120 0 (s28.1.length + (([y35] : List Int).length)))), (22, .d (iv s28.2)), bxB 2005 (eXCategory.b a0), (2009, .r (.arr 1 [iv 0, nilv, nilv, nilv, nilv] [])), (2015, .r (.arr 1 [iv a0.Objects, .rs 1075 0 ((s18.1 ++ ([y24] : List Int)).length), .rs 1088 0 ((s18.2.1 ++ ([y26] : List Int)).length), .rs 1036 0 s10.1.length, .rs 1037 0 s18.2.2.1.length] [1075, 1088, 1036, 1037])), (2027, .r (.arr 1 (s1.1.flatMap eI.o) [])), (2073, .r (.arr 1 (s10.1.flatMap eI.o) [])), (2075, .r (.arr 1 (s18.2.2.1.flatMap (eS eI).o) [])), (2151, .r (.arr 1 ((s18.1 ++ ([y24] : List Int)).flatMap eI.o) [])), (2177, .r (.arr 1 ((s18.2.1 ++ ([y26] : List Int)).flatMap eI.o) [])), (2241, .r (.arr 1 (s28.1.flatMap eI.o ++ ([y35] : List Int).flatMap eI.o) []))] (.cons (lenO_flat eI_ok s28.1) (.cons (lenO_flat eI_ok ([y35] : List Int)) (.cons h39 .nil))) (by kernel_rfl) (by kernel_rfl) (b_n (q_n ?_))
            refine Tr.by (imp_cvE (r := 1120) (sz := 1) (refs := []) (flat_app eI.o s28.1 ([y35] : List Int)) (menO_flat eI_ok _) (by kernel_rfl)) ?_
            refine Tr.by (imp_cvD (k := 20) (congrArg (D.rs 1120 0) ((len_app s28.1 ([y35] : List Int)) : s28.1.length + (([y35] : List Int).length) = (s28.1 ++ ([y35] : List Int)).length)) (by kernel_rfl)) ?_
            refine tr_r hT hm [] [2, 4, 8, 10, 14, 18, 20, 22, 2005, 2009, 2015, 2027, 2073, 2075, 2151, 2177, 2241] [(2, .d (.sl a1.length 0 (a1.flatMap eI.b))), (4, .d (.rp 1002 0)), (8, .d (.rp 1004 0)), (10, .d (.rs 1013 0 s1.1.length)), (14, .d (.rp 1007 0)), (18, .d (iv s18.2.2.2)), (20, .d (.rs 1120 0 ((s28.1 ++ ([y35] : List Int)).length))), (22, .d (iv (IntKind.i64.wrap (s28.2 + 1)))), bxB 2005 (eXCategory.b a0), (2009, .r (.arr 1 [iv 0, nilv, nilv, nilv, nilv] [])), (2015, .r (.arr 1 [iv a0.Objects, .rs 1075 0 ((s18.1 ++ ([y24] : List Int)).length), .rs 1088 0 ((s18.2.1 ++ ([y26] : List Int)).length), .rs 1036 0 s10.1.length, .rs 1037 0 s18.2.2.1.length] [1075, 1088, 1036, 1037])), (2027, .r (.arr 1 (s1.1.flatMap eI.o) [])), (2073, .r (.arr 1 (s10.1.flatMap eI.o) [])), (2075, .r (.arr 1 (s18.2.2.1.flatMap (eS eI).o) [])), (2151, .r (.arr 1 ((s18.1 ++ ([y24] : List Int)).flatMap eI.o) [])), (2177, .r (.arr 1 ((s18.2.1 ++ ([y26] : List Int)).flatMap eI.o) [])), (2241, .r (.arr 1 ((s28.1 ++ ([y35] : List Int)).flatMap eI.o) []))] .nil (by kernel_rfl) (by kernel_rfl) (l_n ?_)
            refine TrL.by (imp_sel (ks := [2, 4, 8, 10, 14, 18, 20, 22, 2005, 2009, 2015, 2027, 2073, 2075, 2151, 2177, 2241]) (st' := [(2, .d (.sl a1.length 0 (a1.flatMap eI.b))), (4, .d (.rp 1002 0)), (8, .d (.rp 1004 0)), (10, .d (.rs 1013 0 s1.1.length)), (14, .d (.rp 1007 0)), (18, .d (iv s18.2.2.2)), (20, .d (.rs 1120 0 ((s28.1 ++ ([y35] : List Int)).length))), (22, .d (iv (IntKind.i64.wrap (s28.2 + 1)))), bxB 2005 (eXCategory.b a0), (2009, .r (.arr 1 [iv 0, nilv, nilv, nilv, nilv] [])), (2015, .r (.arr 1 [iv a0.Objects, .rs 1075 0 ((s18.1 ++ ([y24] : List Int)).length), .rs 1088 0 ((s18.2.1 ++ ([y26] : List Int)).length), .rs 1036 0 s10.1.length, .rs 1037 0 s18.2.2.1.length] [1075, 1088, 1036, 1037])), (2027, .r (.arr 1 (s1.1.flatMap eI.o) [])), (2073, .r (.arr 1 (s10.1.flatMap eI.o) [])), (2075, .r (.arr 1 (s18.2.2.1.flatMap (eS eI).o) [])), (2151, .r (.arr 1 ((s18.1 ++ ([y24] : List Int)).flatMap eI.o) [])), (2177, .r (.arr 1 ((s18.2.1 ++ ([y26] : List Int)).flatMap eI.o) [])), (2241, .r (.arr 1 ((s28.1 ++ ([y35] : List Int)).flatMap eI.o) []))]) (by kernel_rfl)) ?_
            refine TrL.by (imp_rename (r := 1120) (q := 1090) (by kernel_rfl) (Nat.le_of_ble_eq_true rfl)) ?_
            exact trl_start (ks := [2, 4, 8, 10, 14, 18, 20, 22, 2005, 2009, 2015, 2027, 2073, 2075, 2151, 2177, 2181]) (by kernel_rfl) (ih30 (s28.1 ++ ([y35] : List Int), IntKind.i64.wrap (s28.2 + 1)) hM)
        · have hM := ite_false' hM h32
          refine tr_condFe (e := decide (s28.2 < (s1.1.length : Int))) h32 (by kernel_rfl) ?_
          refine tr_exit (q_x (l_x (b_h (q_n ?_))))
          obtain ⟨h40, hM⟩ := chk_some hM
          refine tr_r hT hm [(4, .app true)] [2, 4, 8, 10, 14, 18, 2005, 2009, 2015, 2027, 2073, 2151, 2177, 2181, 2251] [(2, .d (.sl a1.length 0 (a1.flatMap eI.b))), (4, .d (.rp 1002 0)), (8, .d (.rp 1004 0)), (10, .d (.rs 1013 0 s1.1.length)), (14, .d (.rp 1007 0)), (18, .d (iv s18.2.2.2)), bxB 2005 (eXCategory.b a0), (2009, .r (.arr 1 [iv 0, nilv, nilv, nilv, nilv] [])), (2015, .r (.arr 1 [iv a0.Objects, .rs 1075 0 ((s18.1 ++ ([y24] : List Int)).length), .rs 1088 0 ((s18.2.1 ++ ([y26] : List Int)).length), .rs 1036 0 s10.1.length, .rs 1125 0 (s18.2.2.1.length + 1)] [1075, 1088, 1036, 1037, 1125])), (2027, .r (.arr 1 (s1.1.flatMap eI.o) [])), (2073, .r (.arr 1 (s10.1.flatMap eI.o) [])), (2151, .r (.arr 1 ((s18.1 ++ ([y24] : List Int)).flatMap eI.o) [])), (2177, .r (.arr 1 ((s18.2.1 ++ ([y26] : List Int)).flatMap eI.o) [])), (2181, .r (.arr 1 (s28.1.flatMap eI.o) [])), (2251, .r (.arr 1 (s18.2.2.1.flatMap (eS eI).o ++ [.rs 1090 0 s28.1.length]) [1090]))] (.cons (lenO_flat (eS_ok eI_ok) s18.2.2.1) (.cons (by kernel_rfl : ([.rs 1090 0 s28.1.length] : List D).length = 1 * 1) (.cons h40 (.cons (Nat.le_of_ble_eq_true (n := 5) (m := 5) rfl) .nil)))) (by kernel_rfl) (by kernel_rfl) (b_n (q_n ?_))
          refine Tr.by (imp_demE (r := 1125) (q := 1090) (sz := 1) (n := s28.1.length) (j := 0) (pre := s18.2.2.1.flatMap (eS eI).o) (l := [.rs 1090 0 s28.1.length]) (refs := [1090]) (refs' := []) (menO_flat (eS_ok eI_ok) _) (lenO_flat eI_ok s28.1) (by kernel_rfl) (by kernel_rfl) (by kernel_rfl) (by kernel_rfl) (by kernel_rfl)) ?_
          refine Tr.by (imp_cvE (r := 1125) (sz := 1) (refs := []) (flat_snoc (eS eI).o s18.2.2.1 s28.1) (menO_flat (eS_ok eI_ok) _) (by kernel_rfl)) ?_
          refine Tr.by (imp_cvB (r := 1007) (sz := 1) (cells := [iv a0.Objects, .rs 1075 0 ((s18.1 ++ ([y24] : List Int)).length), .rs 1088 0 ((s18.2.1 ++ ([y26] : List Int)).length), .rs 1036 0 s10.1.length, .rs 1125 0 (s18.2.2.1.length + 1)]) (cells' := [iv a0.Objects, .rs 1075 0 ((s18.1 ++ ([y24] : List Int)).length), .rs 1088 0 ((s18.2.1 ++ ([y26] : List Int)).length), .rs 1036 0 s10.1.length, .rs 1125 0 ((s18.2.2.1 ++ [s28.1]).length)]) (refs := [1075, 1088, 1036, 1037, 1125]) (refs' := [1075, 1088, 1036, 1037, 1125]) (.cons (.refl _) (.cons (.refl _) (.cons (.refl _) (.cons (.refl _) (.cons (Sub.of_eq (congrArg (D.rs 1125 0) ((len_snoc s18.2.2.1 s28.1) : s18.2.2.1.length + 1 = (s18.2.2.1 ++ [s28.1]).length))) .nil))))) (by kernel_rfl) (by kernel_rfl) (by kernel_rfl)) ?_
          refine tr_r hT hm [] [2, 4, 8, 10, 14, 18, 2005, 2009, 2015, 2027, 2073, 2151, 2177, 2251] [(2, .d (.sl a1.length 0 (a1.flatMap eI.b))), (4, .d (.rp 1002 0)), (8, .d (.rp 1004 0)), (10, .d (.rs 1013 0 s1.1.length)), (14, .d (.rp 1007 0)), (18, .d (iv (IntKind.i64.wrap (s18.2.2.2 + 1)))), bxB 2005 (eXCategory.b a0), (2009, .r (.arr 1 [iv 0, nilv, nilv, nilv, nilv] [])), (2015, .r (.arr 1 [iv a0.Objects, .rs 1075 0 ((s18.1 ++ ([y24] : List Int)).length), .rs 1088 0 ((s18.2.1 ++ ([y26] : List Int)).length), .rs 1036 0 s10.1.length, .rs 1125 0 ((s18.2.2.1 ++ [s28.1]).length)] [1075, 1088, 1036, 1037, 1125])), (2027, .r (.arr 1 (s1.1.flatMap eI.o) [])), (2073, .r (.arr 1 (s10.1.flatMap eI.o) [])), (2151, .r (.arr 1 ((s18.1 ++ ([y24] : List Int)).flatMap eI.o) [])), (2177, .r (.arr 1 ((s18.2.1 ++ ([y26] : List Int)).flatMap eI.o) [])), (2251, .r (.arr 1 ((s18.2.2.1 ++ [s28.1]).flatMap (eS eI).o) []))] .nil (by kernel_rfl) (by kernel_rfl) (l_n ?_)
          refine TrL.by (imp_cvB (r := 1007) (sz := 1) (cells := [iv a0.Objects, .rs 1075 0 ((s18.1 ++ ([y24] : List Int)).length), .rs 1088 0 ((s18.2.1 ++ ([y26] : List Int)).length), .rs 1036 0 s10.1.length, .rs 1125 0 ((s18.2.2.1 ++ [s28.1]).length)]) (cells' := [iv a0.Objects, .rs 1075 0 ((s18.1 ++ ([y24] : List Int)).length), .rs 1088 0 ((s18.2.1 ++ ([y26] : List Int)).length), .rs 1036 0 s10.1.length, .rs 1125 0 ((s18.2.2.1 ++ [s28.1]).length)]) (refs := [1075, 1088, 1036, 1037, 1125]) (refs' := [1075, 1088, 1036, 1125]) (.cons (.refl _) (.cons (.refl _) (.cons (.refl _) (.cons (.refl _) (.cons (.refl _) .nil))))) (by kernel_rfl) (by kernel_rfl) (by kernel_rfl)) ?_
          refine TrL.by (imp_sel (ks := [2, 4, 8, 10, 14, 18, 2005, 2009, 2015, 2027, 2073, 2151, 2177, 2251]) (st' := [(2, .d (.sl a1.length 0 (a1.flatMap eI.b))), (4, .d (.rp 1002 0)), (8, .d (.rp 1004 0)), (10, .d (.rs 1013 0 s1.1.length)), (14, .d (.rp 1007 0)), (18, .d (iv (IntKind.i64.wrap (s18.2.2.2 + 1)))), bxB 2005 (eXCategory.b a0), (2009, .r (.arr 1 [iv 0, nilv, nilv, nilv, nilv] [])), (2015, .r (.arr 1 [iv a0.Objects, .rs 1075 0 ((s18.1 ++ ([y24] : List Int)).length), .rs 1088 0 ((s18.2.1 ++ ([y26] : List Int)).length), .rs 1036 0 s10.1.length, .rs 1125 0 ((s18.2.2.1 ++ [s28.1]).length)] [1075, 1088, 1036, 1125])), (2027, .r (.arr 1 (s1.1.flatMap eI.o) [])), (2073, .r (.arr 1 (s10.1.flatMap eI.o) [])), (2151, .r (.arr 1 ((s18.1 ++ ([y24] : List Int)).flatMap eI.o) [])), (2177, .r (.arr 1 ((s18.2.1 ++ ([y26] : List Int)).flatMap eI.o) [])), (2251, .r (.arr 1 ((s18.2.2.1 ++ [s28.1]).flatMap (eS eI).o) []))]) (by kernel_rfl)) ?_
          refine TrL.by (imp_rename (r := 1075) (q := 1034) (by kernel_rfl) (Nat.le_of_ble_eq_true rfl)) ?_
          refine TrL.by (imp_rename (r := 1088) (q := 1035) (by kernel_rfl) (Nat.le_of_ble_eq_true rfl)) ?_
          refine TrL.by (imp_rename (r := 1125) (q := 1037) (by kernel_rfl) (Nat.le_of_ble_eq_true rfl)) ?_
          exact trl_start (ks := [2, 4, 8, 10, 14, 18, 2005, 2009, 2015, 2027, 2069, 2071, 2073, 2075]) (by kernel_rfl) (ih20 (s18.1 ++ ([y24] : List Int), s18.2.1 ++ ([y26] : List Int), s18.2.2.1 ++ [s28.1], IntKind.i64.wrap (s18.2.2.2 + 1)) hM)
      · have hM := ite_false' hM h22
        refine tr_condFe (e := decide (s18.2.2.2 < (s1.1.length : Int))) h22 (by kernel_rfl) ?_
        refine tr_exit (q_x (l_x (b_h (q_n ?_))))
        refine tr_sr hT hm [] [8, 2009, 2069, 2071, 2073, 2075] [(8, .d (.rp 1004 0)), (2009, .r (.arr 1 [iv a0.Objects, .rs 1034 0 s18.1.length, .rs 1035 0 s18.2.1.length, .rs 1036 0 s10.1.length, .rs 1037 0 s18.2.2.1.length] [1034, 1035, 1036, 1037])), (2069, .r (.arr 1 (s18.1.flatMap eI.o) [])), (2071, .r (.arr 1 (s18.2.1.flatMap eI.o) [])), (2073, .r (.arr 1 (s10.1.flatMap eI.o) [])), (2075, .r (.arr 1 (s18.2.2.1.flatMap (eS eI).o) []))] (.cons (Nat.le_of_ble_eq_true (n := 5) (m := 5) rfl) .nil) (by kernel_rfl) (by kernel_rfl) ?_
        refine tr_ret (rg_r ?_)
        obtain rfl := Option.some.inj hM
        exact retg (names := []) (.cons (lenO_flat eI_ok s18.1) (.cons (lenO_flat eI_ok s18.2.1) (.cons (lenO_flat eI_ok s10.1) (.cons (lenO_flat (eS_ok eI_ok) s18.2.2.1) .nil)))) (by kernel_rfl)

theorem ok123 : CallOk Try.prog 123 := callOk_of Try.func123 (by kernel_rfl) (by kernel_rfl)
theorem spec_QuotientCategory_c (a0 : XCategory) (a1 : List Int) (r : XCategory × Int) (hM : M.spec_QuotientCategory a0 a1 = some r) :
    FnC Try.prog 123 [] [.agg (eXCategory.b a0), .sl a1.length 0 (a1.flatMap eI.b)] [] (.tup [.agg (eXCategory.o r.1), iv r.2]) := by
  refine fnc_startG (N := 19) (np := 500) hT Try.func123 rfl rfl (by kernel_rfl) ?_
  unfold M.spec_QuotientCategory at hM
  refine tr_start (ks := [0, 2]) (st' := [(0, .d (.agg (eXCategory.b a0))), (2, .d (.sl a1.length 0 (a1.flatMap eI.b)))]) (by kernel_rfl) ?_
  refine tr_sr hT hm [] [2, 4, 8, 2005, 2009] [(2, .d (.sl a1.length 0 (a1.flatMap eI.b))), (4, .d (.rp 1002 0)), (8, .d (.rp 1004 0)), bxB 2005 (eXCategory.b a0), (2009, .r (.arr 1 [iv 0, nilv, nilv, nilv, nilv] []))] .nil (by kernel_rfl) (by kernel_rfl) ?_
  refine tr_seq ?_
  obtain ⟨v1, hv1, hM⟩ := bind_some' hM
  rcases Bool.eq_false_or_eq_true v1 with h2 | h2
  · have hM := ite_true' hM h2
    obtain ⟨v3, hv3, hM⟩ := bind_some' hM
    refine tr_sr hT hm [(1, .call [] [] [.agg (eXCategory.b a0)] [] (bv v1)), (3, .val (bv false)), (6, .call [] [] [.agg (eXCategory.b a0), .sl a1.length 0 (a1.flatMap eI.b)] [] (bv v3))] [2, 4, 8, 28, 2005, 2009] [(2, .d (.sl a1.length 0 (a1.flatMap eI.b))), (4, .d (.rp 1002 0)), (8, .d (.rp 1004 0)), (28, .d (bv (!v3))), bxB 2005 (eXCategory.b a0), (2009, .r (.arr 1 [iv 0, nilv, nilv, nilv, nilv] []))] (cc0 ok107 (spec_l02Is_c a0 _ hv1) (by kernel_rfl) (.cons (congrArg (fun b => bv b) (congrArg not h2)) (cc0 ok206 (spec_l03Congruence_c a0 a1 _ hv3) (by kernel_rfl) .nil))) (by kernel_rfl) (by kernel_rfl) ?_
    rcases Bool.eq_false_or_eq_true v3 with h4 | h4
    · have hM := ite_true' hM h4
      refine tr_condFe (e := !v3) (congrArg not h4) (by kernel_rfl) ?_
      refine tr_skip (q_n ?_)
      obtain ⟨v5, hv5, hM⟩ := bind_some' hM
      refine tr_sr hT hm [(2, .call [] [] [.agg (eXCategory.b a0), .sl a1.length 0 (a1.flatMap eI.b)] [] (.agg (eXCategory.o v5)))] [8, 10, 2009, 40003, 40005, 40007, 40009] ([(8, .d (.rp 1004 0)), (10, .d (iv 0)), bxO 2009 20000 (eXCategory.o v5)] ++ rsS 20000 (eXCategory.o v5)) (cc0 ok207 (spec_l03Quotient_c a0 a1 _ hv5) (by kernel_rfl) (.cons (Nat.le_of_ble_eq_true (n := 5) (m := 5) rfl) .nil)) (by kernel_rfl) (by kernel_rfl) ?_
      refine tr_ret (rg_r ?_)
      obtain rfl := Option.some.inj hM
      exact retg (names := []) (.cons (lenO_flat eI_ok v5.From) (.cons (lenO_flat eI_ok v5.To) (.cons (lenO_flat eI_ok v5.Identity) (.cons (lenO_flat (eS_ok eI_ok) v5.Composites) .nil)))) (by kernel_rfl)
    · have hM := ite_false' hM h4
      refine tr_condTe (e := !v3) (congrArg not h4) (by kernel_rfl) ?_
      refine tr_sr hT hm [] [8, 10, 2009] [(8, .d (.rp 1004 0)), (10, .d (iv 1)), (2009, .r (.arr 1 [iv 0, nilv, nilv, nilv, nilv] []))] (.cons (Nat.le_of_ble_eq_true (n := 5) (m := 5) rfl) .nil) (by kernel_rfl) (by kernel_rfl) ?_
      refine tr_ret (q_r (rg_r ?_))
      refine RetG.by (imp_cvB (r := 1004) (sz := 1) (cells := [iv 0, nilv, nilv, nilv, nilv]) (cells' := [iv 0, .fr 1 ([] : List Int).length (([] : List Int).flatMap eI.o), .fr 1 ([] : List Int).length (([] : List Int).flatMap eI.o), .fr 1 ([] : List Int).length (([] : List Int).flatMap eI.o), .fr 1 ([] : List (List Int)).length (([] : List (List Int)).flatMap (eS eI).o)]) (refs := []) (refs' := []) (.cons (.refl _) (.cons Sub.nil_fr (.cons Sub.nil_fr (.cons Sub.nil_fr (.cons Sub.nil_fr .nil))))) (by kernel_rfl) (by kernel_rfl) (by kernel_rfl)) ?_
      obtain rfl := Option.some.inj hM
      exact retg (names := []) .nil (by kernel_rfl)
  · have hM := ite_false' hM h2
    refine tr_sr hT hm [(1, .call [] [] [.agg (eXCategory.b a0)] [] (bv v1)), (3, .val (bv true))] [2, 4, 8, 28, 2005, 2009] [(2, .d (.sl a1.length 0 (a1.flatMap eI.b))), (4, .d (.rp 1002 0)), (8, .d (.rp 1004 0)), (28, .d (bv true)), bxB 2005 (eXCategory.b a0), (2009, .r (.arr 1 [iv 0, nilv, nilv, nilv, nilv] []))] (cc0 ok107 (spec_l02Is_c a0 _ hv1) (by kernel_rfl) (.cons (congrArg (fun b => bv b) (congrArg not h2)) .nil)) (by kernel_rfl) (by kernel_rfl) ?_
    refine tr_condT (by kernel_rfl) ?_
    refine tr_sr hT hm [] [8, 10, 2009] [(8, .d (.rp 1004 0)), (10, .d (iv 1)), (2009, .r (.arr 1 [iv 0, nilv, nilv, nilv, nilv] []))] (.cons (Nat.le_of_ble_eq_true (n := 5) (m := 5) rfl) .nil) (by kernel_rfl) (by kernel_rfl) ?_
    refine tr_ret (q_r (rg_r ?_))
    refine RetG.by (imp_cvB (r := 1004) (sz := 1) (cells := [iv 0, nilv, nilv, nilv, nilv]) (cells' := [iv 0, .fr 1 ([] : List Int).length (([] : List Int).flatMap eI.o), .fr 1 ([] : List Int).length (([] : List Int).flatMap eI.o), .fr 1 ([] : List Int).length (([] : List Int).flatMap eI.o), .fr 1 ([] : List (List Int)).length (([] : List (List Int)).flatMap (eS eI).o)]) (refs := []) (refs' := []) (.cons (.refl _) (.cons Sub.nil_fr (.cons Sub.nil_fr (.cons Sub.nil_fr (.cons Sub.nil_fr .nil))))) (by kernel_rfl) (by kernel_rfl) (by kernel_rfl)) ?_
    obtain rfl := Option.some.inj hM
    exact retg (names := []) .nil (by kernel_rfl)

end Go.Proofs.Ytiikkfdehbcfaaa.Wz21
