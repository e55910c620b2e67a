/- Walks. Printed by wip/gen. -/
import Derived.Test.YtiikkfdehbcfaaaGxz15W
namespace Go.Proofs.Ytiikkfdehbcfaaa.Wz15
open Go.Gx Go.Proofs.Ytiikkfdehbcfaaa.WvB Go.Proofs.Ytiikkfdehbcfaaa.WyN Go.Proofs.Ytiikkfdehbcfaaa.WzS Go.Proofs.Ytiikkfdehbcfaaa.WzT Go.Proofs.Ytiikkfdehbcfaaa.WzC Go.Proofs.Ytiikkfdehbcfaaa.WvI Go.Proofs.Ytiikkfdehbcfaaa.WzU Go.Proofs.Ytiikkfdehbcfaaa.WzV Go.Proofs.Ytiikkfdehbcfaaa.WzA

theorem ok190 : CallOk Try.prog 190 := callOk_of Try.func190 (by kernel_rfl) (by kernel_rfl)
theorem spec_l11Classes_c (a0 : XCategory) (r : (List Int)) (hM : M.spec_l11Classes a0 = some r) :
    FnC Try.prog 190 [] [.agg (eXCategory.b a0)] [] (.fr 1 r.length (r.flatMap eI.o)) := by
  refine fnc_startG (N := 32) (np := 500) hT Try.func190 rfl rfl (by kernel_rfl) ?_
  unfold M.spec_l11Classes at hM
  refine tr_start (ks := [0]) (st' := [(0, .d (.agg (eXCategory.b a0)))]) (by kernel_rfl) ?_
  refine tr_sr hT hm [] [2, 2003] [(2, .d (.rp 1001 0)), bxB 2003 (eXCategory.b a0)] .nil (by kernel_rfl) (by kernel_rfl) ?_
  refine tr_sr hT hm [] [2, 6, 2003, 2013] [(2, .d (.rp 1001 0)), (6, .d (.rs 1006 0 (([] : List (List Int)).length))), bxB 2003 (eXCategory.b a0), (2013, .r (.arr 1 (([] : List (List Int)).flatMap (eS eI).o) []))] .nil (by kernel_rfl) (by kernel_rfl) ?_
  refine tr_seq ?_
  refine tr_sr hT hm [] [2, 6, 8, 2003, 2013] [(2, .d (.rp 1001 0)), (6, .d (.rs 1006 0 (([] : List (List Int)).length))), (8, .d (iv 0)), bxB 2003 (eXCategory.b a0), (2013, .r (.arr 1 (([] : List (List Int)).flatMap (eS eI).o) []))] .nil (by kernel_rfl) (by kernel_rfl) ?_
  refine tr_block ?_
  refine tr_iterS (fun (s1 : (List (List Int)) × Int) => [(2, .d (.rp 1001 0)), (6, .d (.rs 1006 0 s1.1.length)), (8, .d (iv s1.2)), bxB 2003 (eXCategory.b a0), (2013, .r (.arr 1 (s1.1.flatMap (eS eI).o) []))]) (([] : List (List Int)), 0) [2, 6, 8, 2003, 2013] (by kernel_rfl) hM ?_
  intro n4 next2 ih3 s1 hM
  refine tr_seq ?_
  refine tr_sr hT hm [] [2, 6, 8, 20, 2003, 2013] [(2, .d (.rp 1001 0)), (6, .d (.rs 1006 0 s1.1.length)), (8, .d (iv s1.2)), (20, .d (bv (decide (s1.2 < a0.Objects)))), bxB 2003 (eXCategory.b a0), (2013, .r (.arr 1 (s1.1.flatMap (eS eI).o) []))] .nil (by kernel_rfl) (by kernel_rfl) ?_
  rcases Bool.eq_false_or_eq_true (decide (s1.2 < a0.Objects)) with h5 | h5
  · have hM := ite_true' hM h5
    refine tr_condTe (e := decide (s1.2 < a0.Objects)) h5 (by kernel_rfl) ?_
    refine tr_skip (q_n ?_)
    refine tr_seq ?_
    refine tr_block ?_
    refine tr_sr hT hm [] [2, 6, 8, 10, 2003, 2013] [(2, .d (.rp 1001 0)), (6, .d (.rs 1006 0 s1.1.length)), (8, .d (iv s1.2)), (10, .d (iv 0)), bxB 2003 (eXCategory.b a0), (2013, .r (.arr 1 (s1.1.flatMap (eS eI).o) []))] .nil (by kernel_rfl) (by kernel_rfl) ?_
    refine tr_block ?_
    refine tr_iterS (fun (s6 : (List (List Int)) × Int) => [(2, .d (.rp 1001 0)), (6, .d (.rs 1006 0 s6.1.length)), (8, .d (iv s1.2)), (10, .d (iv s6.2)), bxB 2003 (eXCategory.b a0), (2013, .r (.arr 1 (s6.1.flatMap (eS eI).o) []))]) (s1.1, 0) [2, 6, 8, 10, 2003, 2013] (by kernel_rfl) hM ?_
    intro n9 next7 ih8 s6 hM
    refine tr_seq ?_
    refine tr_sr hT hm [] [2, 6, 8, 10, 30, 2003, 2013] [(2, .d (.rp 1001 0)), (6, .d (.rs 1006 0 s6.1.length)), (8, .d (iv s1.2)), (10, .d (iv s6.2)), (30, .d (bv (decide (s6.2 < s1.2)))), bxB 2003 (eXCategory.b a0), (2013, .r (.arr 1 (s6.1.flatMap (eS eI).o) []))] .nil (by kernel_rfl) (by kernel_rfl) ?_
    rcases Bool.eq_false_or_eq_true (decide (s6.2 < s1.2)) with h10 | h10
    · have hM := ite_true' hM h10
      refine tr_condTe (e := decide (s6.2 < s1.2)) h10 (by kernel_rfl) ?_
      refine tr_skip (q_n ?_)
      refine tr_seq ?_
      refine tr_block ?_
      obtain ⟨v11, hv11, hM⟩ := bind_some' hM
      refine tr_sr hT hm [(3, .call [] [] [.agg (eXCategory.b a0), iv s1.2, iv s6.2] [] (bv v11))] [2, 6, 8, 10, 42, 2003, 2013] [(2, .d (.rp 1001 0)), (6, .d (.rs 1006 0 s6.1.length)), (8, .d (iv s1.2)), (10, .d (iv s6.2)), (42, .d (bv v11)), bxB 2003 (eXCategory.b a0), (2013, .r (.arr 1 (s6.1.flatMap (eS eI).o) []))] (cc0 ok258 (spec_l06Alike_c a0 s1.2 s6.2 _ hv11) (by kernel_rfl) .nil) (by kernel_rfl) (by kernel_rfl) ?_
      rcases Bool.eq_false_or_eq_true v11 with h12 | h12
      · have hM := ite_true' hM h12
        refine tr_condTe (e := v11) h12 (by kernel_rfl) ?_
        obtain ⟨h13, hM⟩ := chk_some hM
        refine tr_r hT hm [(5, .app true)] [2, 6, 8, 10, 2003, 2051, 2055] [(2, .d (.rp 1001 0)), (6, .d (.rs 1027 0 (s6.1.length + 1))), (8, .d (iv s1.2)), (10, .d (iv s6.2)), bxB 2003 (eXCategory.b a0), (2051, .r (.arr 1 (([s6.2, s1.2] : List Int).flatMap eI.o) [])), (2055, .r (.arr 1 (s6.1.flatMap (eS eI).o ++ [.rs 1025 0 (([s6.2, s1.2] : List Int).length)]) [1025]))] (.cons (lenO_flat (eS_ok eI_ok) s6.1) (.cons (by kernel_rfl : ([.rs 1025 0 (([s6.2, s1.2] : List Int).length)] : List D).length = 1 * 1) (.cons h13 .nil))) (by kernel_rfl) (by kernel_rfl) (b_n (q_n ?_))
        refine Tr.by (imp_demE (r := 1027) (q := 1025) (sz := 1) (n := (([s6.2, s1.2] : List Int).length)) (j := 0) (pre := s6.1.flatMap (eS eI).o) (l := [.rs 1025 0 (([s6.2, s1.2] : List Int).length)]) (refs := [1025]) (refs' := []) (menO_flat (eS_ok eI_ok) _) (lenO_flat eI_ok ([s6.2, s1.2] : List Int)) (by kernel_rfl) (by kernel_rfl) (by kernel_rfl) (by kernel_rfl) (by kernel_rfl)) ?_
        refine Tr.by (imp_cvE (r := 1027) (sz := 1) (refs := []) (flat_snoc (eS eI).o s6.1 [s6.2, s1.2]) (menO_flat (eS_ok eI_ok) _) (by kernel_rfl)) ?_
        refine Tr.by (imp_cvD (k := 6) (congrArg (D.rs 1027 0) ((len_snoc s6.1 [s6.2, s1.2]) : s6.1.length + 1 = (s6.1 ++ [[s6.2, s1.2]]).length)) (by kernel_rfl)) ?_
        refine tr_r hT hm [] [2, 6, 8, 10, 2003, 2055] [(2, .d (.rp 1001 0)), (6, .d (.rs 1027 0 ((s6.1 ++ [[s6.2, s1.2]]).length))), (8, .d (iv s1.2)), (10, .d (iv (IntKind.i64.wrap (s6.2 + 1)))), bxB 2003 (eXCategory.b a0), (2055, .r (.arr 1 ((s6.1 ++ [[s6.2, s1.2]]).flatMap (eS eI).o) []))] .nil (by kernel_rfl) (by kernel_rfl) (l_n ?_)
        refine TrL.by (imp_sel (ks := [2, 6, 8, 10, 2003, 2055]) (st' := [(2, .d (.rp 1001 0)), (6, .d (.rs 1027 0 ((s6.1 ++ [[s6.2, s1.2]]).length))), (8, .d (iv s1.2)), (10, .d (iv (IntKind.i64.wrap (s6.2 + 1)))), bxB 2003 (eXCategory.b a0), (2055, .r (.arr 1 ((s6.1 ++ [[s6.2, s1.2]]).flatMap (eS eI).o) []))]) (by kernel_rfl)) ?_
        refine TrL.by (imp_rename (r := 1027) (q := 1006) (by kernel_rfl) (Nat.le_of_ble_eq_true rfl)) ?_
        exact trl_start (ks := [2, 6, 8, 10, 2003, 2013]) (by kernel_rfl) (ih8 (s6.1 ++ [[s6.2, s1.2]], IntKind.i64.wrap (s6.2 + 1)) hM)
      · have hM := ite_false' hM h12
        refine tr_condFe (e := v11) h12 (by kernel_rfl) ?_
        refine tr_skip (b_n (q_n ?_))
        refine tr_r hT hm [] [2, 6, 8, 10, 2003, 2013] [(2, .d (.rp 1001 0)), (6, .d (.rs 1006 0 s6.1.length)), (8, .d (iv s1.2)), (10, .d (iv (IntKind.i64.wrap (s6.2 + 1)))), bxB 2003 (eXCategory.b a0), (2013, .r (.arr 1 (s6.1.flatMap (eS eI).o) []))] .nil (by kernel_rfl) (by kernel_rfl) (l_n ?_)
        exact trl_start (ks := [2, 6, 8, 10, 2003, 2013]) (by kernel_rfl) (ih8 (s6.1, IntKind.i64.wrap (s6.2 + 1)) hM)
    · have hM := ite_false' hM h10
      refine tr_condFe (e := decide (s6.2 < s1.2)) h10 (by kernel_rfl) ?_
      refine tr_exit (q_x (l_x (b_h (b_n (q_n ?_)))))
      refine tr_r hT hm [] [2, 6, 8, 2003, 2013] [(2, .d (.rp 1001 0)), (6, .d (.rs 1006 0 s6.1.length)), (8, .d (iv (IntKind.i64.wrap (s1.2 + 1)))), bxB 2003 (eXCategory.b a0), (2013, .r (.arr 1 (s6.1.flatMap (eS eI).o) []))] .nil (by kernel_rfl) (by kernel_rfl) (l_n ?_)
      exact trl_start (ks := [2, 6, 8, 2003, 2013]) (by kernel_rfl) (ih3 (s6.1, IntKind.i64.wrap (s1.2 + 1)) hM)
  · have hM := ite_false' hM h5
    refine tr_condFe (e := decide (s1.2 < a0.Objects)) h5 (by kernel_rfl) ?_
    refine tr_exit (q_x (l_x (b_h (q_n ?_))))
    obtain ⟨v14, hv14, hM⟩ := bind_some' hM
    refine tr_sr hT hm [(3, .call [1006] [] [iv a0.Objects, .sl s1.1.length 0 (s1.1.flatMap (eS eI).b)] [] (.fr 1 v14.length (v14.flatMap eI.o)))] [4, 66001] [(4, .d (.rs 33000 0 v14.length)), (66001, .r (.arr 1 (v14.flatMap eI.o) []))] (cc (B := [1006]) (ρ := []) (rB := [(1006, .arr 1 (s1.1.flatMap (eS eI).o) [])]) ok215 (spec_l01Join_c a0.Objects s1.1 _ hv14) (.cons (.same rfl) (.cons (.of1 (.rs (r := 1006) (sz := 1) (refs := []) (memB (by kernel_rfl)) (by kernel_rfl) (bor_flat (eS_ok eI_ok) _ _ _))) .nil)) (.inr ⟨(.fr (nb_flat eI_nb _)), trivial⟩) .nil) (by kernel_rfl) (by kernel_rfl) ?_
    refine tr_ret (rg_r ?_)
    obtain rfl := Option.some.inj hM
    exact retg (names := []) (.cons (lenO_flat eI_ok v14) .nil) (by kernel_rfl)

theorem ok108 : CallOk Try.prog 108 := callOk_of Try.func108 (by kernel_rfl) (by kernel_rfl)
theorem spec_l11Skeleton_c (a0 : XCategory) (r : (List Int)) (hM : M.spec_l11Skeleton a0 = some r) :
    FnC Try.prog 108 [] [.agg (eXCategory.b a0)] [] (.fr 1 r.length (r.flatMap eI.o)) := by
  refine fnc_startG (N := 28) (np := 500) hT Try.func108 rfl rfl (by kernel_rfl) ?_
  unfold M.spec_l11Skeleton at hM
  refine tr_start (ks := [0]) (st' := [(0, .d (.agg (eXCategory.b a0)))]) (by kernel_rfl) ?_
  refine tr_sr hT hm [] [2, 2003] [(2, .d (.rp 1001 0)), bxB 2003 (eXCategory.b a0)] .nil (by kernel_rfl) (by kernel_rfl) ?_
  obtain ⟨v1, hv1, hM⟩ := bind_some' hM
  refine tr_sr hT hm [(1, .call [] [] [.agg (eXCategory.b a0)] [] (.fr 1 v1.length (v1.flatMap eI.o)))] [2, 6, 2003, 18001] [(2, .d (.rp 1001 0)), (6, .d (.rs 9000 0 v1.length)), bxB 2003 (eXCategory.b a0), (18001, .r (.arr 1 (v1.flatMap eI.o) []))] (cc0 ok190 (spec_l11Classes_c a0 _ hv1) (by kernel_rfl) .nil) (by kernel_rfl) (by kernel_rfl) ?_
  refine tr_sr hT hm [] [2, 6, 8, 2003, 2017, 18001] [(2, .d (.rp 1001 0)), (6, .d (.rs 9000 0 v1.length)), (8, .d (.rs 1008 0 (([] : List Int).length))), bxB 2003 (eXCategory.b a0), (2017, .r (.arr 1 (([] : List Int).flatMap eI.o) [])), (18001, .r (.arr 1 (v1.flatMap eI.o) []))] .nil (by kernel_rfl) (by kernel_rfl) ?_
  refine tr_seq ?_
  refine tr_sr hT hm [] [2, 6, 8, 10, 2003, 2017, 18001] [(2, .d (.rp 1001 0)), (6, .d (.rs 9000 0 v1.length)), (8, .d (.rs 1008 0 (([] : List Int).length))), (10, .d (iv 0)), bxB 2003 (eXCategory.b a0), (2017, .r (.arr 1 (([] : List Int).flatMap eI.o) [])), (18001, .r (.arr 1 (v1.flatMap eI.o) []))] .nil (by kernel_rfl) (by kernel_rfl) ?_
  refine tr_block ?_
  refine tr_iterS (fun (s2 : (List Int) × Int) => [(2, .d (.rp 1001 0)), (6, .d (.rs 9000 0 v1.length)), (8, .d (.rs 1008 0 s2.1.length)), (10, .d (iv s2.2)), bxB 2003 (eXCategory.b a0), (2017, .r (.arr 1 (s2.1.flatMap eI.o) [])), (18001, .r (.arr 1 (v1.flatMap eI.o) []))]) (([] : List Int), 0) [2, 6, 8, 10, 2003, 2017, 18001] (by kernel_rfl) hM ?_
  intro n5 next3 ih4 s2 hM
  refine tr_seq ?_
  refine tr_sr hT hm [] [2, 6, 8, 10, 24, 2003, 2017, 18001] [(2, .d (.rp 1001 0)), (6, .d (.rs 9000 0 v1.length)), (8, .d (.rs 1008 0 s2.1.length)), (10, .d (iv s2.2)), (24, .d (bv (decide (s2.2 < a0.Objects)))), bxB 2003 (eXCategory.b a0), (2017, .r (.arr 1 (s2.1.flatMap eI.o) [])), (18001, .r (.arr 1 (v1.flatMap eI.o) []))] .nil (by kernel_rfl) (by kernel_rfl) ?_
  rcases Bool.eq_false_or_eq_true (decide (s2.2 < a0.Objects)) with h6 | h6
  · have hM := ite_true' hM h6
    refine tr_condTe (e := decide (s2.2 < a0.Objects)) h6 (by kernel_rfl) ?_
    refine tr_skip (q_n ?_)
    refine tr_seq ?_
    refine tr_block ?_
    obtain ⟨y7, hy7, hM⟩ := bind_some' hM
    have hy7' := idx_some hy7
    obtain ⟨v8, hv8, hM⟩ := bind_some' hM
    refine tr_sr hT hm [(4, .val (iv y7)), (5, .call [9000] [] [.sl v1.length 0 (v1.flatMap eI.b), iv y7] [] (iv v8))] [2, 6, 8, 10, 44, 2003, 2017, 18001] [(2, .d (.rp 1001 0)), (6, .d (.rs 9000 0 v1.length)), (8, .d (.rs 1008 0 s2.1.length)), (10, .d (iv s2.2)), (44, .d (bv (v8 == s2.2))), bxB 2003 (eXCategory.b a0), (2017, .r (.arr 1 (s2.1.flatMap eI.o) [])), (18001, .r (.arr 1 (v1.flatMap eI.o) []))] (.cons hy7'.1 (.cons hy7'.2.1 (.cons (at_o0 eI_ok hy7'.2.2 (d := iv y7) (by kernel_rfl)) (cc (B := [9000]) (ρ := []) (rB := [(9000, .arr 1 (v1.flatMap eI.o) [])]) ok111 (spec_l01Index_c v1 y7 _ hv8) (.cons (.of1 (.rs (r := 9000) (sz := 1) (refs := []) (memB (by kernel_rfl)) (by kernel_rfl) (bor_flat eI_ok _ _ _))) (.cons (.same rfl) .nil)) (.inr ⟨.v, trivial⟩) .nil)))) (by kernel_rfl) (by kernel_rfl) ?_
    rcases Bool.eq_false_or_eq_true (v8 == s2.2) with h9 | h9
    · have hM := ite_true' hM h9
      refine tr_condTe (e := v8 == s2.2) h9 (by kernel_rfl) ?_
      obtain ⟨h10, hM⟩ := chk_some hM
      refine tr_r hT hm [(3, .app true)] [2, 6, 8, 10, 2003, 2053, 18001] [(2, .d (.rp 1001 0)), (6, .d (.rs 9000 0 v1.length)), (8, .d (.rs 1026 0 (s2.1.length + (([s2.2] : List Int).length)))), (10, .d (iv s2.2)), bxB 2003 (eXCategory.b a0), (2053, .r (.arr 1 (s2.1.flatMap eI.o ++ ([s2.2] : List Int).flatMap eI.o) [])), (18001, .r (.arr 1 (v1.flatMap eI.o) []))] (.cons (lenO_flat eI_ok s2.1) (.cons (lenO_flat eI_ok ([s2.2] : List Int)) (.cons h10 .nil))) (by kernel_rfl) (by kernel_rfl) (b_n (q_n ?_))
      refine Tr.by (imp_cvE (r := 1026) (sz := 1) (refs := []) (flat_app eI.o s2.1 ([s2.2] : List Int)) (menO_flat eI_ok _) (by kernel_rfl)) ?_
      refine Tr.by (imp_cvD (k := 8) (congrArg (D.rs 1026 0) ((len_app s2.1 ([s2.2] : List Int)) : s2.1.length + (([s2.2] : List Int).length) = (s2.1 ++ ([s2.2] : List Int)).length)) (by kernel_rfl)) ?_
      refine tr_r hT hm [] [2, 6, 8, 10, 2003, 2053, 18001] [(2, .d (.rp 1001 0)), (6, .d (.rs 9000 0 v1.length)), (8, .d (.rs 1026 0 ((s2.1 ++ ([s2.2] : List Int)).length))), (10, .d (iv (IntKind.i64.wrap (s2.2 + 1)))), bxB 2003 (eXCategory.b a0), (2053, .r (.arr 1 ((s2.1 ++ ([s2.2] : List Int)).flatMap eI.o) [])), (18001, .r (.arr 1 (v1.flatMap eI.o) []))] .nil (by kernel_rfl) (by kernel_rfl) (l_n ?_)
      refine TrL.by (imp_sel (ks := [2, 6, 8, 10, 2003, 2053, 18001]) (st' := [(2, .d (.rp 1001 0)), (6, .d (.rs 9000 0 v1.length)), (8, .d (.rs 1026 0 ((s2.1 ++ ([s2.2] : List Int)).length))), (10, .d (iv (IntKind.i64.wrap (s2.2 + 1)))), bxB 2003 (eXCategory.b a0), (2053, .r (.arr 1 ((s2.1 ++ ([s2.2] : List Int)).flatMap eI.o) [])), (18001, .r (.arr 1 (v1.flatMap eI.o) []))]) (by kernel_rfl)) ?_
      refine TrL.by (imp_rename (r := 1026) (q := 1008) (by kernel_rfl) (Nat.le_of_ble_eq_true rfl)) ?_
      exact trl_start (ks := [2, 6, 8, 10, 2003, 2017, 18001]) (by kernel_rfl) (ih4 (s2.1 ++ ([s2.2] : List Int), IntKind.i64.wrap (s2.2 + 1)) hM)
    · have hM := ite_false' hM h9
      refine tr_condFe (e := v8 == s2.2) h9 (by kernel_rfl) ?_
      refine tr_skip (b_n (q_n ?_))
      refine tr_r hT hm [] [2, 6, 8, 10, 2003, 2017, 18001] [(2, .d (.rp 1001 0)), (6, .d (.rs 9000 0 v1.length)), (8, .d (.rs 1008 0 s2.1.length)), (10, .d (iv (IntKind.i64.wrap (s2.2 + 1)))), bxB 2003 (eXCategory.b a0), (2017, .r (.arr 1 (s2.1.flatMap eI.o) [])), (18001, .r (.arr 1 (v1.flatMap eI.o) []))] .nil (by kernel_rfl) (by kernel_rfl) (l_n ?_)
      exact trl_start (ks := [2, 6, 8, 10, 2003, 2017, 18001]) (by kernel_rfl) (ih4 (s2.1, IntKind.i64.wrap (s2.2 + 1)) hM)
  · have hM := ite_false' hM h6
    refine tr_condFe (e := decide (s2.2 < a0.Objects)) h6 (by kernel_rfl) ?_
    refine tr_exit (q_x (l_x (b_h (q_n ?_))))
    refine tr_sr hT hm [] [4, 2017] [(4, .d (.rs 1008 0 s2.1.length)), (2017, .r (.arr 1 (s2.1.flatMap eI.o) []))] .nil (by kernel_rfl) (by kernel_rfl) ?_
    refine tr_ret (rg_r ?_)
    obtain rfl := Option.some.inj hM
    exact retg (names := []) (.cons (lenO_flat eI_ok s2.1) .nil) (by kernel_rfl)

theorem ok110 : CallOk Try.prog 110 := callOk_of Try.func110 (by kernel_rfl) (by kernel_rfl)
theorem spec_l11Chosen_c (a0 : XCategory) (r : (List Int)) (hM : M.spec_l11Chosen a0 = some r) :
    FnC Try.prog 110 [] [.agg (eXCategory.b a0)] [] (.fr 1 r.length (r.flatMap eI.o)) := by
  refine fnc_startG (N := 41) (np := 500) hT Try.func110 rfl rfl (by kernel_rfl) ?_
  unfold M.spec_l11Chosen at hM
  refine tr_start (ks := [0]) (st' := [(0, .d (.agg (eXCategory.b a0)))]) (by kernel_rfl) ?_
  refine tr_sr hT hm [] [2, 2003] [(2, .d (.rp 1001 0)), bxB 2003 (eXCategory.b a0)] .nil (by kernel_rfl) (by kernel_rfl) ?_
  obtain ⟨v1, hv1, hM⟩ := bind_some' hM
  refine tr_sr hT hm [(1, .call [] [] [.agg (eXCategory.b a0)] [] (.fr 1 v1.length (v1.flatMap eI.o)))] [2, 6, 2003, 20001] [(2, .d (.rp 1001 0)), (6, .d (.rs 10000 0 v1.length)), bxB 2003 (eXCategory.b a0), (20001, .r (.arr 1 (v1.flatMap eI.o) []))] (cc0 ok190 (spec_l11Classes_c a0 _ hv1) (by kernel_rfl) .nil) (by kernel_rfl) (by kernel_rfl) ?_
  refine tr_sr hT hm [] [2, 6, 8, 2003, 2019, 20001] [(2, .d (.rp 1001 0)), (6, .d (.rs 10000 0 v1.length)), (8, .d (.rs 1009 0 (([] : List Int).length))), bxB 2003 (eXCategory.b a0), (2019, .r (.arr 1 (([] : List Int).flatMap eI.o) [])), (20001, .r (.arr 1 (v1.flatMap eI.o) []))] .nil (by kernel_rfl) (by kernel_rfl) ?_
  refine tr_seq ?_
  refine tr_sr hT hm [] [2, 6, 8, 10, 2003, 2019, 20001] [(2, .d (.rp 1001 0)), (6, .d (.rs 10000 0 v1.length)), (8, .d (.rs 1009 0 (([] : List Int).length))), (10, .d (iv 0)), bxB 2003 (eXCategory.b a0), (2019, .r (.arr 1 (([] : List Int).flatMap eI.o) [])), (20001, .r (.arr 1 (v1.flatMap eI.o) []))] .nil (by kernel_rfl) (by kernel_rfl) ?_
  refine tr_block ?_
  refine tr_iterS (fun (s2 : (List Int) × Int) => [(2, .d (.rp 1001 0)), (6, .d (.rs 10000 0 v1.length)), (8, .d (.rs 1009 0 s2.1.length)), (10, .d (iv s2.2)), bxB 2003 (eXCategory.b a0), (2019, .r (.arr 1 (s2.1.flatMap eI.o) [])), (20001, .r (.arr 1 (v1.flatMap eI.o) []))]) (([] : List Int), 0) [2, 6, 8, 10, 2003, 2019, 20001] (by kernel_rfl) hM ?_
  intro n5 next3 ih4 s2 hM
  refine tr_seq ?_
  refine tr_sr hT hm [] [2, 6, 8, 10, 26, 2003, 2019, 20001] [(2, .d (.rp 1001 0)), (6, .d (.rs 10000 0 v1.length)), (8, .d (.rs 1009 0 s2.1.length)), (10, .d (iv s2.2)), (26, .d (bv (decide (s2.2 < a0.Objects)))), bxB 2003 (eXCategory.b a0), (2019, .r (.arr 1 (s2.1.flatMap eI.o) [])), (20001, .r (.arr 1 (v1.flatMap eI.o) []))] .nil (by kernel_rfl) (by kernel_rfl) ?_
  rcases Bool.eq_false_or_eq_true (decide (s2.2 < a0.Objects)) with h6 | h6
  · have hM := ite_true' hM h6
    refine tr_condTe (e := decide (s2.2 < a0.Objects)) h6 (by kernel_rfl) ?_
    refine tr_skip (q_n ?_)
    refine tr_seq ?_
    refine tr_block ?_
    obtain ⟨y7, hy7, hM⟩ := bind_some' hM
    have hy7' := idx_some hy7
    obtain ⟨v8, hv8, hM⟩ := bind_some' hM
    refine tr_sr hT hm [(4, .val (iv y7)), (5, .call [10000] [] [.sl v1.length 0 (v1.flatMap eI.b), iv y7] [] (iv v8))] [2, 6, 8, 10, 12, 2003, 2019, 20001] [(2, .d (.rp 1001 0)), (6, .d (.rs 10000 0 v1.length)), (8, .d (.rs 1009 0 s2.1.length)), (10, .d (iv s2.2)), (12, .d (iv v8)), bxB 2003 (eXCategory.b a0), (2019, .r (.arr 1 (s2.1.flatMap eI.o) [])), (20001, .r (.arr 1 (v1.flatMap eI.o) []))] (.cons hy7'.1 (.cons hy7'.2.1 (.cons (at_o0 eI_ok hy7'.2.2 (d := iv y7) (by kernel_rfl)) (cc (B := [10000]) (ρ := []) (rB := [(10000, .arr 1 (v1.flatMap eI.o) [])]) ok111 (spec_l01Index_c v1 y7 _ hv8) (.cons (.of1 (.rs (r := 10000) (sz := 1) (refs := []) (memB (by kernel_rfl)) (by kernel_rfl) (bor_flat eI_ok _ _ _))) (.cons (.same rfl) .nil)) (.inr ⟨.v, trivial⟩) .nil)))) (by kernel_rfl) (by kernel_rfl) ?_
    refine tr_sr hT hm [] [2, 6, 8, 10, 12, 48, 2003, 2019, 20001] [(2, .d (.rp 1001 0)), (6, .d (.rs 10000 0 v1.length)), (8, .d (.rs 1009 0 s2.1.length)), (10, .d (iv s2.2)), (12, .d (iv v8)), (48, .d (bv (s2.2 == v8))), bxB 2003 (eXCategory.b a0), (2019, .r (.arr 1 (s2.1.flatMap eI.o) [])), (20001, .r (.arr 1 (v1.flatMap eI.o) []))] .nil (by kernel_rfl) (by kernel_rfl) ?_
    rcases Bool.eq_false_or_eq_true (s2.2 == v8) with h9 | h9
    · have hM := ite_true' hM h9
      refine tr_condTe (e := s2.2 == v8) h9 (by kernel_rfl) ?_
      obtain ⟨y10, hy10, hM⟩ := bind_some' hM
      have hy10' := idx_some hy10
      obtain ⟨h11, hM⟩ := chk_some hM
      refine tr_r hT hm [(5, .val (iv y10)), (7, .app true)] [2, 6, 8, 10, 2003, 2065, 20001] [(2, .d (.rp 1001 0)), (6, .d (.rs 10000 0 v1.length)), (8, .d (.rs 1032 0 (s2.1.length + (([y10] : List Int).length)))), (10, .d (iv s2.2)), bxB 2003 (eXCategory.b a0), (2065, .r (.arr 1 (s2.1.flatMap eI.o ++ ([y10] : List Int).flatMap eI.o) [])), (20001, .r (.arr 1 (v1.flatMap eI.o) []))] (.cons hy10'.1 (.cons hy10'.2.1 (.cons (at_b0 eI_ok hy10'.2.2 (d := iv y10) (by kernel_rfl)) (.cons (lenO_flat eI_ok s2.1) (.cons (lenO_flat eI_ok ([y10] : List Int)) (.cons h11 .nil)))))) (by kernel_rfl) (by kernel_rfl) (b_n (q_n ?_))
      refine Tr.by (imp_cvE (r := 1032) (sz := 1) (refs := []) (flat_app eI.o s2.1 ([y10] : List Int)) (menO_flat eI_ok _) (by kernel_rfl)) ?_
      refine Tr.by (imp_cvD (k := 8) (congrArg (D.rs 1032 0) ((len_app s2.1 ([y10] : List Int)) : s2.1.length + (([y10] : List Int).length) = (s2.1 ++ ([y10] : List Int)).length)) (by kernel_rfl)) ?_
      refine tr_r hT hm [] [2, 6, 8, 10, 2003, 2065, 20001] [(2, .d (.rp 1001 0)), (6, .d (.rs 10000 0 v1.length)), (8, .d (.rs 1032 0 ((s2.1 ++ ([y10] : List Int)).length))), (10, .d (iv (IntKind.i64.wrap (s2.2 + 1)))), bxB 2003 (eXCategory.b a0), (2065, .r (.arr 1 ((s2.1 ++ ([y10] : List Int)).flatMap eI.o) [])), (20001, .r (.arr 1 (v1.flatMap eI.o) []))] .nil (by kernel_rfl) (by kernel_rfl) (l_n ?_)
      refine TrL.by (imp_sel (ks := [2, 6, 8, 10, 2003, 2065, 20001]) (st' := [(2, .d (.rp 1001 0)), (6, .d (.rs 10000 0 v1.length)), (8, .d (.rs 1032 0 ((s2.1 ++ ([y10] : List Int)).length))), (10, .d (iv (IntKind.i64.wrap (s2.2 + 1)))), bxB 2003 (eXCategory.b a0), (2065, .r (.arr 1 ((s2.1 ++ ([y10] : List Int)).flatMap eI.o) [])), (20001, .r (.arr 1 (v1.flatMap eI.o) []))]) (by kernel_rfl)) ?_
      refine TrL.by (imp_rename (r := 1032) (q := 1009) (by kernel_rfl) (Nat.le_of_ble_eq_true rfl)) ?_
      exact trl_start (ks := [2, 6, 8, 10, 2003, 2019, 20001]) (by kernel_rfl) (ih4 (s2.1 ++ ([y10] : List Int), IntKind.i64.wrap (s2.2 + 1)) hM)
    · have hM := ite_false' hM h9
      refine tr_condFe (e := s2.2 == v8) h9 (by kernel_rfl) ?_
      obtain ⟨v12, hv12, hM⟩ := bind_some' hM
      obtain ⟨h13, hM⟩ := chk_some hM
      refine tr_r hT hm [(4, .call [] [] [.agg (eXCategory.b a0), iv s2.2, iv v8] [] (iv v12)), (6, .app true)] [2, 6, 8, 10, 2003, 2079, 20001] [(2, .d (.rp 1001 0)), (6, .d (.rs 10000 0 v1.length)), (8, .d (.rs 1039 0 (s2.1.length + (([v12] : List Int).length)))), (10, .d (iv s2.2)), bxB 2003 (eXCategory.b a0), (2079, .r (.arr 1 (s2.1.flatMap eI.o ++ ([v12] : List Int).flatMap eI.o) [])), (20001, .r (.arr 1 (v1.flatMap eI.o) []))] (cc0 ok191 (spec_l11Least_c a0 s2.2 v8 _ hv12) (by kernel_rfl) (.cons (lenO_flat eI_ok s2.1) (.cons (lenO_flat eI_ok ([v12] : List Int)) (.cons h13 .nil)))) (by kernel_rfl) (by kernel_rfl) (b_n (q_n ?_))
      refine Tr.by (imp_cvE (r := 1039) (sz := 1) (refs := []) (flat_app eI.o s2.1 ([v12] : List Int)) (menO_flat eI_ok _) (by kernel_rfl)) ?_
      refine Tr.by (imp_cvD (k := 8) (congrArg (D.rs 1039 0) ((len_app s2.1 ([v12] : List Int)) : s2.1.length + (([v12] : List Int).length) = (s2.1 ++ ([v12] : List Int)).length)) (by kernel_rfl)) ?_
      refine tr_r hT hm [] [2, 6, 8, 10, 2003, 2079, 20001] [(2, .d (.rp 1001 0)), (6, .d (.rs 10000 0 v1.length)), (8, .d (.rs 1039 0 ((s2.1 ++ ([v12] : List Int)).length))), (10, .d (iv (IntKind.i64.wrap (s2.2 + 1)))), bxB 2003 (eXCategory.b a0), (2079, .r (.arr 1 ((s2.1 ++ ([v12] : List Int)).flatMap eI.o) [])), (20001, .r (.arr 1 (v1.flatMap eI.o) []))] .nil (by kernel_rfl) (by kernel_rfl) (l_n ?_)
      refine TrL.by (imp_sel (ks := [2, 6, 8, 10, 2003, 2079, 20001]) (st' := [(2, .d (.rp 1001 0)), (6, .d (.rs 10000 0 v1.length)), (8, .d (.rs 1039 0 ((s2.1 ++ ([v12] : List Int)).length))), (10, .d (iv (IntKind.i64.wrap (s2.2 + 1)))), bxB 2003 (eXCategory.b a0), (2079, .r (.arr 1 ((s2.1 ++ ([v12] : List Int)).flatMap eI.o) [])), (20001, .r (.arr 1 (v1.flatMap eI.o) []))]) (by kernel_rfl)) ?_
      refine TrL.by (imp_rename (r := 1039) (q := 1009) (by kernel_rfl) (Nat.le_of_ble_eq_true rfl)) ?_
      exact trl_start (ks := [2, 6, 8, 10, 2003, 2019, 20001]) (by kernel_rfl) (ih4 (s2.1 ++ ([v12] : List Int), IntKind.i64.wrap (s2.2 + 1)) hM)
  · have hM := ite_false' hM h6
    refine tr_condFe (e := decide (s2.2 < a0.Objects)) h6 (by kernel_rfl) ?_
    refine tr_exit (q_x (l_x (b_h (q_n ?_))))
    refine tr_sr hT hm [] [4, 2019] [(4, .d (.rs 1009 0 s2.1.length)), (2019, .r (.arr 1 (s2.1.flatMap eI.o) []))] .nil (by kernel_rfl) (by kernel_rfl) ?_
    refine tr_ret (rg_r ?_)
    obtain rfl := Option.some.inj hM
    exact retg (names := []) (.cons (lenO_flat eI_ok s2.1) .nil) (by kernel_rfl)

theorem ok114 : CallOk Try.prog 114 := callOk_of Try.func114 (by kernel_rfl) (by kernel_rfl)
theorem spec_l11Part_c (a0 : XCategory) (r : XCategory) (hM : M.spec_l11Part a0 = some r) :
    FnC Try.prog 114 [] [.agg (eXCategory.b a0)] [] (.agg (eXCategory.o r)) := by
  refine fnc_startG (N := 9) (np := 500) hT Try.func114 rfl rfl (by kernel_rfl) ?_
  unfold M.spec_l11Part at hM
  refine tr_start (ks := [0]) (st' := [(0, .d (.agg (eXCategory.b a0)))]) (by kernel_rfl) ?_
  refine tr_sr hT hm [] [2, 4, 2003, 2005] [(2, .d (.rp 1001 0)), (4, .d (.rp 1002 0)), bxB 2003 (eXCategory.b a0), (2005, .r (.arr 1 [iv 0, nilv, nilv, nilv, nilv] []))] .nil (by kernel_rfl) (by kernel_rfl) ?_
  obtain ⟨v1, hv1, hM⟩ := bind_some' hM
  obtain ⟨v2, hv2, hM⟩ := bind_some' hM
  obtain ⟨v3, hv3, hM⟩ := bind_some' hM
  refine tr_sr hT hm [(3, .call [] [] [.agg (eXCategory.b a0)] [] (.fr 1 v1.length (v1.flatMap eI.o))), (4, .call [8000] [] [.agg (eXCategory.b a0), .sl v1.length 0 (v1.flatMap eI.b)] [] (.fr 1 v2.length (v2.flatMap eI.o))), (5, .call [9000] [] [.agg (eXCategory.b a0), .sl v2.length 0 (v2.flatMap eI.b)] [] (.agg (eXCategory.o v3)))] [4, 2005, 20003, 20005, 20007, 20009] ([(4, .d (.rp 1002 0)), bxO 2005 10000 (eXCategory.o v3)] ++ rsS 10000 (eXCategory.o v3)) (cc0 ok108 (spec_l11Skeleton_c a0 _ hv1) (by kernel_rfl) (cc (B := [8000]) (ρ := []) (rB := [(8000, .arr 1 (v1.flatMap eI.o) [])]) ok109 (spec_l02Full_c a0 v1 _ hv2) (.cons (.same rfl) (.cons (.of1 (.rs (r := 8000) (sz := 1) (refs := []) (memB (by kernel_rfl)) (by kernel_rfl) (bor_flat eI_ok _ _ _))) .nil)) (.inr ⟨(.fr (nb_flat eI_nb _)), trivial⟩) (cc (B := [9000]) (ρ := []) (rB := [(9000, .arr 1 (v2.flatMap eI.o) [])]) ok181 (spec_l02Part_c a0 v2 _ hv3) (.cons (.same rfl) (.cons (.of1 (.rs (r := 9000) (sz := 1) (refs := []) (memB (by kernel_rfl)) (by kernel_rfl) (bor_flat eI_ok _ _ _))) .nil)) (.inr ⟨(.agg (eXCategory_nb _)), trivial⟩) (.cons (Nat.le_of_ble_eq_true (n := 5) (m := 5) rfl) .nil)))) (by kernel_rfl) (by kernel_rfl) ?_
  refine tr_ret (rg_r ?_)
  obtain rfl := Option.some.inj hM
  exact retg (names := []) (.cons (lenO_flat eI_ok v3.From) (.cons (lenO_flat eI_ok v3.To) (.cons (lenO_flat eI_ok v3.Identity) (.cons (lenO_flat (eS_ok eI_ok) v3.Composites) .nil)))) (by kernel_rfl)

theorem ok50 : CallOk Try.prog 50 := callOk_of Try.func50 (by kernel_rfl) (by kernel_rfl)
theorem spec_SkeletonFunctor_c (a0 : XCategory) (r : XFunctor × Int) (hM : M.spec_SkeletonFunctor a0 = some r) :
    FnC Try.prog 50 [] [.agg (eXCategory.b a0)] [] (.tup [.agg (eXFunctor.o r.1), iv r.2]) := by
  refine fnc_startG (N := 86) (np := 500) hT Try.func50 rfl rfl (by kernel_rfl) ?_
  unfold M.spec_SkeletonFunctor at hM
  refine tr_start (ks := [0]) (st' := [(0, .d (.agg (eXCategory.b a0)))]) (by kernel_rfl) ?_
  refine tr_sr hT hm [] [2, 4, 2003, 2005] [(2, .d (.rp 1001 0)), (4, .d (.rp 1002 0)), bxB 2003 (eXCategory.b a0), (2005, .r (.arr 1 [iv 0, nilv, nilv, nilv, nilv, iv 0, nilv, nilv, nilv, nilv, nilv, nilv] []))] .nil (by kernel_rfl) (by kernel_rfl) ?_
  refine tr_seq ?_
  obtain ⟨v1, hv1, hM⟩ := bind_some' hM
  refine tr_sr hT hm [(1, .call [] [] [.agg (eXCategory.b a0)] [] (bv v1))] [2, 4, 28, 2003, 2005] [(2, .d (.rp 1001 0)), (4, .d (.rp 1002 0)), (28, .d (bv (!v1))), bxB 2003 (eXCategory.b a0), (2005, .r (.arr 1 [iv 0, nilv, nilv, nilv, nilv, iv 0, nilv, nilv, nilv, nilv, nilv, nilv] []))] (cc0 ok107 (spec_l02Is_c a0 _ hv1) (by kernel_rfl) .nil) (by kernel_rfl) (by kernel_rfl) ?_
  rcases Bool.eq_false_or_eq_true v1 with h2 | h2
  · have hM := ite_true' hM h2
    refine tr_condFe (e := !v1) (congrArg not h2) (by kernel_rfl) ?_
    refine tr_skip (q_n ?_)
    obtain ⟨v3, hv3, hM⟩ := bind_some' hM
    refine tr_sr hT hm [(1, .call [] [] [.agg (eXCategory.b a0)] [] (.fr 1 v3.length (v3.flatMap eI.o)))] [2, 4, 8, 2003, 2005, 38001] [(2, .d (.rp 1001 0)), (4, .d (.rp 1002 0)), (8, .d (.rs 19000 0 v3.length)), bxB 2003 (eXCategory.b a0), (2005, .r (.arr 1 [iv 0, nilv, nilv, nilv, nilv, iv 0, nilv, nilv, nilv, nilv, nilv, nilv] [])), (38001, .r (.arr 1 (v3.flatMap eI.o) []))] (cc0 ok108 (spec_l11Skeleton_c a0 _ hv3) (by kernel_rfl) .nil) (by kernel_rfl) (by kernel_rfl) ?_
    obtain ⟨v4, hv4, hM⟩ := bind_some' hM
    refine tr_sr hT hm [(2, .call [19000] [] [.agg (eXCategory.b a0), .sl v3.length 0 (v3.flatMap eI.b)] [] (.fr 1 v4.length (v4.flatMap eI.o)))] [2, 4, 8, 10, 2003, 2005, 38001, 44001] [(2, .d (.rp 1001 0)), (4, .d (.rp 1002 0)), (8, .d (.rs 19000 0 v3.length)), (10, .d (.rs 22000 0 v4.length)), bxB 2003 (eXCategory.b a0), (2005, .r (.arr 1 [iv 0, nilv, nilv, nilv, nilv, iv 0, nilv, nilv, nilv, nilv, nilv, nilv] [])), (38001, .r (.arr 1 (v3.flatMap eI.o) [])), (44001, .r (.arr 1 (v4.flatMap eI.o) []))] (cc (B := [19000]) (ρ := []) (rB := [(19000, .arr 1 (v3.flatMap eI.o) [])]) ok109 (spec_l02Full_c a0 v3 _ hv4) (.cons (.same rfl) (.cons (.of1 (.rs (r := 19000) (sz := 1) (refs := []) (memB (by kernel_rfl)) (by kernel_rfl) (bor_flat eI_ok _ _ _))) .nil)) (.inr ⟨(.fr (nb_flat eI_nb _)), trivial⟩) .nil) (by kernel_rfl) (by kernel_rfl) ?_
    obtain ⟨v5, hv5, hM⟩ := bind_some' hM
    refine tr_sr hT hm [(1, .call [] [] [.agg (eXCategory.b a0)] [] (.fr 1 v5.length (v5.flatMap eI.o)))] [2, 4, 8, 10, 12, 2003, 2005, 38001, 44001, 48001] [(2, .d (.rp 1001 0)), (4, .d (.rp 1002 0)), (8, .d (.rs 19000 0 v3.length)), (10, .d (.rs 22000 0 v4.length)), (12, .d (.rs 24000 0 v5.length)), bxB 2003 (eXCategory.b a0), (2005, .r (.arr 1 [iv 0, nilv, nilv, nilv, nilv, iv 0, nilv, nilv, nilv, nilv, nilv, nilv] [])), (38001, .r (.arr 1 (v3.flatMap eI.o) [])), (44001, .r (.arr 1 (v4.flatMap eI.o) [])), (48001, .r (.arr 1 (v5.flatMap eI.o) []))] (cc0 ok110 (spec_l11Chosen_c a0 _ hv5) (by kernel_rfl) .nil) (by kernel_rfl) (by kernel_rfl) ?_
    refine tr_sr hT hm [] [2, 4, 8, 10, 12, 14, 16, 2003, 2005, 2047, 2049, 38001, 44001, 48001] [(2, .d (.rp 1001 0)), (4, .d (.rp 1002 0)), (8, .d (.rs 19000 0 v3.length)), (10, .d (.rs 22000 0 v4.length)), (12, .d (.rs 24000 0 v5.length)), (14, .d (.rs 1023 0 (([] : List Int).length))), (16, .d (.rs 1024 0 (([] : List Int).length))), bxB 2003 (eXCategory.b a0), (2005, .r (.arr 1 [iv 0, nilv, nilv, nilv, nilv, iv 0, nilv, nilv, nilv, nilv, nilv, nilv] [])), (2047, .r (.arr 1 (([] : List Int).flatMap eI.o) [])), (2049, .r (.arr 1 (([] : List Int).flatMap eI.o) [])), (38001, .r (.arr 1 (v3.flatMap eI.o) [])), (44001, .r (.arr 1 (v4.flatMap eI.o) [])), (48001, .r (.arr 1 (v5.flatMap eI.o) []))] .nil (by kernel_rfl) (by kernel_rfl) ?_
    refine tr_seq ?_
    refine tr_sr hT hm [] [2, 4, 8, 10, 12, 14, 16, 18, 2003, 2005, 2047, 2049, 38001, 44001, 48001] [(2, .d (.rp 1001 0)), (4, .d (.rp 1002 0)), (8, .d (.rs 19000 0 v3.length)), (10, .d (.rs 22000 0 v4.length)), (12, .d (.rs 24000 0 v5.length)), (14, .d (.rs 1023 0 (([] : List Int).length))), (16, .d (.rs 1024 0 (([] : List Int).length))), (18, .d (iv 0)), bxB 2003 (eXCategory.b a0), (2005, .r (.arr 1 [iv 0, nilv, nilv, nilv, nilv, iv 0, nilv, nilv, nilv, nilv, nilv, nilv] [])), (2047, .r (.arr 1 (([] : List Int).flatMap eI.o) [])), (2049, .r (.arr 1 (([] : List Int).flatMap eI.o) [])), (38001, .r (.arr 1 (v3.flatMap eI.o) [])), (44001, .r (.arr 1 (v4.flatMap eI.o) [])), (48001, .r (.arr 1 (v5.flatMap eI.o) []))] .nil (by kernel_rfl) (by kernel_rfl) ?_
    refine tr_block ?_
    refine tr_iterS (fun (s6 : (List Int) × Int) => [(2, .d (.rp 1001 0)), (4, .d (.rp 1002 0)), (8, .d (.rs 19000 0 v3.length)), (10, .d (.rs 22000 0 v4.length)), (12, .d (.rs 24000 0 v5.length)), (14, .d (.rs 1023 0 s6.1.length)), (16, .d (.rs 1024 0 (([] : List Int).length))), (18, .d (iv s6.2)), bxB 2003 (eXCategory.b a0), (2005, .r (.arr 1 [iv 0, nilv, nilv, nilv, nilv, iv 0, nilv, nilv, nilv, nilv, nilv, nilv] [])), (2047, .r (.arr 1 (s6.1.flatMap eI.o) [])), (2049, .r (.arr 1 (([] : List Int).flatMap eI.o) [])), (38001, .r (.arr 1 (v3.flatMap eI.o) [])), (44001, .r (.arr 1 (v4.flatMap eI.o) [])), (48001, .r (.arr 1 (v5.flatMap eI.o) []))]) (([] : List Int), 0) [2, 4, 8, 10, 12, 14, 16, 18, 2003, 2005, 2047, 2049, 38001, 44001, 48001] (by kernel_rfl) hM ?_
    intro n9 next7 ih8 s6 hM
    refine tr_seq ?_
    refine tr_sr hT hm [] [2, 4, 8, 10, 12, 14, 16, 18, 56, 2003, 2005, 2047, 2049, 38001, 44001, 48001] [(2, .d (.rp 1001 0)), (4, .d (.rp 1002 0)), (8, .d (.rs 19000 0 v3.length)), (10, .d (.rs 22000 0 v4.length)), (12, .d (.rs 24000 0 v5.length)), (14, .d (.rs 1023 0 s6.1.length)), (16, .d (.rs 1024 0 (([] : List Int).length))), (18, .d (iv s6.2)), (56, .d (bv (decide (s6.2 < a0.Objects)))), bxB 2003 (eXCategory.b a0), (2005, .r (.arr 1 [iv 0, nilv, nilv, nilv, nilv, iv 0, nilv, nilv, nilv, nilv, nilv, nilv] [])), (2047, .r (.arr 1 (s6.1.flatMap eI.o) [])), (2049, .r (.arr 1 (([] : List Int).flatMap eI.o) [])), (38001, .r (.arr 1 (v3.flatMap eI.o) [])), (44001, .r (.arr 1 (v4.flatMap eI.o) [])), (48001, .r (.arr 1 (v5.flatMap eI.o) []))] .nil (by kernel_rfl) (by kernel_rfl) ?_
    rcases Bool.eq_false_or_eq_true (decide (s6.2 < a0.Objects)) with h10 | h10
    · have hM := ite_true' hM h10
      refine tr_condTe (e := decide (s6.2 < a0.Objects)) h10 (by kernel_rfl) ?_
      refine tr_skip (q_n ?_)
      refine tr_seq ?_
      refine tr_block ?_
      obtain ⟨y11, hy11, hM⟩ := bind_some' hM
      have hy11' := idx_some hy11
      obtain ⟨y12, hy12, hM⟩ := bind_some' hM
      have hy12' := idx_some hy12
      obtain ⟨v13, hv13, hM⟩ := bind_some' hM
      obtain ⟨h14, hM⟩ := chk_some hM
      refine tr_r hT hm [(7, .val (iv y11)), (9, .val (iv y12)), (10, .call [19000] [] [.sl v3.length 0 (v3.flatMap eI.b), iv y12] [] (iv v13)), (12, .app true)] [2, 4, 8, 10, 12, 14, 16, 18, 2003, 2005, 2049, 2087, 38001, 44001, 48001] [(2, .d (.rp 1001 0)), (4, .d (.rp 1002 0)), (8, .d (.rs 19000 0 v3.length)), (10, .d (.rs 22000 0 v4.length)), (12, .d (.rs 24000 0 v5.length)), (14, .d (.rs 1043 0 (s6.1.length + (([v13] : List Int).length)))), (16, .d (.rs 1024 0 (([] : List Int).length))), (18, .d (iv s6.2)), bxB 2003 (eXCategory.b a0), (2005, .r (.arr 1 [iv 0, nilv, nilv, nilv, nilv, iv 0, nilv, nilv, nilv, nilv, nilv, nilv] [])), (2049, .r (.arr 1 (([] : List Int).flatMap eI.o) [])), (2087, .r (.arr 1 (s6.1.flatMap eI.o ++ ([v13] : List Int).flatMap eI.o) [])), (38001, .r (.arr 1 (v3.flatMap eI.o) [])), (44001, .r (.arr 1 (v4.flatMap eI.o) [])), (48001, .r (.arr 1 (v5.flatMap eI.o) []))] (.cons hy11'.1 (.cons hy11'.2.1 (.cons (at_o0 eI_ok hy11'.2.2 (d := iv y11) (by kernel_rfl)) (.cons hy12'.1 (.cons hy12'.2.1 (.cons (at_b0 eI_ok hy12'.2.2 (d := iv y12) (by kernel_rfl)) (cc (B := [19000]) (ρ := []) (rB := [(19000, .arr 1 (v3.flatMap eI.o) [])]) ok111 (spec_l01Index_c v3 y12 _ hv13) (.cons (.of1 (.rs (r := 19000) (sz := 1) (refs := []) (memB (by kernel_rfl)) (by kernel_rfl) (bor_flat eI_ok _ _ _))) (.cons (.same rfl) .nil)) (.inr ⟨.v, trivial⟩) (.cons (lenO_flat eI_ok s6.1) (.cons (lenO_flat eI_ok ([v13] : List Int)) (.cons h14 .nil)))))))))) (by kernel_rfl) (by kernel_rfl) (b_n (q_n ?_))
      refine Tr.by (imp_cvE (r := 1043) (sz := 1) (refs := []) (flat_app eI.o s6.1 ([v13] : List Int)) (menO_flat eI_ok _) (by kernel_rfl)) ?_
      refine Tr.by (imp_cvD (k := 14) (congrArg (D.rs 1043 0) ((len_app s6.1 ([v13] : List Int)) : s6.1.length + (([v13] : List Int).length) = (s6.1 ++ ([v13] : List Int)).length)) (by kernel_rfl)) ?_
      refine tr_r hT hm [] [2, 4, 8, 10, 12, 14, 16, 18, 2003, 2005, 2049, 2087, 38001, 44001, 48001] [(2, .d (.rp 1001 0)), (4, .d (.rp 1002 0)), (8, .d (.rs 19000 0 v3.length)), (10, .d (.rs 22000 0 v4.length)), (12, .d (.rs 24000 0 v5.length)), (14, .d (.rs 1043 0 ((s6.1 ++ ([v13] : List Int)).length))), (16, .d (.rs 1024 0 (([] : List Int).length))), (18, .d (iv (IntKind.i64.wrap (s6.2 + 1)))), bxB 2003 (eXCategory.b a0), (2005, .r (.arr 1 [iv 0, nilv, nilv, nilv, nilv, iv 0, nilv, nilv, nilv, nilv, nilv, nilv] [])), (2049, .r (.arr 1 (([] : List Int).flatMap eI.o) [])), (2087, .r (.arr 1 ((s6.1 ++ ([v13] : List Int)).flatMap eI.o) [])), (38001, .r (.arr 1 (v3.flatMap eI.o) [])), (44001, .r (.arr 1 (v4.flatMap eI.o) [])), (48001, .r (.arr 1 (v5.flatMap eI.o) []))] .nil (by kernel_rfl) (by kernel_rfl) (l_n ?_)
      refine TrL.by (imp_sel (ks := [2, 4, 8, 10, 12, 14, 16, 18, 2003, 2005, 2049, 2087, 38001, 44001, 48001]) (st' := [(2, .d (.rp 1001 0)), (4, .d (.rp 1002 0)), (8, .d (.rs 19000 0 v3.length)), (10, .d (.rs 22000 0 v4.length)), (12, .d (.rs 24000 0 v5.length)), (14, .d (.rs 1043 0 ((s6.1 ++ ([v13] : List Int)).length))), (16, .d (.rs 1024 0 (([] : List Int).length))), (18, .d (iv (IntKind.i64.wrap (s6.2 + 1)))), bxB 2003 (eXCategory.b a0), (2005, .r (.arr 1 [iv 0, nilv, nilv, nilv, nilv, iv 0, nilv, nilv, nilv, nilv, nilv, nilv] [])), (2049, .r (.arr 1 (([] : List Int).flatMap eI.o) [])), (2087, .r (.arr 1 ((s6.1 ++ ([v13] : List Int)).flatMap eI.o) [])), (38001, .r (.arr 1 (v3.flatMap eI.o) [])), (44001, .r (.arr 1 (v4.flatMap eI.o) [])), (48001, .r (.arr 1 (v5.flatMap eI.o) []))]) (by kernel_rfl)) ?_
      refine TrL.by (imp_rename (r := 1043) (q := 1023) (by kernel_rfl) (Nat.le_of_ble_eq_true rfl)) ?_
      exact trl_start (ks := [2, 4, 8, 10, 12, 14, 16, 18, 2003, 2005, 2047, 2049, 38001, 44001, 48001]) (by kernel_rfl) (ih8 (s6.1 ++ ([v13] : List Int), IntKind.i64.wrap (s6.2 + 1)) hM)
    · have hM := ite_false' hM h10
      refine tr_condFe (e := decide (s6.2 < a0.Objects)) h10 (by kernel_rfl) ?_
      refine tr_exit (q_x (l_x (b_h (q_n ?_))))
      refine tr_seq ?_
      refine tr_sr hT hm [] [2, 4, 10, 12, 14, 16, 20, 2003, 2005, 2047, 2049, 44001, 48001] [(2, .d (.rp 1001 0)), (4, .d (.rp 1002 0)), (10, .d (.rs 22000 0 v4.length)), (12, .d (.rs 24000 0 v5.length)), (14, .d (.rs 1023 0 s6.1.length)), (16, .d (.rs 1024 0 (([] : List Int).length))), (20, .d (iv 0)), bxB 2003 (eXCategory.b a0), (2005, .r (.arr 1 [iv 0, nilv, nilv, nilv, nilv, iv 0, nilv, nilv, nilv, nilv, nilv, nilv] [])), (2047, .r (.arr 1 (s6.1.flatMap eI.o) [])), (2049, .r (.arr 1 (([] : List Int).flatMap eI.o) [])), (44001, .r (.arr 1 (v4.flatMap eI.o) [])), (48001, .r (.arr 1 (v5.flatMap eI.o) []))] .nil (by kernel_rfl) (by kernel_rfl) ?_
      refine tr_block ?_
      refine tr_iterS (fun (s15 : (List Int) × Int) => [(2, .d (.rp 1001 0)), (4, .d (.rp 1002 0)), (10, .d (.rs 22000 0 v4.length)), (12, .d (.rs 24000 0 v5.length)), (14, .d (.rs 1023 0 s6.1.length)), (16, .d (.rs 1024 0 s15.1.length)), (20, .d (iv s15.2)), bxB 2003 (eXCategory.b a0), (2005, .r (.arr 1 [iv 0, nilv, nilv, nilv, nilv, iv 0, nilv, nilv, nilv, nilv, nilv, nilv] [])), (2047, .r (.arr 1 (s6.1.flatMap eI.o) [])), (2049, .r (.arr 1 (s15.1.flatMap eI.o) [])), (44001, .r (.arr 1 (v4.flatMap eI.o) [])), (48001, .r (.arr 1 (v5.flatMap eI.o) []))]) (([] : List Int), 0) [2, 4, 10, 12, 14, 16, 20, 2003, 2005, 2047, 2049, 44001, 48001] (by kernel_rfl) hM ?_
      intro n18 next16 ih17 s15 hM
      refine tr_seq ?_
      refine tr_sr hT hm [] [2, 4, 10, 12, 14, 16, 20, 96, 2003, 2005, 2047, 2049, 44001, 48001] [(2, .d (.rp 1001 0)), (4, .d (.rp 1002 0)), (10, .d (.rs 22000 0 v4.length)), (12, .d (.rs 24000 0 v5.length)), (14, .d (.rs 1023 0 s6.1.length)), (16, .d (.rs 1024 0 s15.1.length)), (20, .d (iv s15.2)), (96, .d (bv (decide (s15.2 < (a0.From.length : Int))))), bxB 2003 (eXCategory.b a0), (2005, .r (.arr 1 [iv 0, nilv, nilv, nilv, nilv, iv 0, nilv, nilv, nilv, nilv, nilv, nilv] [])), (2047, .r (.arr 1 (s6.1.flatMap eI.o) [])), (2049, .r (.arr 1 (s15.1.flatMap eI.o) [])), (44001, .r (.arr 1 (v4.flatMap eI.o) [])), (48001, .r (.arr 1 (v5.flatMap eI.o) []))] .nil (by kernel_rfl) (by kernel_rfl) ?_
      rcases Bool.eq_false_or_eq_true (decide (s15.2 < (a0.From.length : Int))) with h19 | h19
      · have hM := ite_true' hM h19
        refine tr_condTe (e := decide (s15.2 < (a0.From.length : Int))) h19 (by kernel_rfl) ?_
        refine tr_skip (q_n ?_)
        refine tr_seq ?_
        refine tr_block ?_
        obtain ⟨y20, hy20, hM⟩ := bind_some' hM
        have hy20' := idx_some hy20
        obtain ⟨y21, hy21, hM⟩ := bind_some' hM
        have hy21' := idx_some hy21
        obtain ⟨v22, hv22, hM⟩ := bind_some' hM
        refine tr_sr hT hm [(6, .val (iv y20)), (8, .val (iv y21)), (9, .call [] [] [.agg (eXCategory.b a0), iv y21] [] (iv v22))] [2, 4, 10, 12, 14, 16, 20, 22, 2003, 2005, 2047, 2049, 44001, 48001] [(2, .d (.rp 1001 0)), (4, .d (.rp 1002 0)), (10, .d (.rs 22000 0 v4.length)), (12, .d (.rs 24000 0 v5.length)), (14, .d (.rs 1023 0 s6.1.length)), (16, .d (.rs 1024 0 s15.1.length)), (20, .d (iv s15.2)), (22, .d (iv v22)), bxB 2003 (eXCategory.b a0), (2005, .r (.arr 1 [iv 0, nilv, nilv, nilv, nilv, iv 0, nilv, nilv, nilv, nilv, nilv, nilv] [])), (2047, .r (.arr 1 (s6.1.flatMap eI.o) [])), (2049, .r (.arr 1 (s15.1.flatMap eI.o) [])), (44001, .r (.arr 1 (v4.flatMap eI.o) [])), (48001, .r (.arr 1 (v5.flatMap eI.o) []))] (.cons hy20'.1 (.cons hy20'.2.1 (.cons (at_b0 eI_ok hy20'.2.2 (d := iv y20) (by kernel_rfl)) (.cons hy21'.1 (.cons hy21'.2.1 (.cons (at_o0 eI_ok hy21'.2.2 (d := iv y21) (by kernel_rfl)) (cc0 ok112 (spec_l02Inverse_c a0 y21 _ hv22) (by kernel_rfl) .nil))))))) (by kernel_rfl) (by kernel_rfl) ?_
        obtain ⟨v23, hv23, hM⟩ := bind_some' hM
        obtain ⟨y24, hy24, hM⟩ := bind_some' hM
        have hy24' := idx_some hy24
        obtain ⟨y25, hy25, hM⟩ := bind_some' hM
        have hy25' := idx_some hy25
        obtain ⟨v26, hv26, hM⟩ := bind_some' hM
        obtain ⟨v27, hv27, hM⟩ := bind_some' hM
        obtain ⟨h28, hM⟩ := chk_some hM
        refine tr_r hT hm [(6, .call [] [] [.agg (eXCategory.b a0), iv v22, iv s15.2] [] (iv v23)), (12, .val (iv y24)), (14, .val (iv y25)), (15, .call [] [] [.agg (eXCategory.b a0), iv v23, iv y25] [] (iv v26)), (16, .call [22000] [] [.sl v4.length 0 (v4.flatMap eI.b), iv v26] [] (iv v27)), (18, .app true)] [2, 4, 10, 12, 14, 16, 20, 2003, 2005, 2047, 2159, 44001, 48001] [(2, .d (.rp 1001 0)), (4, .d (.rp 1002 0)), (10, .d (.rs 22000 0 v4.length)), (12, .d (.rs 24000 0 v5.length)), (14, .d (.rs 1023 0 s6.1.length)), (16, .d (.rs 1079 0 (s15.1.length + (([v27] : List Int).length)))), (20, .d (iv s15.2)), bxB 2003 (eXCategory.b a0), (2005, .r (.arr 1 [iv 0, nilv, nilv, nilv, nilv, iv 0, nilv, nilv, nilv, nilv, nilv, nilv] [])), (2047, .r (.arr 1 (s6.1.flatMap eI.o) [])), (2159, .r (.arr 1 (s15.1.flatMap eI.o ++ ([v27] : List Int).flatMap eI.o) [])), (44001, .r (.arr 1 (v4.flatMap eI.o) [])), (48001, .r (.arr 1 (v5.flatMap eI.o) []))] (cc0 ok113 (spec_l02Then_c a0 v22 s15.2 _ hv23) (by kernel_rfl) (.cons hy24'.1 (.cons hy24'.2.1 (.cons (at_b0 eI_ok hy24'.2.2 (d := iv y24) (by kernel_rfl)) (.cons hy25'.1 (.cons hy25'.2.1 (.cons (at_o0 eI_ok hy25'.2.2 (d := iv y25) (by kernel_rfl)) (cc0 ok113 (spec_l02Then_c a0 v23 y25 _ hv26) (by kernel_rfl) (cc (B := [22000]) (ρ := []) (rB := [(22000, .arr 1 (v4.flatMap eI.o) [])]) ok111 (spec_l01Index_c v4 v26 _ hv27) (.cons (.of1 (.rs (r := 22000) (sz := 1) (refs := []) (memB (by kernel_rfl)) (by kernel_rfl) (bor_flat eI_ok _ _ _))) (.cons (.same rfl) .nil)) (.inr ⟨.v, trivial⟩) (.cons (lenO_flat eI_ok s15.1) (.cons (lenO_flat eI_ok ([v27] : List Int)) (.cons h28 .nil)))))))))))) (by kernel_rfl) (by kernel_rfl) (b_n (q_n ?_))
        refine Tr.by (imp_cvE (r := 1079) (sz := 1) (refs := []) (flat_app eI.o s15.1 ([v27] : List Int)) (menO_flat eI_ok _) (by kernel_rfl)) ?_
        refine Tr.by (imp_cvD (k := 16) (congrArg (D.rs 1079 0) ((len_app s15.1 ([v27] : List Int)) : s15.1.length + (([v27] : List Int).length) = (s15.1 ++ ([v27] : List Int)).length)) (by kernel_rfl)) ?_
        refine tr_r hT hm [] [2, 4, 10, 12, 14, 16, 20, 2003, 2005, 2047, 2159, 44001, 48001] [(2, .d (.rp 1001 0)), (4, .d (.rp 1002 0)), (10, .d (.rs 22000 0 v4.length)), (12, .d (.rs 24000 0 v5.length)), (14, .d (.rs 1023 0 s6.1.length)), (16, .d (.rs 1079 0 ((s15.1 ++ ([v27] : List Int)).length))), (20, .d (iv (IntKind.i64.wrap (s15.2 + 1)))), bxB 2003 (eXCategory.b a0), (2005, .r (.arr 1 [iv 0, nilv, nilv, nilv, nilv, iv 0, nilv, nilv, nilv, nilv, nilv, nilv] [])), (2047, .r (.arr 1 (s6.1.flatMap eI.o) [])), (2159, .r (.arr 1 ((s15.1 ++ ([v27] : List Int)).flatMap eI.o) [])), (44001, .r (.arr 1 (v4.flatMap eI.o) [])), (48001, .r (.arr 1 (v5.flatMap eI.o) []))] .nil (by kernel_rfl) (by kernel_rfl) (l_n ?_)
        refine TrL.by (imp_sel (ks := [2, 4, 10, 12, 14, 16, 20, 2003, 2005, 2047, 2159, 44001, 48001]) (st' := [(2, .d (.rp 1001 0)), (4, .d (.rp 1002 0)), (10, .d (.rs 22000 0 v4.length)), (12, .d (.rs 24000 0 v5.length)), (14, .d (.rs 1023 0 s6.1.length)), (16, .d (.rs 1079 0 ((s15.1 ++ ([v27] : List Int)).length))), (20, .d (iv (IntKind.i64.wrap (s15.2 + 1)))), bxB 2003 (eXCategory.b a0), (2005, .r (.arr 1 [iv 0, nilv, nilv, nilv, nilv, iv 0, nilv, nilv, nilv, nilv, nilv, nilv] [])), (2047, .r (.arr 1 (s6.1.flatMap eI.o) [])), (2159, .r (.arr 1 ((s15.1 ++ ([v27] : List Int)).flatMap eI.o) [])), (44001, .r (.arr 1 (v4.flatMap eI.o) [])), (48001, .r (.arr 1 (v5.flatMap eI.o) []))]) (by kernel_rfl)) ?_
        refine TrL.by (imp_rename (r := 1079) (q := 1024) (by kernel_rfl) (Nat.le_of_ble_eq_true rfl)) ?_
        exact trl_start (ks := [2, 4, 10, 12, 14, 16, 20, 2003, 2005, 2047, 2049, 44001, 48001]) (by kernel_rfl) (ih17 (s15.1 ++ ([v27] : List Int), IntKind.i64.wrap (s15.2 + 1)) hM)
      · have hM := ite_false' hM h19
        refine tr_condFe (e := decide (s15.2 < (a0.From.length : Int))) h19 (by kernel_rfl) ?_
        refine tr_exit (q_x (l_x (b_h (q_n ?_))))
        obtain ⟨v29, hv29, hM⟩ := bind_some' hM
        obtain ⟨v30, hv30, hM⟩ := bind_some' hM
        refine tr_sr hT hm [(2, .call [] [] [.agg (eXCategory.b a0)] [] (.agg (eXCategory.o v29))), (5, .call (rsR 84000 (eXCategory.o v29) ++ [1023, 1024]) [] [.agg (eXCategory.b a0), .agg (eXCategory.b v29), .sl s6.1.length 0 (s6.1.flatMap eI.b), .sl s15.1.length 0 (s15.1.flatMap eI.b)] [] (.agg (eXFunctor.o v30)))] [4, 6, 2005, 174003, 174005, 174007, 174009, 174013, 174015, 174017, 174019, 174021, 174023] ([(4, .d (.rp 1002 0)), (6, .d (iv 0)), bxO 2005 87000 (eXFunctor.o v30)] ++ rsS 87000 (eXFunctor.o v30)) (cc0 ok114 (spec_l11Part_c a0 _ hv29) (by kernel_rfl) (cc (B := (rsR 84000 (eXCategory.o v29) ++ [1023, 1024])) (ρ := []) (rB := (rsP 84000 (eXCategory.o v29) ++ [(1023, .arr 1 (s6.1.flatMap eI.o) []), (1024, .arr 1 (s15.1.flatMap eI.o) [])])) ok102 (spec_l06Make_c a0 v29 s6.1 s15.1 _ hv30) (.cons (.same rfl) (.cons (bor_rs eXCategory_r (q := 84000) (x := v29) (by kernel_rfl) (by kernel_rfl)) (.cons (.of1 (.rs (r := 1023) (sz := 1) (refs := []) (memB (by kernel_rfl)) (by kernel_rfl) (bor_flat eI_ok _ _ _))) (.cons (.of1 (.rs (r := 1024) (sz := 1) (refs := []) (memB (by kernel_rfl)) (by kernel_rfl) (bor_flat eI_ok _ _ _))) .nil)))) (.inr ⟨(.agg (eXFunctor_nb _)), trivial⟩) (.cons (Nat.le_of_ble_eq_true (n := 12) (m := 12) rfl) .nil))) (by kernel_rfl) (by kernel_rfl) ?_
        refine tr_ret (rg_r ?_)
        obtain rfl := Option.some.inj hM
        exact retg (names := []) (.cons (lenO_flat eI_ok v30.Source.From) (.cons (lenO_flat eI_ok v30.Source.To) (.cons (lenO_flat eI_ok v30.Source.Identity) (.cons (lenO_flat (eS_ok eI_ok) v30.Source.Composites) (.cons (lenO_flat eI_ok v30.Target.From) (.cons (lenO_flat eI_ok v30.Target.To) (.cons (lenO_flat eI_ok v30.Target.Identity) (.cons (lenO_flat (eS_ok eI_ok) v30.Target.Composites) (.cons (lenO_flat eI_ok v30.Objects) (.cons (lenO_flat eI_ok v30.Arrows) .nil)))))))))) (by kernel_rfl)
  · have hM := ite_false' hM h2
    refine tr_condTe (e := !v1) (congrArg not h2) (by kernel_rfl) ?_
    refine tr_sr hT hm [] [4, 6, 2005] [(4, .d (.rp 1002 0)), (6, .d (iv 1)), (2005, .r (.arr 1 [iv 0, nilv, nilv, nilv, nilv, iv 0, nilv, nilv, nilv, nilv, nilv, nilv] []))] (.cons (Nat.le_of_ble_eq_true (n := 12) (m := 12) rfl) .nil) (by kernel_rfl) (by kernel_rfl) ?_
    refine tr_ret (q_r (rg_r ?_))
    refine RetG.by (imp_cvB (r := 1002) (sz := 1) (cells := [iv 0, nilv, nilv, nilv, nilv, iv 0, nilv, nilv, nilv, nilv, nilv, nilv]) (cells' := [iv 0, .fr 1 ([] : List Int).length (([] : List Int).flatMap eI.o), .fr 1 ([] : List Int).length (([] : List Int).flatMap eI.o), .fr 1 ([] : List Int).length (([] : List Int).flatMap eI.o), .fr 1 ([] : List (List Int)).length (([] : List (List Int)).flatMap (eS eI).o), iv 0, .fr 1 ([] : List Int).length (([] : List Int).flatMap eI.o), .fr 1 ([] : List Int).length (([] : List Int).flatMap eI.o), .fr 1 ([] : List Int).length (([] : List Int).flatMap eI.o), .fr 1 ([] : List (List Int)).length (([] : List (List Int)).flatMap (eS eI).o), .fr 1 ([] : List Int).length (([] : List Int).flatMap eI.o), .fr 1 ([] : List Int).length (([] : List Int).flatMap eI.o)]) (refs := []) (refs' := []) (.cons (.refl _) (.cons Sub.nil_fr (.cons Sub.nil_fr (.cons Sub.nil_fr (.cons Sub.nil_fr (.cons (.refl _) (.cons Sub.nil_fr (.cons Sub.nil_fr (.cons Sub.nil_fr (.cons Sub.nil_fr (.cons Sub.nil_fr (.cons Sub.nil_fr .nil)))))))))))) (by kernel_rfl) (by kernel_rfl) (by kernel_rfl)) ?_
    obtain rfl := Option.some.inj hM
    exact retg (names := []) .nil (by kernel_rfl)

theorem ok200 : CallOk Try.prog 200 := callOk_of Try.func200 (by kernel_rfl) (by kernel_rfl)
theorem impl_Category_isoClasses_c (a0 : XCategory) (r : (List Int)) (hM : M.impl_Category_isoClasses a0 = some r) :
    FnC Try.prog 200 [] [.pt (eXCategory.b a0) 0] [] (.fr 1 r.length (r.flatMap eI.o)) := by
  refine fnc_startG (N := 41) (np := 500) hT Try.func200 rfl rfl (by kernel_rfl) ?_
  unfold M.impl_Category_isoClasses at hM
  refine tr_start (ks := [0]) (st' := [(0, .d (.pt (eXCategory.b a0) 0))]) (by kernel_rfl) ?_
  refine tr_sr hT hm [] [0] [(0, .d (.pt (eXCategory.b a0) 0))] .nil (by kernel_rfl) (by kernel_rfl) ?_
  obtain ⟨v1, hv1, hM⟩ := bind_some' hM
  refine tr_sr hT hm [(4, .call [] [] [iv a0.Objects] [] (.fr 1 v1.length (v1.flatMap eI.o)))] [0, 6, 22001] [(0, .d (.pt (eXCategory.b a0) 0)), (6, .d (.rs 11000 0 v1.length)), (22001, .r (.arr 1 (v1.flatMap eI.o) []))] (cc0 ok217 (impl_joinerOf_c a0.Objects _ hv1) (by kernel_rfl) .nil) (by kernel_rfl) (by kernel_rfl) ?_
  refine tr_seq ?_
  refine tr_sr hT hm [] [0, 6, 28, 30, 22001] [(0, .d (.pt (eXCategory.b a0) 0)), (6, .d (.rs 11000 0 v1.length)), (28, .d (iv (a0.From.length : Int))), (30, .d (iv 0)), (22001, .r (.arr 1 (v1.flatMap eI.o) []))] .nil (by kernel_rfl) (by kernel_rfl) ?_
  refine tr_block ?_
  refine tr_iterS (fun (s2 : (List Int) × Int) => [(0, .d (.pt (eXCategory.b a0) 0)), (6, .d (.rs 11000 0 s2.1.length)), (28, .d (iv (a0.From.length : Int))), (30, .d (iv s2.2)), (22001, .r (.arr 1 (s2.1.flatMap eI.o) []))]) (v1, 0) [0, 6, 28, 30, 22001] (by kernel_rfl) hM ?_
  intro n5 next3 ih4 s2 hM
  refine tr_sr hT hm [] [0, 6, 28, 30, 32, 22001] [(0, .d (.pt (eXCategory.b a0) 0)), (6, .d (.rs 11000 0 s2.1.length)), (28, .d (iv (a0.From.length : Int))), (30, .d (iv s2.2)), (32, .d (bv (decide (s2.2 < (a0.From.length : Int))))), (22001, .r (.arr 1 (s2.1.flatMap eI.o) []))] .nil (by kernel_rfl) (by kernel_rfl) ?_
  refine tr_seq ?_
  rcases Bool.eq_false_or_eq_true (decide (s2.2 < (a0.From.length : Int))) with h6 | h6
  · have hM := ite_true' hM h6
    refine tr_condTe (e := decide (s2.2 < (a0.From.length : Int))) h6 (by kernel_rfl) ?_
    refine tr_skip (q_n ?_)
    refine tr_seq ?_
    refine tr_block ?_
    refine tr_sr hT hm [] [0, 6, 8, 28, 30, 22001] [(0, .d (.pt (eXCategory.b a0) 0)), (6, .d (.rs 11000 0 s2.1.length)), (8, .d (iv s2.2)), (28, .d (iv (a0.From.length : Int))), (30, .d (iv s2.2)), (22001, .r (.arr 1 (s2.1.flatMap eI.o) []))] .nil (by kernel_rfl) (by kernel_rfl) ?_
    obtain ⟨v7, hv7, hM⟩ := bind_some' hM
    refine tr_sr hT hm [(2, .call [] [] [.pt (eXCategory.b a0) 0, iv s2.2] [] (iv v7))] [0, 6, 8, 28, 30, 42, 22001] [(0, .d (.pt (eXCategory.b a0) 0)), (6, .d (.rs 11000 0 s2.1.length)), (8, .d (iv s2.2)), (28, .d (iv (a0.From.length : Int))), (30, .d (iv s2.2)), (42, .d (bv (decide (v7 ≥ 0)))), (22001, .r (.arr 1 (s2.1.flatMap eI.o) []))] (cc0 ok198 (impl_Category_inverse_c a0 s2.2 _ hv7) (by kernel_rfl) .nil) (by kernel_rfl) (by kernel_rfl) ?_
    rcases Bool.eq_false_or_eq_true (decide (v7 ≥ 0)) with h8 | h8
    · have hM := ite_true' hM h8
      refine tr_condTe (e := decide (v7 ≥ 0)) h8 (by kernel_rfl) ?_
      obtain ⟨y9, hy9, hM⟩ := bind_some' hM
      have hy9' := idx_some hy9
      obtain ⟨y10, hy10, hM⟩ := bind_some' hM
      have hy10' := idx_some hy10
      obtain ⟨v11, hv11, hM⟩ := bind_some' hM
      refine tr_r hT hm [(7, .val (iv y9)), (14, .val (iv y10)), (15, .call [] [(0, 11000)] [.rs 0 0 s2.1.length, iv y9, iv y10] [(0, .arr 1 (v11.2.flatMap eI.o) [])] (bv v11.1))] [0, 6, 28, 30, 22001] [(0, .d (.pt (eXCategory.b a0) 0)), (6, .d (.rs 11000 0 s2.1.length)), (28, .d (iv (a0.From.length : Int))), (30, .d (iv s2.2)), (22001, .r (.arr 1 (v11.2.flatMap eI.o) []))] (.cons hy9'.1 (.cons hy9'.2.1 (.cons (at_b0 eI_ok hy9'.2.2 (d := iv y9) (by kernel_rfl)) (.cons hy10'.1 (.cons hy10'.2.1 (.cons (at_b0 eI_ok hy10'.2.2 (d := iv y10) (by kernel_rfl)) (cc (B := []) (ρ := [(0, 11000)]) (rB := []) ok219 (impl_joiner_join_c s2.1 y9 y10 _ hv11) (.cons (.pass (.rs rfl)) (.cons (.same rfl) (.cons (.same rfl) .nil))) (.inl rfl) .nil))))))) (by kernel_rfl) (by kernel_rfl) (b_n (q_n ?_))
      refine Tr.by (imp_cvD (k := 6) (congrArg (D.rs 11000 0) ((M.len_impl_joiner_join hv11) : s2.1.length = v11.2.length)) (by kernel_rfl)) ?_
      refine tr_r hT hm [] [0, 6, 28, 30, 22001] [(0, .d (.pt (eXCategory.b a0) 0)), (6, .d (.rs 11000 0 v11.2.length)), (28, .d (iv (a0.From.length : Int))), (30, .d (iv (IntKind.i64.wrap (s2.2 + 1)))), (22001, .r (.arr 1 (v11.2.flatMap eI.o) []))] .nil (by kernel_rfl) (by kernel_rfl) (l_n ?_)
      exact trl_start (ks := [0, 6, 28, 30, 22001]) (by kernel_rfl) (ih4 (v11.2, IntKind.i64.wrap (s2.2 + 1)) hM)
    · have hM := ite_false' hM h8
      refine tr_condFe (e := decide (v7 ≥ 0)) h8 (by kernel_rfl) ?_
      refine tr_skip (b_n (q_n ?_))
      refine tr_r hT hm [] [0, 6, 28, 30, 22001] [(0, .d (.pt (eXCategory.b a0) 0)), (6, .d (.rs 11000 0 s2.1.length)), (28, .d (iv (a0.From.length : Int))), (30, .d (iv (IntKind.i64.wrap (s2.2 + 1)))), (22001, .r (.arr 1 (s2.1.flatMap eI.o) []))] .nil (by kernel_rfl) (by kernel_rfl) (l_n ?_)
      exact trl_start (ks := [0, 6, 28, 30, 22001]) (by kernel_rfl) (ih4 (s2.1, IntKind.i64.wrap (s2.2 + 1)) hM)
  · have hM := ite_false' hM h6
    refine tr_condFe (e := decide (s2.2 < (a0.From.length : Int))) h6 (by kernel_rfl) ?_
    refine tr_exit (q_x (l_x (b_h (q_n ?_))))
    obtain ⟨v12, hv12, hM⟩ := bind_some' hM
    refine tr_sr hT hm [(1, .call [] [(0, 11000)] [.rs 0 0 s2.1.length] [(0, .arr 1 (v12.2.flatMap eI.o) [])] (.fr 1 v12.1.length (v12.1.flatMap eI.o)))] [4, 84001] [(4, .d (.rs 42000 0 v12.1.length)), (84001, .r (.arr 1 (v12.1.flatMap eI.o) []))] (cc (B := []) (ρ := [(0, 11000)]) (rB := []) ok221 (impl_joiner_partition_c s2.1 _ hv12) (.cons (.pass (.rs rfl)) .nil) (.inl rfl) .nil) (by kernel_rfl) (by kernel_rfl) ?_
    refine tr_ret (rg_r ?_)
    obtain rfl := Option.some.inj hM
    exact retg (names := []) (.cons (lenO_flat eI_ok v12.1) .nil) (by kernel_rfl)

theorem ok260 : CallOk Try.prog 260 := callOk_of Try.func260 (by kernel_rfl) (by kernel_rfl)
theorem impl_partition_leaders_c (a0 : List Int) (r : (List Int)) (hM : M.impl_partition_leaders a0 = some r) :
    FnC Try.prog 260 [] [.sl a0.length 0 (a0.flatMap eI.b)] [] (.fr 1 r.length (r.flatMap eI.o)) := by
  refine fnc_startG (N := 24) (np := 500) hT Try.func260 rfl rfl (by kernel_rfl) ?_
  unfold M.impl_partition_leaders at hM
  refine tr_start (ks := [0]) (st' := [(0, .d (.sl a0.length 0 (a0.flatMap eI.b)))]) (by kernel_rfl) ?_
  refine tr_sr hT hm [] [0] [(0, .d (.sl a0.length 0 (a0.flatMap eI.b)))] .nil (by kernel_rfl) (by kernel_rfl) ?_
  refine tr_sr hT hm [] [0, 6, 2013] [(0, .d (.sl a0.length 0 (a0.flatMap eI.b))), (6, .d (.rs 1006 0 (([] : List Int).length))), (2013, .r (.arr 1 (([] : List Int).flatMap eI.o) []))] .nil (by kernel_rfl) (by kernel_rfl) ?_
  refine tr_seq ?_
  refine tr_sr hT hm [] [6, 14, 16, 18, 2013] [(6, .d (.rs 1006 0 (([] : List Int).length))), (14, .d (.sl a0.length 0 (a0.flatMap eI.b))), (16, .d (iv (a0.length : Int))), (18, .d (iv 0)), (2013, .r (.arr 1 (([] : List Int).flatMap eI.o) []))] .nil (by kernel_rfl) (by kernel_rfl) ?_
  refine tr_block ?_
  refine tr_iterS (fun (s1 : (List Int) × Int) => [(6, .d (.rs 1006 0 s1.1.length)), (14, .d (.sl a0.length 0 (a0.flatMap eI.b))), (16, .d (iv (a0.length : Int))), (18, .d (iv s1.2)), (2013, .r (.arr 1 (s1.1.flatMap eI.o) []))]) (([] : List Int), 0) [6, 14, 16, 18, 2013] (by kernel_rfl) hM ?_
  intro n4 next2 ih3 s1 hM
  refine tr_sr hT hm [] [6, 14, 16, 18, 20, 2013] [(6, .d (.rs 1006 0 s1.1.length)), (14, .d (.sl a0.length 0 (a0.flatMap eI.b))), (16, .d (iv (a0.length : Int))), (18, .d (iv s1.2)), (20, .d (bv (decide (s1.2 < (a0.length : Int))))), (2013, .r (.arr 1 (s1.1.flatMap eI.o) []))] .nil (by kernel_rfl) (by kernel_rfl) ?_
  refine tr_seq ?_
  rcases Bool.eq_false_or_eq_true (decide (s1.2 < (a0.length : Int))) with h5 | h5
  · have hM := ite_true' hM h5
    refine tr_condTe (e := decide (s1.2 < (a0.length : Int))) h5 (by kernel_rfl) ?_
    refine tr_skip (q_n ?_)
    refine tr_seq ?_
    refine tr_block ?_
    obtain ⟨y6, hy6, hM⟩ := bind_some' hM
    have hy6' := idx_some hy6
    refine tr_sr hT hm [(2, .val (iv y6))] [6, 8, 10, 14, 16, 18, 2013] [(6, .d (.rs 1006 0 s1.1.length)), (8, .d (iv s1.2)), (10, .d (iv y6)), (14, .d (.sl a0.length 0 (a0.flatMap eI.b))), (16, .d (iv (a0.length : Int))), (18, .d (iv s1.2)), (2013, .r (.arr 1 (s1.1.flatMap eI.o) []))] (.cons hy6'.1 (.cons hy6'.2.1 (.cons (at_b0 eI_ok hy6'.2.2 (d := iv y6) (by kernel_rfl)) .nil))) (by kernel_rfl) (by kernel_rfl) ?_
    refine tr_sr hT hm [] [6, 8, 14, 16, 18, 34, 2013] [(6, .d (.rs 1006 0 s1.1.length)), (8, .d (iv s1.2)), (14, .d (.sl a0.length 0 (a0.flatMap eI.b))), (16, .d (iv (a0.length : Int))), (18, .d (iv s1.2)), (34, .d (bv (y6 == (s1.1.length : Int)))), (2013, .r (.arr 1 (s1.1.flatMap eI.o) []))] .nil (by kernel_rfl) (by kernel_rfl) ?_
    rcases Bool.eq_false_or_eq_true (y6 == (s1.1.length : Int)) with h7 | h7
    · have hM := ite_true' hM h7
      refine tr_condTe (e := y6 == (s1.1.length : Int)) h7 (by kernel_rfl) ?_
      obtain ⟨h8, hM⟩ := chk_some hM
      refine tr_r hT hm [(3, .app true)] [6, 14, 16, 18, 2043] [(6, .d (.rs 1021 0 (s1.1.length + (([s1.2] : List Int).length)))), (14, .d (.sl a0.length 0 (a0.flatMap eI.b))), (16, .d (iv (a0.length : Int))), (18, .d (iv s1.2)), (2043, .r (.arr 1 (s1.1.flatMap eI.o ++ ([s1.2] : List Int).flatMap eI.o) []))] (.cons (lenO_flat eI_ok s1.1) (.cons (lenO_flat eI_ok ([s1.2] : List Int)) (.cons h8 .nil))) (by kernel_rfl) (by kernel_rfl) (b_n (q_n ?_))
      refine Tr.by (imp_cvE (r := 1021) (sz := 1) (refs := []) (flat_app eI.o s1.1 ([s1.2] : List Int)) (menO_flat eI_ok _) (by kernel_rfl)) ?_
      refine Tr.by (imp_cvD (k := 6) (congrArg (D.rs 1021 0) ((len_app s1.1 ([s1.2] : List Int)) : s1.1.length + (([s1.2] : List Int).length) = (s1.1 ++ ([s1.2] : List Int)).length)) (by kernel_rfl)) ?_
      refine tr_r hT hm [] [6, 14, 16, 18, 2043] [(6, .d (.rs 1021 0 ((s1.1 ++ ([s1.2] : List Int)).length))), (14, .d (.sl a0.length 0 (a0.flatMap eI.b))), (16, .d (iv (a0.length : Int))), (18, .d (iv (IntKind.i64.wrap (s1.2 + 1)))), (2043, .r (.arr 1 ((s1.1 ++ ([s1.2] : List Int)).flatMap eI.o) []))] .nil (by kernel_rfl) (by kernel_rfl) (l_n ?_)
      refine TrL.by (imp_sel (ks := [6, 14, 16, 18, 2043]) (st' := [(6, .d (.rs 1021 0 ((s1.1 ++ ([s1.2] : List Int)).length))), (14, .d (.sl a0.length 0 (a0.flatMap eI.b))), (16, .d (iv (a0.length : Int))), (18, .d (iv (IntKind.i64.wrap (s1.2 + 1)))), (2043, .r (.arr 1 ((s1.1 ++ ([s1.2] : List Int)).flatMap eI.o) []))]) (by kernel_rfl)) ?_
      refine TrL.by (imp_rename (r := 1021) (q := 1006) (by kernel_rfl) (Nat.le_of_ble_eq_true rfl)) ?_
      exact trl_start (ks := [6, 14, 16, 18, 2013]) (by kernel_rfl) (ih3 (s1.1 ++ ([s1.2] : List Int), IntKind.i64.wrap (s1.2 + 1)) hM)
    · have hM := ite_false' hM h7
      refine tr_condFe (e := y6 == (s1.1.length : Int)) h7 (by kernel_rfl) ?_
      refine tr_skip (b_n (q_n ?_))
      refine tr_r hT hm [] [6, 14, 16, 18, 2013] [(6, .d (.rs 1006 0 s1.1.length)), (14, .d (.sl a0.length 0 (a0.flatMap eI.b))), (16, .d (iv (a0.length : Int))), (18, .d (iv (IntKind.i64.wrap (s1.2 + 1)))), (2013, .r (.arr 1 (s1.1.flatMap eI.o) []))] .nil (by kernel_rfl) (by kernel_rfl) (l_n ?_)
      exact trl_start (ks := [6, 14, 16, 18, 2013]) (by kernel_rfl) (ih3 (s1.1, IntKind.i64.wrap (s1.2 + 1)) hM)
  · have hM := ite_false' hM h5
    refine tr_condFe (e := decide (s1.2 < (a0.length : Int))) h5 (by kernel_rfl) ?_
    refine tr_exit (q_x (l_x (b_h (q_n ?_))))
    refine tr_sr hT hm [] [4, 2013] [(4, .d (.rs 1006 0 s1.1.length)), (2013, .r (.arr 1 (s1.1.flatMap eI.o) []))] .nil (by kernel_rfl) (by kernel_rfl) ?_
    refine tr_ret (rg_r ?_)
    obtain rfl := Option.some.inj hM
    exact retg (names := []) (.cons (lenO_flat eI_ok s1.1) .nil) (by kernel_rfl)

theorem ok196 : CallOk Try.prog 196 := callOk_of Try.func196 (by kernel_rfl) (by kernel_rfl)
theorem impl_Category_skeletonArrows_c (a0 : XCategory) (r : (List Int)) (hM : M.impl_Category_skeletonArrows a0 = some r) :
    FnC Try.prog 196 [] [.pt (eXCategory.b a0) 0] [] (.fr 1 r.length (r.flatMap eI.o)) := by
  refine fnc_startG (N := 8) (np := 500) hT Try.func196 rfl rfl (by kernel_rfl) ?_
  unfold M.impl_Category_skeletonArrows at hM
  refine tr_start (ks := [0]) (st' := [(0, .d (.pt (eXCategory.b a0) 0))]) (by kernel_rfl) ?_
  refine tr_sr hT hm [] [0] [(0, .d (.pt (eXCategory.b a0) 0))] .nil (by kernel_rfl) (by kernel_rfl) ?_
  obtain ⟨v1, hv1, hM⟩ := bind_some' hM
  obtain ⟨v2, hv2, hM⟩ := bind_some' hM
  obtain ⟨v3, hv3, hM⟩ := bind_some' hM
  refine tr_sr hT hm [(2, .call [] [] [.pt (eXCategory.b a0) 0] [] (.fr 1 v1.length (v1.flatMap eI.o))), (3, .call [7000] [] [.sl v1.length 0 (v1.flatMap eI.b)] [] (.fr 1 v2.length (v2.flatMap eI.o))), (4, .call [8000] [] [.pt (eXCategory.b a0) 0, .sl v2.length 0 (v2.flatMap eI.b)] [] (.fr 1 v3.length (v3.flatMap eI.o)))] [4, 18001] [(4, .d (.rs 9000 0 v3.length)), (18001, .r (.arr 1 (v3.flatMap eI.o) []))] (cc0 ok200 (impl_Category_isoClasses_c a0 _ hv1) (by kernel_rfl) (cc (B := [7000]) (ρ := []) (rB := [(7000, .arr 1 (v1.flatMap eI.o) [])]) ok260 (impl_partition_leaders_c v1 _ hv2) (.cons (.of1 (.rs (r := 7000) (sz := 1) (refs := []) (memB (by kernel_rfl)) (by kernel_rfl) (bor_flat eI_ok _ _ _))) .nil) (.inr ⟨(.fr (nb_flat eI_nb _)), trivial⟩) (cc (B := [8000]) (ρ := []) (rB := [(8000, .arr 1 (v2.flatMap eI.o) [])]) ok259 (impl_Category_between_c a0 v2 _ hv3) (.cons (.same rfl) (.cons (.of1 (.rs (r := 8000) (sz := 1) (refs := []) (memB (by kernel_rfl)) (by kernel_rfl) (bor_flat eI_ok _ _ _))) .nil)) (.inr ⟨(.fr (nb_flat eI_nb _)), trivial⟩) .nil))) (by kernel_rfl) (by kernel_rfl) ?_
  refine tr_ret (rg_r ?_)
  obtain rfl := Option.some.inj hM
  exact retg (names := []) (.cons (lenO_flat eI_ok v3) .nil) (by kernel_rfl)

theorem ok197 : CallOk Try.prog 197 := callOk_of Try.func197 (by kernel_rfl) (by kernel_rfl)
theorem impl_Category_chosen_c (a0 : XCategory) (r : (List Int)) (hM : M.impl_Category_chosen a0 = some r) :
    FnC Try.prog 197 [] [.pt (eXCategory.b a0) 0] [] (.fr 1 r.length (r.flatMap eI.o)) := by
  refine fnc_startG (N := 47) (np := 500) hT Try.func197 rfl rfl (by kernel_rfl) ?_
  unfold M.impl_Category_chosen at hM
  refine tr_start (ks := [0]) (st' := [(0, .d (.pt (eXCategory.b a0) 0))]) (by kernel_rfl) ?_
  refine tr_sr hT hm [] [0] [(0, .d (.pt (eXCategory.b a0) 0))] .nil (by kernel_rfl) (by kernel_rfl) ?_
  obtain ⟨v1, hv1, hM⟩ := bind_some' hM
  refine tr_sr hT hm [(1, .call [] [] [.pt (eXCategory.b a0) 0] [] (.fr 1 v1.length (v1.flatMap eI.o)))] [0, 6, 24001] [(0, .d (.pt (eXCategory.b a0) 0)), (6, .d (.rs 12000 0 v1.length)), (24001, .r (.arr 1 (v1.flatMap eI.o) []))] (cc0 ok200 (impl_Category_isoClasses_c a0 _ hv1) (by kernel_rfl) .nil) (by kernel_rfl) (by kernel_rfl) ?_
  obtain ⟨v2, hv2, hM⟩ := bind_some' hM
  refine tr_sr hT hm [(1, .call [12000] [] [.sl v1.length 0 (v1.flatMap eI.b)] [] (.fr 1 v2.length (v2.flatMap eI.o)))] [0, 6, 8, 24001, 28001] [(0, .d (.pt (eXCategory.b a0) 0)), (6, .d (.rs 12000 0 v1.length)), (8, .d (.rs 14000 0 v2.length)), (24001, .r (.arr 1 (v1.flatMap eI.o) [])), (28001, .r (.arr 1 (v2.flatMap eI.o) []))] (cc (B := [12000]) (ρ := []) (rB := [(12000, .arr 1 (v1.flatMap eI.o) [])]) ok260 (impl_partition_leaders_c v1 _ hv2) (.cons (.of1 (.rs (r := 12000) (sz := 1) (refs := []) (memB (by kernel_rfl)) (by kernel_rfl) (bor_flat eI_ok _ _ _))) .nil) (.inr ⟨(.fr (nb_flat eI_nb _)), trivial⟩) .nil) (by kernel_rfl) (by kernel_rfl) ?_
  refine tr_sr hT hm [] [0, 6, 8, 10, 2027, 24001, 28001] [(0, .d (.pt (eXCategory.b a0) 0)), (6, .d (.rs 12000 0 v1.length)), (8, .d (.rs 14000 0 v2.length)), (10, .d (.rs 1013 0 (([] : List Int).length))), (2027, .r (.arr 1 (([] : List Int).flatMap eI.o) [])), (24001, .r (.arr 1 (v1.flatMap eI.o) [])), (28001, .r (.arr 1 (v2.flatMap eI.o) []))] .nil (by kernel_rfl) (by kernel_rfl) ?_
  refine tr_seq ?_
  refine tr_sr hT hm [] [0, 8, 10, 28, 30, 32, 2027, 24001, 28001] [(0, .d (.pt (eXCategory.b a0) 0)), (8, .d (.rs 14000 0 v2.length)), (10, .d (.rs 1013 0 (([] : List Int).length))), (28, .d (.rs 12000 0 v1.length)), (30, .d (iv (v1.length : Int))), (32, .d (iv 0)), (2027, .r (.arr 1 (([] : List Int).flatMap eI.o) [])), (24001, .r (.arr 1 (v1.flatMap eI.o) [])), (28001, .r (.arr 1 (v2.flatMap eI.o) []))] .nil (by kernel_rfl) (by kernel_rfl) ?_
  refine tr_block ?_
  refine tr_iterS (fun (s3 : (List Int) × Int) => [(0, .d (.pt (eXCategory.b a0) 0)), (8, .d (.rs 14000 0 v2.length)), (10, .d (.rs 1013 0 s3.1.length)), (28, .d (.rs 12000 0 v1.length)), (30, .d (iv (v1.length : Int))), (32, .d (iv s3.2)), (2027, .r (.arr 1 (s3.1.flatMap eI.o) [])), (24001, .r (.arr 1 (v1.flatMap eI.o) [])), (28001, .r (.arr 1 (v2.flatMap eI.o) []))]) (([] : List Int), 0) [0, 8, 10, 28, 30, 32, 2027, 24001, 28001] (by kernel_rfl) hM ?_
  intro n6 next4 ih5 s3 hM
  refine tr_sr hT hm [] [0, 8, 10, 28, 30, 32, 34, 2027, 24001, 28001] [(0, .d (.pt (eXCategory.b a0) 0)), (8, .d (.rs 14000 0 v2.length)), (10, .d (.rs 1013 0 s3.1.length)), (28, .d (.rs 12000 0 v1.length)), (30, .d (iv (v1.length : Int))), (32, .d (iv s3.2)), (34, .d (bv (decide (s3.2 < (v1.length : Int))))), (2027, .r (.arr 1 (s3.1.flatMap eI.o) [])), (24001, .r (.arr 1 (v1.flatMap eI.o) [])), (28001, .r (.arr 1 (v2.flatMap eI.o) []))] .nil (by kernel_rfl) (by kernel_rfl) ?_
  refine tr_seq ?_
  rcases Bool.eq_false_or_eq_true (decide (s3.2 < (v1.length : Int))) with h7 | h7
  · have hM := ite_true' hM h7
    refine tr_condTe (e := decide (s3.2 < (v1.length : Int))) h7 (by kernel_rfl) ?_
    refine tr_skip (q_n ?_)
    refine tr_seq ?_
    refine tr_block ?_
    obtain ⟨y8, hy8, hM⟩ := bind_some' hM
    have hy8' := idx_some hy8
    refine tr_sr hT hm [(2, .val (iv y8))] [0, 8, 10, 12, 14, 28, 30, 32, 2027, 24001, 28001] [(0, .d (.pt (eXCategory.b a0) 0)), (8, .d (.rs 14000 0 v2.length)), (10, .d (.rs 1013 0 s3.1.length)), (12, .d (iv s3.2)), (14, .d (iv y8)), (28, .d (.rs 12000 0 v1.length)), (30, .d (iv (v1.length : Int))), (32, .d (iv s3.2)), (2027, .r (.arr 1 (s3.1.flatMap eI.o) [])), (24001, .r (.arr 1 (v1.flatMap eI.o) [])), (28001, .r (.arr 1 (v2.flatMap eI.o) []))] (.cons hy8'.1 (.cons hy8'.2.1 (.cons (at_o0 eI_ok hy8'.2.2 (d := iv y8) (by kernel_rfl)) .nil))) (by kernel_rfl) (by kernel_rfl) ?_
    obtain ⟨y9, hy9, hM⟩ := bind_some' hM
    have hy9' := idx_some hy9
    refine tr_sr hT hm [(3, .val (iv y9))] [0, 8, 10, 12, 16, 28, 30, 32, 2027, 24001, 28001] [(0, .d (.pt (eXCategory.b a0) 0)), (8, .d (.rs 14000 0 v2.length)), (10, .d (.rs 1013 0 s3.1.length)), (12, .d (iv s3.2)), (16, .d (iv y9)), (28, .d (.rs 12000 0 v1.length)), (30, .d (iv (v1.length : Int))), (32, .d (iv s3.2)), (2027, .r (.arr 1 (s3.1.flatMap eI.o) [])), (24001, .r (.arr 1 (v1.flatMap eI.o) [])), (28001, .r (.arr 1 (v2.flatMap eI.o) []))] (.cons hy9'.1 (.cons hy9'.2.1 (.cons (at_o0 eI_ok hy9'.2.2 (d := iv y9) (by kernel_rfl)) .nil))) (by kernel_rfl) (by kernel_rfl) ?_
    refine tr_seq ?_
    refine tr_sr hT hm [] [0, 8, 10, 12, 16, 28, 30, 32, 54, 2027, 24001, 28001] [(0, .d (.pt (eXCategory.b a0) 0)), (8, .d (.rs 14000 0 v2.length)), (10, .d (.rs 1013 0 s3.1.length)), (12, .d (iv s3.2)), (16, .d (iv y9)), (28, .d (.rs 12000 0 v1.length)), (30, .d (iv (v1.length : Int))), (32, .d (iv s3.2)), (54, .d (bv (s3.2 == y9))), (2027, .r (.arr 1 (s3.1.flatMap eI.o) [])), (24001, .r (.arr 1 (v1.flatMap eI.o) [])), (28001, .r (.arr 1 (v2.flatMap eI.o) []))] .nil (by kernel_rfl) (by kernel_rfl) ?_
    rcases Bool.eq_false_or_eq_true (s3.2 == y9) with h10 | h10
    · have hM := ite_true' hM h10
      refine tr_condTe (e := s3.2 == y9) h10 (by kernel_rfl) ?_
      obtain ⟨y11, hy11, hM⟩ := bind_some' hM
      have hy11' := idx_some hy11
      obtain ⟨h12, hM⟩ := chk_some hM
      refine tr_sr hT hm [(7, .val (iv y11)), (9, .app true)] [0, 8, 10, 28, 30, 32, 2075, 24001, 28001] [(0, .d (.pt (eXCategory.b a0) 0)), (8, .d (.rs 14000 0 v2.length)), (10, .d (.rs 1037 0 (s3.1.length + (([y11] : List Int).length)))), (28, .d (.rs 12000 0 v1.length)), (30, .d (iv (v1.length : Int))), (32, .d (iv s3.2)), (2075, .r (.arr 1 (s3.1.flatMap eI.o ++ ([y11] : List Int).flatMap eI.o) [])), (24001, .r (.arr 1 (v1.flatMap eI.o) [])), (28001, .r (.arr 1 (v2.flatMap eI.o) []))] (.cons hy11'.1 (.cons hy11'.2.1 (.cons (at_b0 eI_ok hy11'.2.2 (d := iv y11) (by kernel_rfl)) (.cons (lenO_flat eI_ok s3.1) (.cons (lenO_flat eI_ok ([y11] : List Int)) (.cons h12 .nil)))))) (by kernel_rfl) (by kernel_rfl) ?_
      refine Tr.by (imp_cvE (r := 1037) (sz := 1) (refs := []) (flat_app eI.o s3.1 ([y11] : List Int)) (menO_flat eI_ok _) (by kernel_rfl)) ?_
      refine Tr.by (imp_cvD (k := 10) (congrArg (D.rs 1037 0) ((len_app s3.1 ([y11] : List Int)) : s3.1.length + (([y11] : List Int).length) = (s3.1 ++ ([y11] : List Int)).length)) (by kernel_rfl)) ?_
      refine tr_exit (q_x (b_h (q_n ?_)))
      refine tr_r hT hm [] [0, 8, 10, 28, 30, 32, 2075, 24001, 28001] [(0, .d (.pt (eXCategory.b a0) 0)), (8, .d (.rs 14000 0 v2.length)), (10, .d (.rs 1037 0 ((s3.1 ++ ([y11] : List Int)).length))), (28, .d (.rs 12000 0 v1.length)), (30, .d (iv (v1.length : Int))), (32, .d (iv (IntKind.i64.wrap (s3.2 + 1)))), (2075, .r (.arr 1 ((s3.1 ++ ([y11] : List Int)).flatMap eI.o) [])), (24001, .r (.arr 1 (v1.flatMap eI.o) [])), (28001, .r (.arr 1 (v2.flatMap eI.o) []))] .nil (by kernel_rfl) (by kernel_rfl) (l_n ?_)
      refine TrL.by (imp_sel (ks := [0, 8, 10, 28, 30, 32, 2075, 24001, 28001]) (st' := [(0, .d (.pt (eXCategory.b a0) 0)), (8, .d (.rs 14000 0 v2.length)), (10, .d (.rs 1037 0 ((s3.1 ++ ([y11] : List Int)).length))), (28, .d (.rs 12000 0 v1.length)), (30, .d (iv (v1.length : Int))), (32, .d (iv (IntKind.i64.wrap (s3.2 + 1)))), (2075, .r (.arr 1 ((s3.1 ++ ([y11] : List Int)).flatMap eI.o) [])), (24001, .r (.arr 1 (v1.flatMap eI.o) [])), (28001, .r (.arr 1 (v2.flatMap eI.o) []))]) (by kernel_rfl)) ?_
      refine TrL.by (imp_rename (r := 1037) (q := 1013) (by kernel_rfl) (Nat.le_of_ble_eq_true rfl)) ?_
      exact trl_start (ks := [0, 8, 10, 28, 30, 32, 2027, 24001, 28001]) (by kernel_rfl) (ih5 (s3.1 ++ ([y11] : List Int), IntKind.i64.wrap (s3.2 + 1)) hM)
    · have hM := ite_false' hM h10
      refine tr_condFe (e := s3.2 == y9) h10 (by kernel_rfl) ?_
      refine tr_skip (q_n ?_)
      obtain ⟨v13, hv13, hM⟩ := bind_some' hM
      obtain ⟨h14, hM⟩ := chk_some hM
      refine tr_r hT hm [(4, .call [] [] [.pt (eXCategory.b a0) 0, iv s3.2, iv y9] [] (iv v13)), (6, .app true)] [0, 8, 10, 28, 30, 32, 2089, 24001, 28001] [(0, .d (.pt (eXCategory.b a0) 0)), (8, .d (.rs 14000 0 v2.length)), (10, .d (.rs 1044 0 (s3.1.length + (([v13] : List Int).length)))), (28, .d (.rs 12000 0 v1.length)), (30, .d (iv (v1.length : Int))), (32, .d (iv s3.2)), (2089, .r (.arr 1 (s3.1.flatMap eI.o ++ ([v13] : List Int).flatMap eI.o) [])), (24001, .r (.arr 1 (v1.flatMap eI.o) [])), (28001, .r (.arr 1 (v2.flatMap eI.o) []))] (cc0 ok249 (impl_Category_isomorphic_c a0 s3.2 y9 _ hv13) (by kernel_rfl) (.cons (lenO_flat eI_ok s3.1) (.cons (lenO_flat eI_ok ([v13] : List Int)) (.cons h14 .nil)))) (by kernel_rfl) (by kernel_rfl) (b_n (q_n ?_))
      refine Tr.by (imp_cvE (r := 1044) (sz := 1) (refs := []) (flat_app eI.o s3.1 ([v13] : List Int)) (menO_flat eI_ok _) (by kernel_rfl)) ?_
      refine Tr.by (imp_cvD (k := 10) (congrArg (D.rs 1044 0) ((len_app s3.1 ([v13] : List Int)) : s3.1.length + (([v13] : List Int).length) = (s3.1 ++ ([v13] : List Int)).length)) (by kernel_rfl)) ?_
      refine tr_r hT hm [] [0, 8, 10, 28, 30, 32, 2089, 24001, 28001] [(0, .d (.pt (eXCategory.b a0) 0)), (8, .d (.rs 14000 0 v2.length)), (10, .d (.rs 1044 0 ((s3.1 ++ ([v13] : List Int)).length))), (28, .d (.rs 12000 0 v1.length)), (30, .d (iv (v1.length : Int))), (32, .d (iv (IntKind.i64.wrap (s3.2 + 1)))), (2089, .r (.arr 1 ((s3.1 ++ ([v13] : List Int)).flatMap eI.o) [])), (24001, .r (.arr 1 (v1.flatMap eI.o) [])), (28001, .r (.arr 1 (v2.flatMap eI.o) []))] .nil (by kernel_rfl) (by kernel_rfl) (l_n ?_)
      refine TrL.by (imp_sel (ks := [0, 8, 10, 28, 30, 32, 2089, 24001, 28001]) (st' := [(0, .d (.pt (eXCategory.b a0) 0)), (8, .d (.rs 14000 0 v2.length)), (10, .d (.rs 1044 0 ((s3.1 ++ ([v13] : List Int)).length))), (28, .d (.rs 12000 0 v1.length)), (30, .d (iv (v1.length : Int))), (32, .d (iv (IntKind.i64.wrap (s3.2 + 1)))), (2089, .r (.arr 1 ((s3.1 ++ ([v13] : List Int)).flatMap eI.o) [])), (24001, .r (.arr 1 (v1.flatMap eI.o) [])), (28001, .r (.arr 1 (v2.flatMap eI.o) []))]) (by kernel_rfl)) ?_
      refine TrL.by (imp_rename (r := 1044) (q := 1013) (by kernel_rfl) (Nat.le_of_ble_eq_true rfl)) ?_
      exact trl_start (ks := [0, 8, 10, 28, 30, 32, 2027, 24001, 28001]) (by kernel_rfl) (ih5 (s3.1 ++ ([v13] : List Int), IntKind.i64.wrap (s3.2 + 1)) hM)
  · have hM := ite_false' hM h7
    refine tr_condFe (e := decide (s3.2 < (v1.length : Int))) h7 (by kernel_rfl) ?_
    refine tr_exit (q_x (l_x (b_h (q_n ?_))))
    refine tr_sr hT hm [] [4, 2027] [(4, .d (.rs 1013 0 s3.1.length)), (2027, .r (.arr 1 (s3.1.flatMap eI.o) []))] .nil (by kernel_rfl) (by kernel_rfl) ?_
    refine tr_ret (rg_r ?_)
    obtain rfl := Option.some.inj hM
    exact retg (names := []) (.cons (lenO_flat eI_ok s3.1) .nil) (by kernel_rfl)

theorem ok116 : CallOk Try.prog 116 := callOk_of Try.func116 (by kernel_rfl) (by kernel_rfl)
theorem impl_Category_toSkeleton_c (a0 : XCategory) (r : XFunctor) (hM : M.impl_Category_toSkeleton a0 = some r) :
    FnC Try.prog 116 [] [.pt (eXCategory.b a0) 0] [] (.agg (eXFunctor.o r)) := by
  refine fnc_startG (N := 68) (np := 500) hT Try.func116 rfl rfl (by kernel_rfl) ?_
  unfold M.impl_Category_toSkeleton at hM
  refine tr_start (ks := [0]) (st' := [(0, .d (.pt (eXCategory.b a0) 0))]) (by kernel_rfl) ?_
  refine tr_sr hT hm [] [0, 4, 2005] [(0, .d (.pt (eXCategory.b a0) 0)), (4, .d (.rp 1002 0)), (2005, .r (.arr 1 [iv 0, nilv, nilv, nilv, nilv, iv 0, nilv, nilv, nilv, nilv, nilv, nilv] []))] .nil (by kernel_rfl) (by kernel_rfl) ?_
  obtain ⟨v1, hv1, hM⟩ := bind_some' hM
  refine tr_sr hT hm [(1, .call [] [] [.pt (eXCategory.b a0) 0] [] (.fr 1 v1.length (v1.flatMap eI.o)))] [0, 4, 6, 2005, 26001] [(0, .d (.pt (eXCategory.b a0) 0)), (4, .d (.rp 1002 0)), (6, .d (.rs 13000 0 v1.length)), (2005, .r (.arr 1 [iv 0, nilv, nilv, nilv, nilv, iv 0, nilv, nilv, nilv, nilv, nilv, nilv] [])), (26001, .r (.arr 1 (v1.flatMap eI.o) []))] (cc0 ok196 (impl_Category_skeletonArrows_c a0 _ hv1) (by kernel_rfl) .nil) (by kernel_rfl) (by kernel_rfl) ?_
  obtain ⟨v2, hv2, hM⟩ := bind_some' hM
  refine tr_sr hT hm [(2, .call [13000] [] [.pt (eXCategory.b a0) 0, .sl v1.length 0 (v1.flatMap eI.b)] [] (.tup [.agg (eXCategory.o v2.1), .fr 1 v2.2.length (v2.2.flatMap eI.o)]))] [0, 4, 6, 8, 2005, 2009, 26001, 34003, 34005, 34007, 34009] ([(0, .d (.pt (eXCategory.b a0) 0)), (4, .d (.rp 1002 0)), (6, .d (.rs 13000 0 v1.length)), (8, .d (.rp 1004 0)), (2005, .r (.arr 1 [iv 0, nilv, nilv, nilv, nilv, iv 0, nilv, nilv, nilv, nilv, nilv, nilv] [])), bxO 2009 17000 (eXCategory.o v2.1), (26001, .r (.arr 1 (v1.flatMap eI.o) []))] ++ rsS 17000 (eXCategory.o v2.1)) (cc (B := [13000]) (ρ := []) (rB := [(13000, .arr 1 (v1.flatMap eI.o) [])]) ok104 (impl_Category_sub_c a0 v1 _ hv2) (.cons (.same rfl) (.cons (.of1 (.rs (r := 13000) (sz := 1) (refs := []) (memB (by kernel_rfl)) (by kernel_rfl) (bor_flat eI_ok _ _ _))) .nil)) (.inr ⟨(nobor_tup (.cons (.agg (eXCategory_nb _)) (.cons (.fr (nb_flat eI_nb _)) .nil))), trivial⟩) (.cons (Nat.le_of_ble_eq_true (n := 5) (m := 5) rfl) .nil)) (by kernel_rfl) (by kernel_rfl) ?_
  obtain ⟨v3, hv3, hM⟩ := bind_some' hM
  refine tr_sr hT hm [(1, .call [] [] [.pt (eXCategory.b a0) 0] [] (.fr 1 v3.length (v3.flatMap eI.o)))] [0, 4, 6, 8, 12, 2005, 2009, 26001, 34003, 34005, 34007, 34009, 42001] ([(0, .d (.pt (eXCategory.b a0) 0)), (4, .d (.rp 1002 0)), (6, .d (.rs 13000 0 v1.length)), (8, .d (.rp 1004 0)), (12, .d (.rs 21000 0 v3.length)), (2005, .r (.arr 1 [iv 0, nilv, nilv, nilv, nilv, iv 0, nilv, nilv, nilv, nilv, nilv, nilv] [])), bxO 2009 17000 (eXCategory.o v2.1), (26001, .r (.arr 1 (v1.flatMap eI.o) []))] ++ rsS 17000 (eXCategory.o v2.1) ++ [(42001, .r (.arr 1 (v3.flatMap eI.o) []))]) (cc0 ok197 (impl_Category_chosen_c a0 _ hv3) (by kernel_rfl) .nil) (by kernel_rfl) (by kernel_rfl) ?_
  refine tr_sr hT hm [] [0, 4, 6, 8, 12, 14, 2005, 2009, 2041, 26001, 34003, 34005, 34007, 34009, 42001] ([(0, .d (.pt (eXCategory.b a0) 0)), (4, .d (.rp 1002 0)), (6, .d (.rs 13000 0 v1.length)), (8, .d (.rp 1004 0)), (12, .d (.rs 21000 0 v3.length)), (14, .d (.rs 1020 0 (([] : List Int).length))), (2005, .r (.arr 1 [iv 0, nilv, nilv, nilv, nilv, iv 0, nilv, nilv, nilv, nilv, nilv, nilv] [])), bxO 2009 17000 (eXCategory.o v2.1), (2041, .r (.arr 1 (([] : List Int).flatMap eI.o) [])), (26001, .r (.arr 1 (v1.flatMap eI.o) []))] ++ rsS 17000 (eXCategory.o v2.1) ++ [(42001, .r (.arr 1 (v3.flatMap eI.o) []))]) .nil (by kernel_rfl) (by kernel_rfl) ?_
  refine tr_seq ?_
  refine tr_sr hT hm [] [0, 4, 6, 8, 12, 14, 50, 52, 2005, 2009, 2041, 26001, 34003, 34005, 34007, 34009, 42001] ([(0, .d (.pt (eXCategory.b a0) 0)), (4, .d (.rp 1002 0)), (6, .d (.rs 13000 0 v1.length)), (8, .d (.rp 1004 0)), (12, .d (.rs 21000 0 v3.length)), (14, .d (.rs 1020 0 (([] : List Int).length))), (50, .d (iv (a0.From.length : Int))), (52, .d (iv 0)), (2005, .r (.arr 1 [iv 0, nilv, nilv, nilv, nilv, iv 0, nilv, nilv, nilv, nilv, nilv, nilv] [])), bxO 2009 17000 (eXCategory.o v2.1), (2041, .r (.arr 1 (([] : List Int).flatMap eI.o) [])), (26001, .r (.arr 1 (v1.flatMap eI.o) []))] ++ rsS 17000 (eXCategory.o v2.1) ++ [(42001, .r (.arr 1 (v3.flatMap eI.o) []))]) .nil (by kernel_rfl) (by kernel_rfl) ?_
  refine tr_block ?_
  refine tr_iterS (fun (s4 : (List Int) × Int) => ([(0, .d (.pt (eXCategory.b a0) 0)), (4, .d (.rp 1002 0)), (6, .d (.rs 13000 0 v1.length)), (8, .d (.rp 1004 0)), (12, .d (.rs 21000 0 v3.length)), (14, .d (.rs 1020 0 s4.1.length)), (50, .d (iv (a0.From.length : Int))), (52, .d (iv s4.2)), (2005, .r (.arr 1 [iv 0, nilv, nilv, nilv, nilv, iv 0, nilv, nilv, nilv, nilv, nilv, nilv] [])), bxO 2009 17000 (eXCategory.o v2.1), (2041, .r (.arr 1 (s4.1.flatMap eI.o) [])), (26001, .r (.arr 1 (v1.flatMap eI.o) []))] ++ rsS 17000 (eXCategory.o v2.1) ++ [(42001, .r (.arr 1 (v3.flatMap eI.o) []))])) (([] : List Int), 0) [0, 4, 6, 8, 12, 14, 50, 52, 2005, 2009, 2041, 26001, 34003, 34005, 34007, 34009, 42001] (by kernel_rfl) hM ?_
  intro n7 next5 ih6 s4 hM
  refine tr_sr hT hm [] [0, 4, 6, 8, 12, 14, 50, 52, 54, 2005, 2009, 2041, 26001, 34003, 34005, 34007, 34009, 42001] ([(0, .d (.pt (eXCategory.b a0) 0)), (4, .d (.rp 1002 0)), (6, .d (.rs 13000 0 v1.length)), (8, .d (.rp 1004 0)), (12, .d (.rs 21000 0 v3.length)), (14, .d (.rs 1020 0 s4.1.length)), (50, .d (iv (a0.From.length : Int))), (52, .d (iv s4.2)), (54, .d (bv (decide (s4.2 < (a0.From.length : Int))))), (2005, .r (.arr 1 [iv 0, nilv, nilv, nilv, nilv, iv 0, nilv, nilv, nilv, nilv, nilv, nilv] [])), bxO 2009 17000 (eXCategory.o v2.1), (2041, .r (.arr 1 (s4.1.flatMap eI.o) [])), (26001, .r (.arr 1 (v1.flatMap eI.o) []))] ++ rsS 17000 (eXCategory.o v2.1) ++ [(42001, .r (.arr 1 (v3.flatMap eI.o) []))]) .nil (by kernel_rfl) (by kernel_rfl) ?_
  refine tr_seq ?_
  rcases Bool.eq_false_or_eq_true (decide (s4.2 < (a0.From.length : Int))) with h8 | h8
  · have hM := ite_true' hM h8
    refine tr_condTe (e := decide (s4.2 < (a0.From.length : Int))) h8 (by kernel_rfl) ?_
    refine tr_skip (q_n ?_)
    refine tr_seq ?_
    refine tr_block ?_
    refine tr_sr hT hm [] [0, 4, 6, 8, 12, 14, 16, 50, 52, 2005, 2009, 2041, 26001, 34003, 34005, 34007, 34009, 42001] ([(0, .d (.pt (eXCategory.b a0) 0)), (4, .d (.rp 1002 0)), (6, .d (.rs 13000 0 v1.length)), (8, .d (.rp 1004 0)), (12, .d (.rs 21000 0 v3.length)), (14, .d (.rs 1020 0 s4.1.length)), (16, .d (iv s4.2)), (50, .d (iv (a0.From.length : Int))), (52, .d (iv s4.2)), (2005, .r (.arr 1 [iv 0, nilv, nilv, nilv, nilv, iv 0, nilv, nilv, nilv, nilv, nilv, nilv] [])), bxO 2009 17000 (eXCategory.o v2.1), (2041, .r (.arr 1 (s4.1.flatMap eI.o) [])), (26001, .r (.arr 1 (v1.flatMap eI.o) []))] ++ rsS 17000 (eXCategory.o v2.1) ++ [(42001, .r (.arr 1 (v3.flatMap eI.o) []))]) .nil (by kernel_rfl) (by kernel_rfl) ?_
    obtain ⟨y9, hy9, hM⟩ := bind_some' hM
    have hy9' := idx_some hy9
    obtain ⟨y10, hy10, hM⟩ := bind_some' hM
    have hy10' := idx_some hy10
    obtain ⟨v11, hv11, hM⟩ := bind_some' hM
    obtain ⟨v12, hv12, hM⟩ := bind_some' hM
    obtain ⟨y13, hy13, hM⟩ := bind_some' hM
    have hy13' := idx_some hy13
    obtain ⟨y14, hy14, hM⟩ := bind_some' hM
    have hy14' := idx_some hy14
    obtain ⟨v15, hv15, hM⟩ := bind_some' hM
    refine tr_sr hT hm [(10, .val (iv y9)), (12, .val (iv y10)), (13, .call [] [] [.pt (eXCategory.b a0) 0, iv y10] [] (iv v11)), (15, .call [] [] [.pt (eXCategory.b a0) 0, iv v11, iv s4.2] [] (iv v12)), (23, .val (iv y13)), (25, .val (iv y14)), (26, .call [] [] [.pt (eXCategory.b a0) 0, iv v12, iv y14] [] (iv v15))] [0, 4, 6, 8, 12, 14, 18, 50, 52, 2005, 2009, 2041, 26001, 34003, 34005, 34007, 34009, 42001] ([(0, .d (.pt (eXCategory.b a0) 0)), (4, .d (.rp 1002 0)), (6, .d (.rs 13000 0 v1.length)), (8, .d (.rp 1004 0)), (12, .d (.rs 21000 0 v3.length)), (14, .d (.rs 1020 0 s4.1.length)), (18, .d (iv v15)), (50, .d (iv (a0.From.length : Int))), (52, .d (iv s4.2)), (2005, .r (.arr 1 [iv 0, nilv, nilv, nilv, nilv, iv 0, nilv, nilv, nilv, nilv, nilv, nilv] [])), bxO 2009 17000 (eXCategory.o v2.1), (2041, .r (.arr 1 (s4.1.flatMap eI.o) [])), (26001, .r (.arr 1 (v1.flatMap eI.o) []))] ++ rsS 17000 (eXCategory.o v2.1) ++ [(42001, .r (.arr 1 (v3.flatMap eI.o) []))]) (.cons hy9'.1 (.cons hy9'.2.1 (.cons (at_b0 eI_ok hy9'.2.2 (d := iv y9) (by kernel_rfl)) (.cons hy10'.1 (.cons hy10'.2.1 (.cons (at_o0 eI_ok hy10'.2.2 (d := iv y10) (by kernel_rfl)) (cc0 ok198 (impl_Category_inverse_c a0 y10 _ hv11) (by kernel_rfl) (cc0 ok163 (impl_Category_then_c a0 v11 s4.2 _ hv12) (by kernel_rfl) (.cons hy13'.1 (.cons hy13'.2.1 (.cons (at_b0 eI_ok hy13'.2.2 (d := iv y13) (by kernel_rfl)) (.cons hy14'.1 (.cons hy14'.2.1 (.cons (at_o0 eI_ok hy14'.2.2 (d := iv y14) (by kernel_rfl)) (cc0 ok163 (impl_Category_then_c a0 v12 y14 _ hv15) (by kernel_rfl) .nil))))))))))))))) (by kernel_rfl) (by kernel_rfl) ?_
    obtain ⟨v16, hv16, hM⟩ := bind_some' hM
    obtain ⟨h17, hM⟩ := chk_some hM
    refine tr_r hT hm [(3, .call [13000] [] [.sl v1.length 0 (v1.flatMap eI.b), iv v15] [] (iv v16)), (5, .app true)] [0, 4, 6, 8, 12, 14, 50, 52, 2005, 2009, 2123, 26001, 34003, 34005, 34007, 34009, 42001] ([(0, .d (.pt (eXCategory.b a0) 0)), (4, .d (.rp 1002 0)), (6, .d (.rs 13000 0 v1.length)), (8, .d (.rp 1004 0)), (12, .d (.rs 21000 0 v3.length)), (14, .d (.rs 1061 0 (s4.1.length + (([v16] : List Int).length)))), (50, .d (iv (a0.From.length : Int))), (52, .d (iv s4.2)), (2005, .r (.arr 1 [iv 0, nilv, nilv, nilv, nilv, iv 0, nilv, nilv, nilv, nilv, nilv, nilv] [])), bxO 2009 17000 (eXCategory.o v2.1), (2123, .r (.arr 1 (s4.1.flatMap eI.o ++ ([v16] : List Int).flatMap eI.o) [])), (26001, .r (.arr 1 (v1.flatMap eI.o) []))] ++ rsS 17000 (eXCategory.o v2.1) ++ [(42001, .r (.arr 1 (v3.flatMap eI.o) []))]) (cc (B := [13000]) (ρ := []) (rB := [(13000, .arr 1 (v1.flatMap eI.o) [])]) ok199 (impl_index_int64_c v1 v15 _ hv16) (.cons (.of1 (.rs (r := 13000) (sz := 1) (refs := []) (memB (by kernel_rfl)) (by kernel_rfl) (bor_flat eI_ok _ _ _))) (.cons (.same rfl) .nil)) (.inr ⟨.v, trivial⟩) (.cons (lenO_flat eI_ok s4.1) (.cons (lenO_flat eI_ok ([v16] : List Int)) (.cons h17 .nil)))) (by kernel_rfl) (by kernel_rfl) (b_n (q_n ?_))
    refine Tr.by (imp_cvE (r := 1061) (sz := 1) (refs := []) (flat_app eI.o s4.1 ([v16] : List Int)) (menO_flat eI_ok _) (by kernel_rfl)) ?_
    refine Tr.by (imp_cvD (k := 14) (congrArg (D.rs 1061 0) ((len_app s4.1 ([v16] : List Int)) : s4.1.length + (([v16] : List Int).length) = (s4.1 ++ ([v16] : List Int)).length)) (by kernel_rfl)) ?_
    refine tr_r hT hm [] [0, 4, 6, 8, 12, 14, 50, 52, 2005, 2009, 2123, 26001, 34003, 34005, 34007, 34009, 42001] ([(0, .d (.pt (eXCategory.b a0) 0)), (4, .d (.rp 1002 0)), (6, .d (.rs 13000 0 v1.length)), (8, .d (.rp 1004 0)), (12, .d (.rs 21000 0 v3.length)), (14, .d (.rs 1061 0 ((s4.1 ++ ([v16] : List Int)).length))), (50, .d (iv (a0.From.length : Int))), (52, .d (iv (IntKind.i64.wrap (s4.2 + 1)))), (2005, .r (.arr 1 [iv 0, nilv, nilv, nilv, nilv, iv 0, nilv, nilv, nilv, nilv, nilv, nilv] [])), bxO 2009 17000 (eXCategory.o v2.1), (2123, .r (.arr 1 ((s4.1 ++ ([v16] : List Int)).flatMap eI.o) [])), (26001, .r (.arr 1 (v1.flatMap eI.o) []))] ++ rsS 17000 (eXCategory.o v2.1) ++ [(42001, .r (.arr 1 (v3.flatMap eI.o) []))]) .nil (by kernel_rfl) (by kernel_rfl) (l_n ?_)
    refine TrL.by (imp_sel (ks := [0, 4, 6, 8, 12, 14, 50, 52, 2005, 2009, 2123, 26001, 34003, 34005, 34007, 34009, 42001]) (st' := ([(0, .d (.pt (eXCategory.b a0) 0)), (4, .d (.rp 1002 0)), (6, .d (.rs 13000 0 v1.length)), (8, .d (.rp 1004 0)), (12, .d (.rs 21000 0 v3.length)), (14, .d (.rs 1061 0 ((s4.1 ++ ([v16] : List Int)).length))), (50, .d (iv (a0.From.length : Int))), (52, .d (iv (IntKind.i64.wrap (s4.2 + 1)))), (2005, .r (.arr 1 [iv 0, nilv, nilv, nilv, nilv, iv 0, nilv, nilv, nilv, nilv, nilv, nilv] [])), bxO 2009 17000 (eXCategory.o v2.1), (2123, .r (.arr 1 ((s4.1 ++ ([v16] : List Int)).flatMap eI.o) [])), (26001, .r (.arr 1 (v1.flatMap eI.o) []))] ++ rsS 17000 (eXCategory.o v2.1) ++ [(42001, .r (.arr 1 (v3.flatMap eI.o) []))])) (by kernel_rfl)) ?_
    refine TrL.by (imp_rename (r := 1061) (q := 1020) (by kernel_rfl) (Nat.le_of_ble_eq_true rfl)) ?_
    exact trl_start (ks := [0, 4, 6, 8, 12, 14, 50, 52, 2005, 2009, 2041, 26001, 34003, 34005, 34007, 34009, 42001]) (by kernel_rfl) (ih6 (s4.1 ++ ([v16] : List Int), IntKind.i64.wrap (s4.2 + 1)) hM)
  · have hM := ite_false' hM h8
    refine tr_condFe (e := decide (s4.2 < (a0.From.length : Int))) h8 (by kernel_rfl) ?_
    refine tr_exit (q_x (l_x (b_h (q_n ?_))))
    obtain ⟨v18, hv18, hM⟩ := bind_some' hM
    obtain ⟨v19, hv19, hM⟩ := bind_some' hM
    refine tr_sr hT hm [(2, .call [] [] [.pt (eXCategory.b a0) 0] [] (.fr 1 v18.length (v18.flatMap eI.o))), (4, .call ([1004] ++ rsR 17000 (eXCategory.o v2.1) ++ [67000, 1020]) [] [.pt (eXCategory.b a0) 0, .pt (eXCategory.b v2.1) 0, .sl v18.length 0 (v18.flatMap eI.b), .sl s4.1.length 0 (s4.1.flatMap eI.b)] [] (.agg (eXFunctor.o v19)))] [4, 2005, 138003, 138005, 138007, 138009, 138013, 138015, 138017, 138019, 138021, 138023] ([(4, .d (.rp 1002 0)), bxO 2005 69000 (eXFunctor.o v19)] ++ rsS 69000 (eXFunctor.o v19)) (cc0 ok200 (impl_Category_isoClasses_c a0 _ hv18) (by kernel_rfl) (cc (B := ([1004] ++ rsR 17000 (eXCategory.o v2.1) ++ [67000, 1020])) (ρ := []) (rB := ([(1004, .arr 1 [iv v2.1.Objects, .rs 17001 0 v2.1.From.length, .rs 17002 0 v2.1.To.length, .rs 17003 0 v2.1.Identity.length, .rs 17004 0 v2.1.Composites.length] [17001, 17002, 17003, 17004])] ++ rsP 17000 (eXCategory.o v2.1) ++ [(67000, .arr 1 (v18.flatMap eI.o) []), (1020, .arr 1 (s4.1.flatMap eI.o) [])])) ok105 (impl_functor_c a0 v2.1 v18 s4.1 _ hv19) (.cons (.same rfl) (.cons (.of1 (.rp (r := 1004) (sz := 1) (cells := [iv v2.1.Objects, .rs 17001 0 v2.1.From.length, .rs 17002 0 v2.1.To.length, .rs 17003 0 v2.1.Identity.length, .rs 17004 0 v2.1.Composites.length]) (refs := [17001, 17002, 17003, 17004]) (memB (by kernel_rfl)) (by kernel_rfl) (.cons .v (.cons (.rs (r := 17001) (sz := 1) (refs := []) (memB (by kernel_rfl)) (by kernel_rfl) (bor_flat eI_ok _ _ _)) (.cons (.rs (r := 17002) (sz := 1) (refs := []) (memB (by kernel_rfl)) (by kernel_rfl) (bor_flat eI_ok _ _ _)) (.cons (.rs (r := 17003) (sz := 1) (refs := []) (memB (by kernel_rfl)) (by kernel_rfl) (bor_flat eI_ok _ _ _)) (.cons (.rs (r := 17004) (sz := 1) (refs := []) (memB (by kernel_rfl)) (by kernel_rfl) (bor_flat (eS_ok eI_ok) _ _ _)) .nil))))))) (.cons (.of1 (.rs (r := 67000) (sz := 1) (refs := []) (memB (by kernel_rfl)) (by kernel_rfl) (bor_flat eI_ok _ _ _))) (.cons (.of1 (.rs (r := 1020) (sz := 1) (refs := []) (memB (by kernel_rfl)) (by kernel_rfl) (bor_flat eI_ok _ _ _))) .nil)))) (.inr ⟨(.agg (eXFunctor_nb _)), trivial⟩) (.cons (Nat.le_of_ble_eq_true (n := 12) (m := 12) rfl) .nil))) (by kernel_rfl) (by kernel_rfl) ?_
    refine tr_ret (rg_r ?_)
    obtain rfl := Option.some.inj hM
    exact retg (names := []) (.cons (lenO_flat eI_ok v19.Source.From) (.cons (lenO_flat eI_ok v19.Source.To) (.cons (lenO_flat eI_ok v19.Source.Identity) (.cons (lenO_flat (eS_ok eI_ok) v19.Source.Composites) (.cons (lenO_flat eI_ok v19.Target.From) (.cons (lenO_flat eI_ok v19.Target.To) (.cons (lenO_flat eI_ok v19.Target.Identity) (.cons (lenO_flat (eS_ok eI_ok) v19.Target.Composites) (.cons (lenO_flat eI_ok v19.Objects) (.cons (lenO_flat eI_ok v19.Arrows) .nil)))))))))) (by kernel_rfl)

end Go.Proofs.Ytiikkfdehbcfaaa.Wz15
