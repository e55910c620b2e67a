/- Walks. Printed by wip/gen. -/
import Derived.Test.YtjmjhhhglbeacaaGxy57W
namespace Go.Proofs.Ytjmjhhhglbeacaa.Wy57
open Go.Gx Go.Proofs.Ytjmjhhhglbeacaa.WvB Go.Proofs.Ytjmjhhhglbeacaa.WvS Go.Proofs.Ytjmjhhhglbeacaa.WvQ Go.Proofs.Ytjmjhhhglbeacaa.WyG Go.Proofs.Ytjmjhhhglbeacaa.WvH

theorem ok154 : CallOk Try.prog 154 := callOk_of Try.func154 (by kernel_rfl) (by kernel_rfl)
theorem spec_l22Power_c (a0 : Int) (a1 : Int) (r : Int) (hM : M.spec_l22Power a0 a1 = some r) :
    FnC Try.prog 154 [] [iv a0, iv a1] [] (iv r) := by
  refine fnc_startG (N := 20) (np := 500) hT Try.func154 rfl rfl (by kernel_rfl) ?_
  unfold M.spec_l22Power at hM
  refine tr_start (ks := [0, 2]) (st' := [(0, .d (iv a0)), (2, .d (iv a1))]) (by kernel_rfl) ?_
  refine tr_sr hT hm [] [0, 2] [(0, .d (iv a0)), (2, .d (iv a1))] .nil (by kernel_rfl) (by kernel_rfl) ?_
  refine tr_sr hT hm [] [0, 2, 10] [(0, .d (iv a0)), (2, .d (iv a1)), (10, .d (iv 1))] .nil (by kernel_rfl) (by kernel_rfl) ?_
  refine tr_seq ?_
  refine tr_sr hT hm [] [0, 2, 10, 12] [(0, .d (iv a0)), (2, .d (iv a1)), (10, .d (iv 1)), (12, .d (iv 0))] .nil (by kernel_rfl) (by kernel_rfl) ?_
  refine tr_block ?_
  refine tr_iterS (fun (s1 : Int × Int) => [(0, .d (iv a0)), (2, .d (iv a1)), (10, .d (iv s1.1)), (12, .d (iv s1.2))]) (1, 0) [0, 2, 10, 12] (by kernel_rfl) hM ?_
  intro n4 next2 ih3 s1 hM
  refine tr_seq ?_
  rcases Bool.eq_false_or_eq_true (decide (s1.2 < a0)) with h5 | h5
  · have hM := ite_true' hM h5
    refine tr_sr hT hm [(3, .val (bv true))] [0, 2, 10, 12, 22, 24, 26] [(0, .d (iv a0)), (2, .d (iv a1)), (10, .d (iv s1.1)), (12, .d (iv s1.2)), (22, .d (iv s1.1)), (24, .d (bv (decide (s1.1 ≤ 64)))), (26, .d (bv (decide (s1.1 ≤ 64))))] (.cons (congrArg (fun b => bv b) h5) .nil) (by kernel_rfl) (by kernel_rfl) ?_
    rcases Bool.eq_false_or_eq_true (decide (s1.1 ≤ 64)) with h6 | h6
    · have hM := ite_true' hM h6
      refine tr_condTe (e := decide (s1.1 ≤ 64)) h6 (by kernel_rfl) ?_
      refine tr_skip (q_n ?_)
      refine tr_seq ?_
      refine tr_block ?_
      refine tr_r hT hm [] [0, 2, 10, 12, 22, 24] [(0, .d (iv a0)), (2, .d (iv a1)), (10, .d (iv (IntKind.i64.wrap (s1.1 * a1)))), (12, .d (iv s1.2)), (22, .d (iv s1.1)), (24, .d (bv (decide (s1.1 ≤ 64))))] .nil (by kernel_rfl) (by kernel_rfl) (b_n (q_n ?_))
      refine tr_r hT hm [] [0, 2, 10, 12, 22, 24] [(0, .d (iv a0)), (2, .d (iv a1)), (10, .d (iv (IntKind.i64.wrap (s1.1 * a1)))), (12, .d (iv (IntKind.i64.wrap (s1.2 + 1)))), (22, .d (iv s1.1)), (24, .d (bv (decide (s1.1 ≤ 64))))] .nil (by kernel_rfl) (by kernel_rfl) (l_n ?_)
      exact trl_start (ks := [0, 2, 10, 12]) (by kernel_rfl) (ih3 (IntKind.i64.wrap (s1.1 * a1), IntKind.i64.wrap (s1.2 + 1)) hM)
    · have hM := ite_false' hM h6
      refine tr_condFe (e := decide (s1.1 ≤ 64)) h6 (by kernel_rfl) ?_
      refine tr_exit (q_x (l_x (b_h (q_n ?_))))
      refine tr_sr hT hm [] [8] [(8, .d (iv s1.1))] .nil (by kernel_rfl) (by kernel_rfl) ?_
      refine tr_ret (rg_r ?_)
      obtain rfl := Option.some.inj hM
      exact retg (names := []) .nil (by kernel_rfl)
  · have hM := ite_false' hM h5
    refine tr_sr hT hm [(3, .val (bv false))] [0, 2, 10, 12, 26] [(0, .d (iv a0)), (2, .d (iv a1)), (10, .d (iv s1.1)), (12, .d (iv s1.2)), (26, .d (bv false))] (.cons (congrArg (fun b => bv b) h5) .nil) (by kernel_rfl) (by kernel_rfl) ?_
    refine tr_condF (by kernel_rfl) ?_
    refine tr_exit (q_x (l_x (b_h (q_n ?_))))
    refine tr_sr hT hm [] [8] [(8, .d (iv s1.1))] .nil (by kernel_rfl) (by kernel_rfl) ?_
    refine tr_ret (rg_r ?_)
    obtain rfl := Option.some.inj hM
    exact retg (names := []) .nil (by kernel_rfl)

theorem ok155 : CallOk Try.prog 155 := callOk_of Try.func155 (by kernel_rfl) (by kernel_rfl)
theorem spec_l22Repeat_c (a0 : Int) (a1 : Int) (r : (List Int)) (hM : M.spec_l22Repeat a0 a1 = some r) :
    FnC Try.prog 155 [] [iv a0, iv a1] [] (.fr 1 r.length (r.flatMap eI.o)) := by
  refine fnc_startG (N := 18) (np := 500) hT Try.func155 rfl rfl (by kernel_rfl) ?_
  unfold M.spec_l22Repeat at hM
  refine tr_start (ks := [0, 2]) (st' := [(0, .d (iv a0)), (2, .d (iv a1))]) (by kernel_rfl) ?_
  refine tr_sr hT hm [] [0, 2] [(0, .d (iv a0)), (2, .d (iv a1))] .nil (by kernel_rfl) (by kernel_rfl) ?_
  refine tr_sr hT hm [] [0, 2, 10, 2015] [(0, .d (iv a0)), (2, .d (iv a1)), (10, .d (.rs 1007 0 (([] : List Int).length))), (2015, .r (.arr 1 (([] : List Int).flatMap eI.o) []))] .nil (by kernel_rfl) (by kernel_rfl) ?_
  refine tr_seq ?_
  refine tr_sr hT hm [] [0, 2, 10, 12, 2015] [(0, .d (iv a0)), (2, .d (iv a1)), (10, .d (.rs 1007 0 (([] : List Int).length))), (12, .d (iv 0)), (2015, .r (.arr 1 (([] : List Int).flatMap eI.o) []))] .nil (by kernel_rfl) (by kernel_rfl) ?_
  refine tr_block ?_
  refine tr_iterS (fun (s1 : (List Int) × Int) => [(0, .d (iv a0)), (2, .d (iv a1)), (10, .d (.rs 1007 0 s1.1.length)), (12, .d (iv s1.2)), (2015, .r (.arr 1 (s1.1.flatMap eI.o) []))]) (([] : List Int), 0) [0, 2, 10, 12, 2015] (by kernel_rfl) hM ?_
  intro n4 next2 ih3 s1 hM
  refine tr_seq ?_
  refine tr_sr hT hm [] [0, 2, 10, 12, 20, 2015] [(0, .d (iv a0)), (2, .d (iv a1)), (10, .d (.rs 1007 0 s1.1.length)), (12, .d (iv s1.2)), (20, .d (bv (decide (s1.2 < a1)))), (2015, .r (.arr 1 (s1.1.flatMap eI.o) []))] .nil (by kernel_rfl) (by kernel_rfl) ?_
  rcases Bool.eq_false_or_eq_true (decide (s1.2 < a1)) with h5 | h5
  · have hM := ite_true' hM h5
    refine tr_condTe (e := decide (s1.2 < a1)) h5 (by kernel_rfl) ?_
    refine tr_skip (q_n ?_)
    refine tr_seq ?_
    refine tr_block ?_
    obtain ⟨h6, hM⟩ := chk_some hM
    refine tr_r hT hm [(3, .app true)] [0, 2, 10, 12, 2033] [(0, .d (iv a0)), (2, .d (iv a1)), (10, .d (.rs 1016 0 (s1.1.length + (([a0] : List Int).length)))), (12, .d (iv s1.2)), (2033, .r (.arr 1 (s1.1.flatMap eI.o ++ ([a0] : List Int).flatMap eI.o) []))] (.cons (lenO_flat eI_ok s1.1) (.cons (lenO_flat eI_ok ([a0] : List Int)) (.cons h6 .nil))) (by kernel_rfl) (by kernel_rfl) (b_n (q_n ?_))
    refine Tr.by (imp_cvE (r := 1016) (sz := 1) (refs := []) (flat_app eI.o s1.1 ([a0] : List Int)) (menO_flat eI_ok _) (by kernel_rfl)) ?_
    refine Tr.by (imp_cvD (k := 10) (congrArg (D.rs 1016 0) ((len_app s1.1 ([a0] : List Int)) : s1.1.length + (([a0] : List Int).length) = (s1.1 ++ ([a0] : List Int)).length)) (by kernel_rfl)) ?_
    refine tr_r hT hm [] [0, 2, 10, 12, 2033] [(0, .d (iv a0)), (2, .d (iv a1)), (10, .d (.rs 1016 0 ((s1.1 ++ ([a0] : List Int)).length))), (12, .d (iv (IntKind.i64.wrap (s1.2 + 1)))), (2033, .r (.arr 1 ((s1.1 ++ ([a0] : List Int)).flatMap eI.o) []))] .nil (by kernel_rfl) (by kernel_rfl) (l_n ?_)
    refine TrL.by (imp_sel (ks := [0, 2, 10, 12, 2033]) (st' := [(0, .d (iv a0)), (2, .d (iv a1)), (10, .d (.rs 1016 0 ((s1.1 ++ ([a0] : List Int)).length))), (12, .d (iv (IntKind.i64.wrap (s1.2 + 1)))), (2033, .r (.arr 1 ((s1.1 ++ ([a0] : List Int)).flatMap eI.o) []))]) (by kernel_rfl)) ?_
    refine TrL.by (imp_rename (r := 1016) (q := 1007) (by kernel_rfl) (Nat.le_of_ble_eq_true rfl)) ?_
    exact trl_start (ks := [0, 2, 10, 12, 2015]) (by kernel_rfl) (ih3 (s1.1 ++ ([a0] : List Int), IntKind.i64.wrap (s1.2 + 1)) hM)
  · have hM := ite_false' hM h5
    refine tr_condFe (e := decide (s1.2 < a1)) h5 (by kernel_rfl) ?_
    refine tr_exit (q_x (l_x (b_h (q_n ?_))))
    refine tr_sr hT hm [] [8, 2015] [(8, .d (.rs 1007 0 s1.1.length)), (2015, .r (.arr 1 (s1.1.flatMap eI.o) []))] .nil (by kernel_rfl) (by kernel_rfl) ?_
    refine tr_ret (rg_r ?_)
    obtain rfl := Option.some.inj hM
    exact retg (names := []) (.cons (lenO_flat eI_ok s1.1) .nil) (by kernel_rfl)

theorem ok156 : CallOk Try.prog 156 := callOk_of Try.func156 (by kernel_rfl) (by kernel_rfl)
theorem spec_l01Number_c (a0 : List Int) (a1 : List Int) (r : Int) (hM : M.spec_l01Number a0 a1 = some r) :
    FnC Try.prog 156 [] [.sl a0.length 0 (a0.flatMap eI.b), .sl a1.length 0 (a1.flatMap eI.b)] [] (iv r) := by
  refine fnc_startG (N := 25) (np := 500) hT Try.func156 rfl rfl (by kernel_rfl) ?_
  unfold M.spec_l01Number at hM
  refine tr_start (ks := [0, 2]) (st' := [(0, .d (.sl a0.length 0 (a0.flatMap eI.b))), (2, .d (.sl a1.length 0 (a1.flatMap eI.b)))]) (by kernel_rfl) ?_
  refine tr_sr hT hm [] [0, 2] [(0, .d (.sl a0.length 0 (a0.flatMap eI.b))), (2, .d (.sl a1.length 0 (a1.flatMap eI.b)))] .nil (by kernel_rfl) (by kernel_rfl) ?_
  refine tr_sr hT hm [] [0, 2, 10] [(0, .d (.sl a0.length 0 (a0.flatMap eI.b))), (2, .d (.sl a1.length 0 (a1.flatMap eI.b))), (10, .d (iv 0))] .nil (by kernel_rfl) (by kernel_rfl) ?_
  refine tr_seq ?_
  refine tr_sr hT hm [] [0, 2, 10, 12] [(0, .d (.sl a0.length 0 (a0.flatMap eI.b))), (2, .d (.sl a1.length 0 (a1.flatMap eI.b))), (10, .d (iv 0)), (12, .d (iv 0))] .nil (by kernel_rfl) (by kernel_rfl) ?_
  refine tr_block ?_
  refine tr_iterS (fun (s1 : Int × Int) => [(0, .d (.sl a0.length 0 (a0.flatMap eI.b))), (2, .d (.sl a1.length 0 (a1.flatMap eI.b))), (10, .d (iv s1.1)), (12, .d (iv s1.2))]) (0, 0) [0, 2, 10, 12] (by kernel_rfl) hM ?_
  intro n4 next2 ih3 s1 hM
  refine tr_seq ?_
  refine tr_sr hT hm [] [0, 2, 10, 12, 20] [(0, .d (.sl a0.length 0 (a0.flatMap eI.b))), (2, .d (.sl a1.length 0 (a1.flatMap eI.b))), (10, .d (iv s1.1)), (12, .d (iv s1.2)), (20, .d (bv (decide (s1.2 < (a1.length : Int)))))] .nil (by kernel_rfl) (by kernel_rfl) ?_
  rcases Bool.eq_false_or_eq_true (decide (s1.2 < (a1.length : Int))) with h5 | h5
  · have hM := ite_true' hM h5
    refine tr_condTe (e := decide (s1.2 < (a1.length : Int))) h5 (by kernel_rfl) ?_
    refine tr_skip (q_n ?_)
    refine tr_seq ?_
    refine tr_block ?_
    obtain ⟨y6, hy6, hM⟩ := bind_some' hM
    have hy6' := idx_some hy6
    obtain ⟨y7, hy7, hM⟩ := bind_some' hM
    have hy7' := idx_some hy7
    refine tr_r hT hm [(4, .val (iv y6)), (9, .val (iv y7))] [0, 2, 10, 12] [(0, .d (.sl a0.length 0 (a0.flatMap eI.b))), (2, .d (.sl a1.length 0 (a1.flatMap eI.b))), (10, .d (iv (IntKind.i64.wrap ((IntKind.i64.wrap (s1.1 * y6)) + y7)))), (12, .d (iv s1.2))] (.cons hy6'.1 (.cons hy6'.2.1 (.cons (at_b0 eI_ok hy6'.2.2 (d := iv y6) (by kernel_rfl)) (.cons hy7'.1 (.cons hy7'.2.1 (.cons (at_b0 eI_ok hy7'.2.2 (d := iv y7) (by kernel_rfl)) .nil)))))) (by kernel_rfl) (by kernel_rfl) (b_n (q_n ?_))
    refine tr_r hT hm [] [0, 2, 10, 12] [(0, .d (.sl a0.length 0 (a0.flatMap eI.b))), (2, .d (.sl a1.length 0 (a1.flatMap eI.b))), (10, .d (iv (IntKind.i64.wrap ((IntKind.i64.wrap (s1.1 * y6)) + y7)))), (12, .d (iv (IntKind.i64.wrap (s1.2 + 1))))] .nil (by kernel_rfl) (by kernel_rfl) (l_n ?_)
    exact trl_start (ks := [0, 2, 10, 12]) (by kernel_rfl) (ih3 (IntKind.i64.wrap ((IntKind.i64.wrap (s1.1 * y6)) + y7), IntKind.i64.wrap (s1.2 + 1)) hM)
  · have hM := ite_false' hM h5
    refine tr_condFe (e := decide (s1.2 < (a1.length : Int))) h5 (by kernel_rfl) ?_
    refine tr_exit (q_x (l_x (b_h (q_n ?_))))
    refine tr_sr hT hm [] [8] [(8, .d (iv s1.1))] .nil (by kernel_rfl) (by kernel_rfl) ?_
    refine tr_ret (rg_r ?_)
    obtain rfl := Option.some.inj hM
    exact retg (names := []) .nil (by kernel_rfl)

theorem ok158 : CallOk Try.prog 158 := callOk_of Try.func158 (by kernel_rfl) (by kernel_rfl)
theorem spec_l01At_c (a0 : List Int) (a1 : Int) (r : (List Int)) (hM : M.spec_l01At a0 a1 = some r) :
    FnC Try.prog 158 [] [.sl a0.length 0 (a0.flatMap eI.b), iv a1] [] (.fr 1 r.length (r.flatMap eI.o)) := by
  refine fnc_startG (N := 33) (np := 500) hT Try.func158 rfl rfl (by kernel_rfl) ?_
  unfold M.spec_l01At at hM
  refine tr_start (ks := [0, 2]) (st' := [(0, .d (.sl a0.length 0 (a0.flatMap eI.b))), (2, .d (iv a1))]) (by kernel_rfl) ?_
  refine tr_sr hT hm [] [0, 2] [(0, .d (.sl a0.length 0 (a0.flatMap eI.b))), (2, .d (iv a1))] .nil (by kernel_rfl) (by kernel_rfl) ?_
  obtain ⟨h1, hM⟩ := chk_some hM
  refine tr_sr hT hm [] [0, 2, 10, 2019] [(0, .d (.sl a0.length 0 (a0.flatMap eI.b))), (2, .d (iv a1)), (10, .d (.rs 1009 0 ((a0.length : Int).toNat))), (2019, .r (.arr 1 (repl (a0.length : Int).toNat [.int .i64 0]) []))] (.cons h1.1 (.cons (Int.le_refl (a0.length : Int)) (.cons h1.2 .nil))) (by kernel_rfl) (by kernel_rfl) ?_
  refine Tr.by (imp_cvE (r := 1009) (sz := 1) (refs := []) (repl_flat (f := eI.o) (zs := [.int .i64 0]) (z := (0 : Int)) rfl (a0.length : Int).toNat) (menO_flat eI_ok _) (by kernel_rfl)) ?_
  refine Tr.by (imp_cvD (k := 10) (congrArg (D.rs 1009 0) (List.length_replicate.symm : (a0.length : Int).toNat = (List.replicate (a0.length : Int).toNat (0 : Int)).length)) (by kernel_rfl)) ?_
  refine tr_seq ?_
  refine tr_sr hT hm [] [0, 2, 10, 12, 2019] [(0, .d (.sl a0.length 0 (a0.flatMap eI.b))), (2, .d (iv a1)), (10, .d (.rs 1009 0 ((List.replicate (a0.length : Int).toNat (0 : Int)).length))), (12, .d (iv (IntKind.i64.wrap ((a0.length : Int) - 1)))), (2019, .r (.arr 1 ((List.replicate (a0.length : Int).toNat (0 : Int)).flatMap eI.o) []))] .nil (by kernel_rfl) (by kernel_rfl) ?_
  refine tr_block ?_
  refine tr_iterS (fun (s2 : (List Int) × Int × Int) => [(0, .d (.sl a0.length 0 (a0.flatMap eI.b))), (2, .d (iv s2.2.1)), (10, .d (.rs 1009 0 s2.1.length)), (12, .d (iv s2.2.2)), (2019, .r (.arr 1 (s2.1.flatMap eI.o) []))]) ((List.replicate (a0.length : Int).toNat (0 : Int)), a1, IntKind.i64.wrap ((a0.length : Int) - 1)) [0, 2, 10, 12, 2019] (by kernel_rfl) hM ?_
  intro n5 next3 ih4 s2 hM
  refine tr_seq ?_
  refine tr_sr hT hm [] [0, 2, 10, 12, 28, 2019] [(0, .d (.sl a0.length 0 (a0.flatMap eI.b))), (2, .d (iv s2.2.1)), (10, .d (.rs 1009 0 s2.1.length)), (12, .d (iv s2.2.2)), (28, .d (bv (decide (s2.2.2 ≥ 0)))), (2019, .r (.arr 1 (s2.1.flatMap eI.o) []))] .nil (by kernel_rfl) (by kernel_rfl) ?_
  rcases Bool.eq_false_or_eq_true (decide (s2.2.2 ≥ 0)) with h6 | h6
  · have hM := ite_true' hM h6
    refine tr_condTe (e := decide (s2.2.2 ≥ 0)) h6 (by kernel_rfl) ?_
    refine tr_skip (q_n ?_)
    refine tr_seq ?_
    refine tr_block ?_
    obtain ⟨y7, hy7, hM⟩ := bind_some' hM
    have hy7' := idx_some hy7
    obtain ⟨h8, hM⟩ := chk_some hM
    obtain ⟨y9, hy9, hM⟩ := bind_some' hM
    have hy9' := idx_some hy9
    refine tr_sr hT hm [(6, .val (iv y7))] [0, 2, 10, 12, 2019] [(0, .d (.sl a0.length 0 (a0.flatMap eI.b))), (2, .d (iv s2.2.1)), (10, .d (.rs 1009 0 s2.1.length)), (12, .d (iv s2.2.2)), (2019, .r (.arr 1 ((s2.1.flatMap eI.o).take (0 + s2.2.2.toNat * 1) ++ [iv (s2.2.1.tmod y7)] ++ (s2.1.flatMap eI.o).drop (0 + s2.2.2.toNat * 1 + 1)) []))] (.cons hy7'.1 (.cons hy7'.2.1 (.cons (at_b0 eI_ok hy7'.2.2 (d := iv y7) (by kernel_rfl)) (.cons h8 (.cons hy9'.1 (.cons hy9'.2.1 (.cons (store_le eI_ok hy9'.2.2) .nil))))))) (by kernel_rfl) (by kernel_rfl) ?_
    refine Tr.by (imp_cvE (r := 1009) (sz := 1) (refs := []) (set_flat eI_ok.lenO (y := s2.2.1.tmod y7) hy9'.2.2) (menO_flat eI_ok _) (by kernel_rfl)) ?_
    refine Tr.by (imp_cvD (k := 10) (congrArg (D.rs 1009 0) (List.length_set.symm : s2.1.length = (s2.1.set s2.2.2.toNat (s2.2.1.tmod y7)).length)) (by kernel_rfl)) ?_
    refine tr_r hT hm [(4, .val (iv y7))] [0, 2, 10, 12, 2019] [(0, .d (.sl a0.length 0 (a0.flatMap eI.b))), (2, .d (iv (IntKind.i64.wrap (s2.2.1.tdiv y7)))), (10, .d (.rs 1009 0 ((s2.1.set s2.2.2.toNat (s2.2.1.tmod y7)).length))), (12, .d (iv s2.2.2)), (2019, .r (.arr 1 ((s2.1.set s2.2.2.toNat (s2.2.1.tmod y7)).flatMap eI.o) []))] (.cons hy7'.1 (.cons hy7'.2.1 (.cons (at_b0 eI_ok hy7'.2.2 (d := iv y7) (by kernel_rfl)) (.cons h8 .nil)))) (by kernel_rfl) (by kernel_rfl) (b_n (q_n ?_))
    refine tr_r hT hm [] [0, 2, 10, 12, 2019] [(0, .d (.sl a0.length 0 (a0.flatMap eI.b))), (2, .d (iv (IntKind.i64.wrap (s2.2.1.tdiv y7)))), (10, .d (.rs 1009 0 ((s2.1.set s2.2.2.toNat (s2.2.1.tmod y7)).length))), (12, .d (iv (IntKind.i64.wrap (s2.2.2 - 1)))), (2019, .r (.arr 1 ((s2.1.set s2.2.2.toNat (s2.2.1.tmod y7)).flatMap eI.o) []))] .nil (by kernel_rfl) (by kernel_rfl) (l_n ?_)
    exact trl_start (ks := [0, 2, 10, 12, 2019]) (by kernel_rfl) (ih4 (s2.1.set s2.2.2.toNat (s2.2.1.tmod y7), IntKind.i64.wrap (s2.2.1.tdiv y7), IntKind.i64.wrap (s2.2.2 - 1)) hM)
  · have hM := ite_false' hM h6
    refine tr_condFe (e := decide (s2.2.2 ≥ 0)) h6 (by kernel_rfl) ?_
    refine tr_exit (q_x (l_x (b_h (q_n ?_))))
    refine tr_sr hT hm [] [8, 2019] [(8, .d (.rs 1009 0 s2.1.length)), (2019, .r (.arr 1 (s2.1.flatMap eI.o) []))] .nil (by kernel_rfl) (by kernel_rfl) ?_
    refine tr_ret (rg_r ?_)
    obtain rfl := Option.some.inj hM
    exact retg (names := []) (.cons (lenO_flat eI_ok s2.1) .nil) (by kernel_rfl)

end Go.Proofs.Ytjmjhhhglbeacaa.Wy57
