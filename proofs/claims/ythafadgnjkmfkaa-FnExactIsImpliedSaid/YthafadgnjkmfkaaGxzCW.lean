/- Walks. Printed by wip/gen. -/
import Derived.Test.YthafadgnjkmfkaaGxEM0
import Derived.Test.YthafadgnjkmfkaaGxEO0
import Derived.Test.YthafadgnjkmfkaaGxyNW
import Derived.KernelRfl
namespace Go.Proofs.Ythafadgnjkmfkaa.WzC
open Go.Gx Go.Proofs.Ythafadgnjkmfkaa.WvB Go.Proofs.Ythafadgnjkmfkaa.WyN

theorem eXCategory_r : EncR eXCategory := (eA_r (eC_r eI_r _) (eA_r (eC_r (eS_r eI_ok) _) (eA_r (eC_r (eS_r eI_ok) _) (eA_r (eC_r (eS_r eI_ok) _) (eC_r (eS_r (eS_ok eI_ok)) _)))))
def T : Tab := [(2, ⟨.int .i64, 1, 8, [.int .i64 0]⟩),
  (3, ⟨.int .i64, 1, 8, [.int .i64 0]⟩),
  (22, ⟨.slice 2, 1, 24, [.slice .none 0 0]⟩),
  (140, ⟨.slice 2, 1, 24, [.slice .none 0 0]⟩),
  (169, ⟨.map 2 2, 1, 8, [.map .none]⟩)]
theorem hT : TabOk Try.prog T := ⟨tiok (by kernel_rfl) (by kernel_rfl), tiok (by kernel_rfl) (by kernel_rfl), tiok (by kernel_rfl) (by kernel_rfl), tiok (by kernel_rfl) (by kernel_rfl), tiok (by kernel_rfl) (by kernel_rfl), trivial⟩
theorem hm : Try.prog.follows .mixedOrders = true := by kernel_rfl

theorem ok140 : CallOk Try.prog 140 := callOk_of Try.func140 (by kernel_rfl) (by kernel_rfl)
theorem spec_l01Classes_c (a0 : List Int) (r : (List Int)) (hM : M.spec_l01Classes a0 = some r) :
    FnC Try.prog 140 [] [.sl a0.length 0 (a0.flatMap eI.b)] [] (.fr 1 r.length (r.flatMap eI.o)) := by
  refine fnc_startG (N := 37) (np := 500) hT Try.func140 rfl rfl (by kernel_rfl) ?_
  unfold M.spec_l01Classes at hM
  refine tr_start (ks := [0]) (st' := [(0, .d (.sl a0.length 0 (a0.flatMap eI.b)))]) (by kernel_rfl) ?_
  refine tr_sr hT hm [] [0] [(0, .d (.sl a0.length 0 (a0.flatMap eI.b)))] .nil (by kernel_rfl) (by kernel_rfl) ?_
  refine tr_sr hT hm [] [0, 6, 8, 2015, 2017] [(0, .d (.sl a0.length 0 (a0.flatMap eI.b))), (6, .d (.rs 1007 0 (([] : List Int).length))), (8, .d (.rs 1008 0 (([] : List Int).length))), (2015, .r (.arr 1 (([] : List Int).flatMap eI.o) [])), (2017, .r (.arr 1 (([] : List Int).flatMap eI.o) []))] .nil (by kernel_rfl) (by kernel_rfl) ?_
  refine tr_seq ?_
  refine tr_sr hT hm [] [0, 6, 8, 10, 2015, 2017] [(0, .d (.sl a0.length 0 (a0.flatMap eI.b))), (6, .d (.rs 1007 0 (([] : List Int).length))), (8, .d (.rs 1008 0 (([] : List Int).length))), (10, .d (iv 0)), (2015, .r (.arr 1 (([] : List Int).flatMap eI.o) [])), (2017, .r (.arr 1 (([] : List Int).flatMap eI.o) []))] .nil (by kernel_rfl) (by kernel_rfl) ?_
  refine tr_block ?_
  refine tr_iterS (fun (s1 : (List Int) × (List Int) × Int) => [(0, .d (.sl a0.length 0 (a0.flatMap eI.b))), (6, .d (.rs 1007 0 s1.1.length)), (8, .d (.rs 1008 0 s1.2.1.length)), (10, .d (iv s1.2.2)), (2015, .r (.arr 1 (s1.1.flatMap eI.o) [])), (2017, .r (.arr 1 (s1.2.1.flatMap eI.o) []))]) (([] : List Int), ([] : List Int), 0) [0, 6, 8, 10, 2015, 2017] (by kernel_rfl) hM ?_
  intro n4 next2 ih3 s1 hM
  refine tr_seq ?_
  refine tr_sr hT hm [] [0, 6, 8, 10, 24, 2015, 2017] [(0, .d (.sl a0.length 0 (a0.flatMap eI.b))), (6, .d (.rs 1007 0 s1.1.length)), (8, .d (.rs 1008 0 s1.2.1.length)), (10, .d (iv s1.2.2)), (24, .d (bv (decide (s1.2.2 < (a0.length : Int))))), (2015, .r (.arr 1 (s1.1.flatMap eI.o) [])), (2017, .r (.arr 1 (s1.2.1.flatMap eI.o) []))] .nil (by kernel_rfl) (by kernel_rfl) ?_
  rcases Bool.eq_false_or_eq_true (decide (s1.2.2 < (a0.length : Int))) with h5 | h5
  · have hM := ite_true' hM h5
    refine tr_condTe (e := decide (s1.2.2 < (a0.length : Int))) h5 (by kernel_rfl) ?_
    refine tr_skip (q_n ?_)
    refine tr_seq ?_
    refine tr_block ?_
    obtain ⟨y6, hy6, hM⟩ := bind_some' hM
    have hy6' := idx_some hy6
    obtain ⟨v7, hv7, hM⟩ := bind_some' hM
    refine tr_sr hT hm [(4, .val (iv y6)), (5, .call [1008] [] [.sl s1.2.1.length 0 (s1.2.1.flatMap eI.b), iv y6] [] (iv v7))] [0, 6, 8, 10, 12, 2015, 2017] [(0, .d (.sl a0.length 0 (a0.flatMap eI.b))), (6, .d (.rs 1007 0 s1.1.length)), (8, .d (.rs 1008 0 s1.2.1.length)), (10, .d (iv s1.2.2)), (12, .d (iv v7)), (2015, .r (.arr 1 (s1.1.flatMap eI.o) [])), (2017, .r (.arr 1 (s1.2.1.flatMap eI.o) []))] (.cons hy6'.1 (.cons hy6'.2.1 (.cons (at_b0 eI_ok hy6'.2.2 (d := iv y6) (by kernel_rfl)) (cc (B := [1008]) (ρ := []) (rB := [(1008, .arr 1 (s1.2.1.flatMap eI.o) [])]) ok122 (spec_l01Index_c s1.2.1 y6 _ hv7) (.cons (.of1 (.rs (r := 1008) (sz := 1) (refs := []) (memB (by kernel_rfl)) (by kernel_rfl) (bor_flat eI_ok _ _ _))) (.cons (.same rfl) .nil)) (.inr ⟨.v, trivial⟩) .nil)))) (by kernel_rfl) (by kernel_rfl) ?_
    refine tr_seq ?_
    refine tr_sr hT hm [] [0, 6, 8, 10, 12, 44, 2015, 2017] [(0, .d (.sl a0.length 0 (a0.flatMap eI.b))), (6, .d (.rs 1007 0 s1.1.length)), (8, .d (.rs 1008 0 s1.2.1.length)), (10, .d (iv s1.2.2)), (12, .d (iv v7)), (44, .d (bv (decide (v7 < 0)))), (2015, .r (.arr 1 (s1.1.flatMap eI.o) [])), (2017, .r (.arr 1 (s1.2.1.flatMap eI.o) []))] .nil (by kernel_rfl) (by kernel_rfl) ?_
    rcases Bool.eq_false_or_eq_true (decide (v7 < 0)) with h8 | h8
    · have hM := ite_true' hM h8
      refine tr_condTe (e := decide (v7 < 0)) h8 (by kernel_rfl) ?_
      refine tr_sr hT hm [] [0, 6, 8, 10, 12, 2015, 2017] [(0, .d (.sl a0.length 0 (a0.flatMap eI.b))), (6, .d (.rs 1007 0 s1.1.length)), (8, .d (.rs 1008 0 s1.2.1.length)), (10, .d (iv s1.2.2)), (12, .d (iv (s1.2.1.length : Int))), (2015, .r (.arr 1 (s1.1.flatMap eI.o) [])), (2017, .r (.arr 1 (s1.2.1.flatMap eI.o) []))] .nil (by kernel_rfl) (by kernel_rfl) ?_
      obtain ⟨h9, hM⟩ := chk_some hM
      refine tr_r hT hm [(4, .val (iv y6)), (6, .app true)] [0, 6, 8, 10, 12, 2015, 2063] [(0, .d (.sl a0.length 0 (a0.flatMap eI.b))), (6, .d (.rs 1007 0 s1.1.length)), (8, .d (.rs 1031 0 (s1.2.1.length + (([y6] : List Int).length)))), (10, .d (iv s1.2.2)), (12, .d (iv (s1.2.1.length : Int))), (2015, .r (.arr 1 (s1.1.flatMap eI.o) [])), (2063, .r (.arr 1 (s1.2.1.flatMap eI.o ++ ([y6] : List Int).flatMap eI.o) []))] (.cons hy6'.1 (.cons hy6'.2.1 (.cons (at_b0 eI_ok hy6'.2.2 (d := iv y6) (by kernel_rfl)) (.cons (lenO_flat eI_ok s1.2.1) (.cons (lenO_flat eI_ok ([y6] : List Int)) (.cons h9 .nil)))))) (by kernel_rfl) (by kernel_rfl) (q_n ?_)
      refine Tr.by (imp_cvE (r := 1031) (sz := 1) (refs := []) (flat_app eI.o s1.2.1 ([y6] : List Int)) (menO_flat eI_ok _) (by kernel_rfl)) ?_
      refine Tr.by (imp_cvD (k := 8) (congrArg (D.rs 1031 0) ((len_app s1.2.1 ([y6] : List Int)) : s1.2.1.length + (([y6] : List Int).length) = (s1.2.1 ++ ([y6] : List Int)).length)) (by kernel_rfl)) ?_
      obtain ⟨h10, hM⟩ := chk_some hM
      refine tr_r hT hm [(3, .app true)] [0, 6, 8, 10, 2063, 2071] [(0, .d (.sl a0.length 0 (a0.flatMap eI.b))), (6, .d (.rs 1035 0 (s1.1.length + (([(s1.2.1.length : Int)] : List Int).length)))), (8, .d (.rs 1031 0 ((s1.2.1 ++ ([y6] : List Int)).length))), (10, .d (iv s1.2.2)), (2063, .r (.arr 1 ((s1.2.1 ++ ([y6] : List Int)).flatMap eI.o) [])), (2071, .r (.arr 1 (s1.1.flatMap eI.o ++ ([(s1.2.1.length : Int)] : List Int).flatMap eI.o) []))] (.cons (lenO_flat eI_ok s1.1) (.cons (lenO_flat eI_ok ([(s1.2.1.length : Int)] : List Int)) (.cons h10 .nil))) (by kernel_rfl) (by kernel_rfl) (b_n (q_n ?_))
      refine Tr.by (imp_cvE (r := 1035) (sz := 1) (refs := []) (flat_app eI.o s1.1 ([(s1.2.1.length : Int)] : List Int)) (menO_flat eI_ok _) (by kernel_rfl)) ?_
      refine Tr.by (imp_cvD (k := 6) (congrArg (D.rs 1035 0) ((len_app s1.1 ([(s1.2.1.length : Int)] : List Int)) : s1.1.length + (([(s1.2.1.length : Int)] : List Int).length) = (s1.1 ++ ([(s1.2.1.length : Int)] : List Int)).length)) (by kernel_rfl)) ?_
      refine tr_r hT hm [] [0, 6, 8, 10, 2063, 2071] [(0, .d (.sl a0.length 0 (a0.flatMap eI.b))), (6, .d (.rs 1035 0 ((s1.1 ++ ([(s1.2.1.length : Int)] : List Int)).length))), (8, .d (.rs 1031 0 ((s1.2.1 ++ ([y6] : List Int)).length))), (10, .d (iv (IntKind.i64.wrap (s1.2.2 + 1)))), (2063, .r (.arr 1 ((s1.2.1 ++ ([y6] : List Int)).flatMap eI.o) [])), (2071, .r (.arr 1 ((s1.1 ++ ([(s1.2.1.length : Int)] : List Int)).flatMap eI.o) []))] .nil (by kernel_rfl) (by kernel_rfl) (l_n ?_)
      refine TrL.by (imp_sel (ks := [0, 6, 8, 10, 2063, 2071]) (st' := [(0, .d (.sl a0.length 0 (a0.flatMap eI.b))), (6, .d (.rs 1035 0 ((s1.1 ++ ([(s1.2.1.length : Int)] : List Int)).length))), (8, .d (.rs 1031 0 ((s1.2.1 ++ ([y6] : List Int)).length))), (10, .d (iv (IntKind.i64.wrap (s1.2.2 + 1)))), (2063, .r (.arr 1 ((s1.2.1 ++ ([y6] : List Int)).flatMap eI.o) [])), (2071, .r (.arr 1 ((s1.1 ++ ([(s1.2.1.length : Int)] : List Int)).flatMap eI.o) []))]) (by kernel_rfl)) ?_
      refine TrL.by (imp_rename (r := 1035) (q := 1007) (by kernel_rfl) (Nat.le_of_ble_eq_true rfl)) ?_
      refine TrL.by (imp_rename (r := 1031) (q := 1008) (by kernel_rfl) (Nat.le_of_ble_eq_true rfl)) ?_
      exact trl_start (ks := [0, 6, 8, 10, 2015, 2017]) (by kernel_rfl) (ih3 (s1.1 ++ ([(s1.2.1.length : Int)] : List Int), s1.2.1 ++ ([y6] : List Int), IntKind.i64.wrap (s1.2.2 + 1)) hM)
    · have hM := ite_false' hM h8
      refine tr_condFe (e := decide (v7 < 0)) h8 (by kernel_rfl) ?_
      refine tr_skip (q_n ?_)
      obtain ⟨h11, hM⟩ := chk_some hM
      refine tr_r hT hm [(3, .app true)] [0, 6, 8, 10, 2017, 2071] [(0, .d (.sl a0.length 0 (a0.flatMap eI.b))), (6, .d (.rs 1035 0 (s1.1.length + (([v7] : List Int).length)))), (8, .d (.rs 1008 0 s1.2.1.length)), (10, .d (iv s1.2.2)), (2017, .r (.arr 1 (s1.2.1.flatMap eI.o) [])), (2071, .r (.arr 1 (s1.1.flatMap eI.o ++ ([v7] : List Int).flatMap eI.o) []))] (.cons (lenO_flat eI_ok s1.1) (.cons (lenO_flat eI_ok ([v7] : List Int)) (.cons h11 .nil))) (by kernel_rfl) (by kernel_rfl) (b_n (q_n ?_))
      refine Tr.by (imp_cvE (r := 1035) (sz := 1) (refs := []) (flat_app eI.o s1.1 ([v7] : List Int)) (menO_flat eI_ok _) (by kernel_rfl)) ?_
      refine Tr.by (imp_cvD (k := 6) (congrArg (D.rs 1035 0) ((len_app s1.1 ([v7] : List Int)) : s1.1.length + (([v7] : List Int).length) = (s1.1 ++ ([v7] : List Int)).length)) (by kernel_rfl)) ?_
      refine tr_r hT hm [] [0, 6, 8, 10, 2017, 2071] [(0, .d (.sl a0.length 0 (a0.flatMap eI.b))), (6, .d (.rs 1035 0 ((s1.1 ++ ([v7] : List Int)).length))), (8, .d (.rs 1008 0 s1.2.1.length)), (10, .d (iv (IntKind.i64.wrap (s1.2.2 + 1)))), (2017, .r (.arr 1 (s1.2.1.flatMap eI.o) [])), (2071, .r (.arr 1 ((s1.1 ++ ([v7] : List Int)).flatMap eI.o) []))] .nil (by kernel_rfl) (by kernel_rfl) (l_n ?_)
      refine TrL.by (imp_sel (ks := [0, 6, 8, 10, 2017, 2071]) (st' := [(0, .d (.sl a0.length 0 (a0.flatMap eI.b))), (6, .d (.rs 1035 0 ((s1.1 ++ ([v7] : List Int)).length))), (8, .d (.rs 1008 0 s1.2.1.length)), (10, .d (iv (IntKind.i64.wrap (s1.2.2 + 1)))), (2017, .r (.arr 1 (s1.2.1.flatMap eI.o) [])), (2071, .r (.arr 1 ((s1.1 ++ ([v7] : List Int)).flatMap eI.o) []))]) (by kernel_rfl)) ?_
      refine TrL.by (imp_rename (r := 1035) (q := 1007) (by kernel_rfl) (Nat.le_of_ble_eq_true rfl)) ?_
      exact trl_start (ks := [0, 6, 8, 10, 2015, 2017]) (by kernel_rfl) (ih3 (s1.1 ++ ([v7] : List Int), s1.2.1, IntKind.i64.wrap (s1.2.2 + 1)) hM)
  · have hM := ite_false' hM h5
    refine tr_condFe (e := decide (s1.2.2 < (a0.length : Int))) h5 (by kernel_rfl) ?_
    refine tr_exit (q_x (l_x (b_h (q_n ?_))))
    refine tr_sr hT hm [] [4, 2015] [(4, .d (.rs 1007 0 s1.1.length)), (2015, .r (.arr 1 (s1.1.flatMap eI.o) []))] .nil (by kernel_rfl) (by kernel_rfl) ?_
    refine tr_ret (rg_r ?_)
    obtain rfl := Option.some.inj hM
    exact retg (names := []) (.cons (lenO_flat eI_ok s1.1) .nil) (by kernel_rfl)

theorem ok91 : CallOk Try.prog 91 := callOk_of Try.func91 (by kernel_rfl) (by kernel_rfl)
theorem impl_normal_c (a0 : List Int) (r : (List Int)) (hM : M.impl_normal a0 = some r) :
    FnC Try.prog 91 [] [.sl a0.length 0 (a0.flatMap eI.b)] [] (.fr 1 r.length (r.flatMap eI.o)) := by
  refine fnc_startG (N := 39) (np := 500) hT Try.func91 rfl rfl (by kernel_rfl) ?_
  unfold M.impl_normal at hM
  refine tr_start (ks := [0]) (st' := [(0, .d (.sl a0.length 0 (a0.flatMap eI.b)))]) (by kernel_rfl) ?_
  refine tr_sr hT hm [] [0] [(0, .d (.sl a0.length 0 (a0.flatMap eI.b)))] .nil (by kernel_rfl) (by kernel_rfl) ?_
  refine tr_sr hT hm [] [0, 6, 2019] [(0, .d (.sl a0.length 0 (a0.flatMap eI.b))), (6, .d (.rm 1009)), (2019, .r (.mp (mpE kI vI ([] : List (Int × Int)))))] .nil (by kernel_rfl) (by kernel_rfl) ?_
  obtain ⟨h1, hM⟩ := chk_some hM
  refine tr_sr hT hm [] [0, 6, 8, 2019, 2025] [(0, .d (.sl a0.length 0 (a0.flatMap eI.b))), (6, .d (.rm 1009)), (8, .d (.rs 1012 0 ((a0.length : Int).toNat))), (2019, .r (.mp (mpE kI vI ([] : List (Int × Int))))), (2025, .r (.arr 1 (repl (a0.length : Int).toNat [.int .i64 0]) []))] (.cons h1.1 (.cons (Int.le_refl (a0.length : Int)) (.cons h1.2 .nil))) (by kernel_rfl) (by kernel_rfl) ?_
  refine Tr.by (imp_cvE (r := 1012) (sz := 1) (refs := []) (repl_flat (f := eI.o) (zs := [.int .i64 0]) (z := (0 : Int)) rfl (a0.length : Int).toNat) (menO_flat eI_ok _) (by kernel_rfl)) ?_
  refine Tr.by (imp_cvD (k := 8) (congrArg (D.rs 1012 0) (List.length_replicate.symm : (a0.length : Int).toNat = (List.replicate (a0.length : Int).toNat (0 : Int)).length)) (by kernel_rfl)) ?_
  refine tr_seq ?_
  refine tr_sr hT hm [] [6, 8, 26, 28, 30, 2019, 2025] [(6, .d (.rm 1009)), (8, .d (.rs 1012 0 ((List.replicate (a0.length : Int).toNat (0 : Int)).length))), (26, .d (.sl a0.length 0 (a0.flatMap eI.b))), (28, .d (iv (a0.length : Int))), (30, .d (iv 0)), (2019, .r (.mp (mpE kI vI ([] : List (Int × Int))))), (2025, .r (.arr 1 ((List.replicate (a0.length : Int).toNat (0 : Int)).flatMap eI.o) []))] .nil (by kernel_rfl) (by kernel_rfl) ?_
  refine tr_block ?_
  refine tr_iterS (fun (s2 : (List (Int × Int)) × (List Int) × Int) => [(6, .d (.rm 1009)), (8, .d (.rs 1012 0 s2.2.1.length)), (26, .d (.sl a0.length 0 (a0.flatMap eI.b))), (28, .d (iv (a0.length : Int))), (30, .d (iv s2.2.2)), (2019, .r (.mp (mpE kI vI s2.1))), (2025, .r (.arr 1 (s2.2.1.flatMap eI.o) []))]) (([] : List (Int × Int)), (List.replicate (a0.length : Int).toNat (0 : Int)), 0) [6, 8, 26, 28, 30, 2019, 2025] (by kernel_rfl) hM ?_
  intro n5 next3 ih4 s2 hM
  refine tr_sr hT hm [] [6, 8, 26, 28, 30, 32, 2019, 2025] [(6, .d (.rm 1009)), (8, .d (.rs 1012 0 s2.2.1.length)), (26, .d (.sl a0.length 0 (a0.flatMap eI.b))), (28, .d (iv (a0.length : Int))), (30, .d (iv s2.2.2)), (32, .d (bv (decide (s2.2.2 < (a0.length : Int))))), (2019, .r (.mp (mpE kI vI s2.1))), (2025, .r (.arr 1 (s2.2.1.flatMap eI.o) []))] .nil (by kernel_rfl) (by kernel_rfl) ?_
  refine tr_seq ?_
  rcases Bool.eq_false_or_eq_true (decide (s2.2.2 < (a0.length : Int))) with h6 | h6
  · have hM := ite_true' hM h6
    refine tr_condTe (e := decide (s2.2.2 < (a0.length : Int))) h6 (by kernel_rfl) ?_
    refine tr_skip (q_n ?_)
    refine tr_seq ?_
    refine tr_block ?_
    obtain ⟨y7, hy7, hM⟩ := bind_some' hM
    have hy7' := idx_some hy7
    refine tr_sr hT hm [(2, .val (iv y7))] [6, 8, 10, 12, 26, 28, 30, 2019, 2025] [(6, .d (.rm 1009)), (8, .d (.rs 1012 0 s2.2.1.length)), (10, .d (iv s2.2.2)), (12, .d (iv y7)), (26, .d (.sl a0.length 0 (a0.flatMap eI.b))), (28, .d (iv (a0.length : Int))), (30, .d (iv s2.2.2)), (2019, .r (.mp (mpE kI vI s2.1))), (2025, .r (.arr 1 (s2.2.1.flatMap eI.o) []))] (.cons hy7'.1 (.cons hy7'.2.1 (.cons (at_b0 eI_ok hy7'.2.2 (d := iv y7) (by kernel_rfl)) .nil))) (by kernel_rfl) (by kernel_rfl) ?_
    refine tr_sr hT hm [(2, .val (.tup [iv ((mget y7 s2.1).getD 0), bv ((mget y7 s2.1).isSome)]))] [6, 8, 10, 12, 14, 16, 26, 28, 30, 2019, 2025] [(6, .d (.rm 1009)), (8, .d (.rs 1012 0 s2.2.1.length)), (10, .d (iv s2.2.2)), (12, .d (iv y7)), (14, .d (iv ((mget y7 s2.1).getD 0))), (16, .d (bv ((mget y7 s2.1).isSome))), (26, .d (.sl a0.length 0 (a0.flatMap eI.b))), (28, .d (iv (a0.length : Int))), (30, .d (iv s2.2.2)), (2019, .r (.mp (mpE kI vI s2.1))), (2025, .r (.arr 1 (s2.2.1.flatMap eI.o) []))] (.cons (look_two kI vI 0 y7 s2.1) (.cons (by kernel_rfl : (Try.prog.info? 2).bind (·.zero) = some (.int .i64 0)) .nil)) (by kernel_rfl) (by kernel_rfl) ?_
    refine tr_seq ?_
    refine tr_sr hT hm [] [6, 8, 10, 12, 14, 26, 28, 30, 54, 2019, 2025] [(6, .d (.rm 1009)), (8, .d (.rs 1012 0 s2.2.1.length)), (10, .d (iv s2.2.2)), (12, .d (iv y7)), (14, .d (iv ((mget y7 s2.1).getD 0))), (26, .d (.sl a0.length 0 (a0.flatMap eI.b))), (28, .d (iv (a0.length : Int))), (30, .d (iv s2.2.2)), (54, .d (bv (!((mget y7 s2.1).isSome)))), (2019, .r (.mp (mpE kI vI s2.1))), (2025, .r (.arr 1 (s2.2.1.flatMap eI.o) []))] .nil (by kernel_rfl) (by kernel_rfl) ?_
    rcases Bool.eq_false_or_eq_true ((mget y7 s2.1).isSome) with h8 | h8
    · have hM := ite_true' hM h8
      refine tr_condFe (e := !((mget y7 s2.1).isSome)) (congrArg not h8) (by kernel_rfl) ?_
      refine tr_skip (q_n ?_)
      obtain ⟨y9, hy9, hM⟩ := bind_some' hM
      have hy9' := idx_some hy9
      refine tr_r hT hm [] [6, 8, 26, 28, 30, 2019, 2025] [(6, .d (.rm 1009)), (8, .d (.rs 1012 0 s2.2.1.length)), (26, .d (.sl a0.length 0 (a0.flatMap eI.b))), (28, .d (iv (a0.length : Int))), (30, .d (iv s2.2.2)), (2019, .r (.mp (mpE kI vI s2.1))), (2025, .r (.arr 1 ((s2.2.1.flatMap eI.o).take (0 + s2.2.2.toNat * 1) ++ [iv ((mget y7 s2.1).getD 0)] ++ (s2.2.1.flatMap eI.o).drop (0 + s2.2.2.toNat * 1 + 1)) []))] (.cons hy9'.1 (.cons hy9'.2.1 (.cons (store_le eI_ok hy9'.2.2) .nil))) (by kernel_rfl) (by kernel_rfl) (b_n (q_n ?_))
      refine Tr.by (imp_cvE (r := 1012) (sz := 1) (refs := []) (set_flat eI_ok.lenO (y := (mget y7 s2.1).getD 0) hy9'.2.2) (menO_flat eI_ok _) (by kernel_rfl)) ?_
      refine Tr.by (imp_cvD (k := 8) (congrArg (D.rs 1012 0) (List.length_set.symm : s2.2.1.length = (s2.2.1.set s2.2.2.toNat ((mget y7 s2.1).getD 0)).length)) (by kernel_rfl)) ?_
      refine tr_r hT hm [] [6, 8, 26, 28, 30, 2019, 2025] [(6, .d (.rm 1009)), (8, .d (.rs 1012 0 ((s2.2.1.set s2.2.2.toNat ((mget y7 s2.1).getD 0)).length))), (26, .d (.sl a0.length 0 (a0.flatMap eI.b))), (28, .d (iv (a0.length : Int))), (30, .d (iv (IntKind.i64.wrap (s2.2.2 + 1)))), (2019, .r (.mp (mpE kI vI s2.1))), (2025, .r (.arr 1 ((s2.2.1.set s2.2.2.toNat ((mget y7 s2.1).getD 0)).flatMap eI.o) []))] .nil (by kernel_rfl) (by kernel_rfl) (l_n ?_)
      exact trl_start (ks := [6, 8, 26, 28, 30, 2019, 2025]) (by kernel_rfl) (ih4 (s2.1, s2.2.1.set s2.2.2.toNat ((mget y7 s2.1).getD 0), IntKind.i64.wrap (s2.2.2 + 1)) hM)
    · have hM := ite_false' hM h8
      refine tr_condTe (e := !((mget y7 s2.1).isSome)) (congrArg not h8) (by kernel_rfl) ?_
      refine tr_sr hT hm [(1, .val (iv (s2.1.length : Int)))] [6, 8, 10, 12, 14, 26, 28, 30, 2019, 2025] [(6, .d (.rm 1009)), (8, .d (.rs 1012 0 s2.2.1.length)), (10, .d (iv s2.2.2)), (12, .d (iv y7)), (14, .d (iv (s2.1.length : Int))), (26, .d (.sl a0.length 0 (a0.flatMap eI.b))), (28, .d (iv (a0.length : Int))), (30, .d (iv s2.2.2)), (2019, .r (.mp (mpE kI vI s2.1))), (2025, .r (.arr 1 (s2.2.1.flatMap eI.o) []))] (.cons (len_mpE kI vI s2.1) .nil) (by kernel_rfl) (by kernel_rfl) ?_
      refine tr_r hT hm [] [6, 8, 10, 14, 26, 28, 30, 2019, 2025] [(6, .d (.rm 1009)), (8, .d (.rs 1012 0 s2.2.1.length)), (10, .d (iv s2.2.2)), (14, .d (iv (s2.1.length : Int))), (26, .d (.sl a0.length 0 (a0.flatMap eI.b))), (28, .d (iv (a0.length : Int))), (30, .d (iv s2.2.2)), (2019, .r (.mp (putV kI.d (kI.e y7) (vI (s2.1.length : Int)) (mpE kI vI s2.1)))), (2025, .r (.arr 1 (s2.2.1.flatMap eI.o) []))] (.cons (fnd_some kI vI y7 s2.1) .nil) (by kernel_rfl) (by kernel_rfl) (q_n ?_)
      refine Tr.by (imp_cvM (r := 1009) (put_mpE kI vI y7 (s2.1.length : Int) s2.1) (by kernel_rfl)) ?_
      obtain ⟨y10, hy10, hM⟩ := bind_some' hM
      have hy10' := idx_some hy10
      refine tr_r hT hm [] [6, 8, 26, 28, 30, 2019, 2025] [(6, .d (.rm 1009)), (8, .d (.rs 1012 0 s2.2.1.length)), (26, .d (.sl a0.length 0 (a0.flatMap eI.b))), (28, .d (iv (a0.length : Int))), (30, .d (iv s2.2.2)), (2019, .r (.mp (mpE kI vI (mput y7 (s2.1.length : Int) s2.1)))), (2025, .r (.arr 1 ((s2.2.1.flatMap eI.o).take (0 + s2.2.2.toNat * 1) ++ [iv (s2.1.length : Int)] ++ (s2.2.1.flatMap eI.o).drop (0 + s2.2.2.toNat * 1 + 1)) []))] (.cons hy10'.1 (.cons hy10'.2.1 (.cons (store_le eI_ok hy10'.2.2) .nil))) (by kernel_rfl) (by kernel_rfl) (b_n (q_n ?_))
      refine Tr.by (imp_cvE (r := 1012) (sz := 1) (refs := []) (set_flat eI_ok.lenO (y := (s2.1.length : Int)) hy10'.2.2) (menO_flat eI_ok _) (by kernel_rfl)) ?_
      refine Tr.by (imp_cvD (k := 8) (congrArg (D.rs 1012 0) (List.length_set.symm : s2.2.1.length = (s2.2.1.set s2.2.2.toNat (s2.1.length : Int)).length)) (by kernel_rfl)) ?_
      refine tr_r hT hm [] [6, 8, 26, 28, 30, 2019, 2025] [(6, .d (.rm 1009)), (8, .d (.rs 1012 0 ((s2.2.1.set s2.2.2.toNat (s2.1.length : Int)).length))), (26, .d (.sl a0.length 0 (a0.flatMap eI.b))), (28, .d (iv (a0.length : Int))), (30, .d (iv (IntKind.i64.wrap (s2.2.2 + 1)))), (2019, .r (.mp (mpE kI vI (mput y7 (s2.1.length : Int) s2.1)))), (2025, .r (.arr 1 ((s2.2.1.set s2.2.2.toNat (s2.1.length : Int)).flatMap eI.o) []))] .nil (by kernel_rfl) (by kernel_rfl) (l_n ?_)
      exact trl_start (ks := [6, 8, 26, 28, 30, 2019, 2025]) (by kernel_rfl) (ih4 (mput y7 (s2.1.length : Int) s2.1, s2.2.1.set s2.2.2.toNat (s2.1.length : Int), IntKind.i64.wrap (s2.2.2 + 1)) hM)
  · have hM := ite_false' hM h6
    refine tr_condFe (e := decide (s2.2.2 < (a0.length : Int))) h6 (by kernel_rfl) ?_
    refine tr_exit (q_x (l_x (b_h (q_n ?_))))
    refine tr_sr hT hm [] [4, 2025] [(4, .d (.rs 1012 0 s2.2.1.length)), (2025, .r (.arr 1 (s2.2.1.flatMap eI.o) []))] .nil (by kernel_rfl) (by kernel_rfl) ?_
    refine tr_ret (rg_r ?_)
    obtain rfl := Option.some.inj hM
    exact retg (names := []) (.cons (lenO_flat eI_ok s2.2.1) .nil) (by kernel_rfl)

theorem ok92 : CallOk Try.prog 92 := callOk_of Try.func92 (by kernel_rfl) (by kernel_rfl)
theorem impl_partition_classes_c (a0 : List Int) (r : Int) (hM : M.impl_partition_classes a0 = some r) :
    FnC Try.prog 92 [] [.sl a0.length 0 (a0.flatMap eI.b)] [] (iv r) := by
  refine fnc_startG (N := 18) (np := 500) hT Try.func92 rfl rfl (by kernel_rfl) ?_
  unfold M.impl_partition_classes at hM
  refine tr_start (ks := [0]) (st' := [(0, .d (.sl a0.length 0 (a0.flatMap eI.b)))]) (by kernel_rfl) ?_
  refine tr_sr hT hm [] [0] [(0, .d (.sl a0.length 0 (a0.flatMap eI.b)))] .nil (by kernel_rfl) (by kernel_rfl) ?_
  refine tr_sr hT hm [] [0, 6] [(0, .d (.sl a0.length 0 (a0.flatMap eI.b))), (6, .d (iv 0))] .nil (by kernel_rfl) (by kernel_rfl) ?_
  refine tr_seq ?_
  refine tr_sr hT hm [] [6, 12, 14, 16] [(6, .d (iv 0)), (12, .d (.sl a0.length 0 (a0.flatMap eI.b))), (14, .d (iv (a0.length : Int))), (16, .d (iv 0))] .nil (by kernel_rfl) (by kernel_rfl) ?_
  refine tr_block ?_
  refine tr_iterS (fun (s1 : Int × Int) => [(6, .d (iv s1.1)), (12, .d (.sl a0.length 0 (a0.flatMap eI.b))), (14, .d (iv (a0.length : Int))), (16, .d (iv s1.2))]) (0, 0) [6, 12, 14, 16] (by kernel_rfl) hM ?_
  intro n4 next2 ih3 s1 hM
  refine tr_sr hT hm [] [6, 12, 14, 16, 18] [(6, .d (iv s1.1)), (12, .d (.sl a0.length 0 (a0.flatMap eI.b))), (14, .d (iv (a0.length : Int))), (16, .d (iv s1.2)), (18, .d (bv (decide (s1.2 < (a0.length : Int)))))] .nil (by kernel_rfl) (by kernel_rfl) ?_
  refine tr_seq ?_
  rcases Bool.eq_false_or_eq_true (decide (s1.2 < (a0.length : Int))) with h5 | h5
  · have hM := ite_true' hM h5
    refine tr_condTe (e := decide (s1.2 < (a0.length : Int))) h5 (by kernel_rfl) ?_
    refine tr_skip (q_n ?_)
    refine tr_seq ?_
    refine tr_block ?_
    obtain ⟨y6, hy6, hM⟩ := bind_some' hM
    have hy6' := idx_some hy6
    refine tr_sr hT hm [(1, .val (iv y6))] [6, 10, 12, 14, 16] [(6, .d (iv s1.1)), (10, .d (iv y6)), (12, .d (.sl a0.length 0 (a0.flatMap eI.b))), (14, .d (iv (a0.length : Int))), (16, .d (iv s1.2))] (.cons hy6'.1 (.cons hy6'.2.1 (.cons (at_b0 eI_ok hy6'.2.2 (d := iv y6) (by kernel_rfl)) .nil))) (by kernel_rfl) (by kernel_rfl) ?_
    refine tr_r hT hm [] [6, 12, 14, 16] [(6, .d (iv (if (IntKind.i64.wrap (y6 + 1)) > s1.1 then (IntKind.i64.wrap (y6 + 1)) else s1.1))), (12, .d (.sl a0.length 0 (a0.flatMap eI.b))), (14, .d (iv (a0.length : Int))), (16, .d (iv s1.2))] .nil (by kernel_rfl) (by kernel_rfl) (b_n (q_n ?_))
    refine tr_r hT hm [] [6, 12, 14, 16] [(6, .d (iv (if (IntKind.i64.wrap (y6 + 1)) > s1.1 then (IntKind.i64.wrap (y6 + 1)) else s1.1))), (12, .d (.sl a0.length 0 (a0.flatMap eI.b))), (14, .d (iv (a0.length : Int))), (16, .d (iv (IntKind.i64.wrap (s1.2 + 1))))] .nil (by kernel_rfl) (by kernel_rfl) (l_n ?_)
    exact trl_start (ks := [6, 12, 14, 16]) (by kernel_rfl) (ih3 (if (IntKind.i64.wrap (y6 + 1)) > s1.1 then (IntKind.i64.wrap (y6 + 1)) else s1.1, IntKind.i64.wrap (s1.2 + 1)) hM)
  · have hM := ite_false' hM h5
    refine tr_condFe (e := decide (s1.2 < (a0.length : Int))) h5 (by kernel_rfl) ?_
    refine tr_exit (q_x (l_x (b_h (q_n ?_))))
    refine tr_sr hT hm [] [4] [(4, .d (iv s1.1))] .nil (by kernel_rfl) (by kernel_rfl) ?_
    refine tr_ret (rg_r ?_)
    obtain rfl := Option.some.inj hM
    exact retg (names := []) .nil (by kernel_rfl)

end Go.Proofs.Ythafadgnjkmfkaa.WzC
