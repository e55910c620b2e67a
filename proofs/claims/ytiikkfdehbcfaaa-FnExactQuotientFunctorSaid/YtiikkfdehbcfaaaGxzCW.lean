/- Walks. Printed by wip/gen. -/
import Derived.Test.YtiikkfdehbcfaaaGxEM1
import Derived.Test.YtiikkfdehbcfaaaGxEO0
import Derived.Test.YtiikkfdehbcfaaaGxyNW
import Derived.KernelRfl
namespace Go.Proofs.Ytiikkfdehbcfaaa.WzC
open Go.Gx Go.Proofs.Ytiikkfdehbcfaaa.WvB Go.Proofs.Ytiikkfdehbcfaaa.WyN

theorem eXCategory_r : EncR eXCategory := (eA_r (eC_r eI_r _) (eA_r (eC_r (eS_r eI_ok) _) (eA_r (eC_r (eS_r eI_ok) _) (eA_r (eC_r (eS_r eI_ok) _) (eC_r (eS_r (eS_ok eI_ok)) _)))))
theorem eXFunctor_r : EncR eXFunctor := (eA_r (eC_r eXCategory_r _) (eA_r (eC_r eXCategory_r _) (eA_r (eC_r (eS_r eI_ok) _) (eC_r (eS_r eI_ok) _))))
def T : Tab := [(2, ⟨.int .i64, 1, 8, [.int .i64 0]⟩),
  (3, ⟨.int .i64, 1, 8, [.int .i64 0]⟩),
  (22, ⟨.slice 2, 1, 24, [.slice .none 0 0]⟩),
  (251, ⟨.slice 2, 1, 24, [.slice .none 0 0]⟩),
  (300, ⟨.map 2 2, 1, 8, [.map .none]⟩)]
theorem hT : TabOk Try.prog T := ⟨tiok (by kernel_rfl) (by kernel_rfl), tiok (by kernel_rfl) (by kernel_rfl), tiok (by kernel_rfl) (by kernel_rfl), tiok (by kernel_rfl) (by kernel_rfl), tiok (by kernel_rfl) (by kernel_rfl), trivial⟩
theorem hm : Try.prog.follows .mixedOrders = true := by kernel_rfl

theorem ok272 : CallOk Try.prog 272 := callOk_of Try.func272 (by kernel_rfl) (by kernel_rfl)
theorem spec_l01Classes_c (a0 : List Int) (r : (List Int)) (hM : M.spec_l01Classes a0 = some r) :
    FnC Try.prog 272 [] [.sl a0.length 0 (a0.flatMap eI.b)] [] (.fr 1 r.length (r.flatMap eI.o)) := by
  refine fnc_startG (N := 37) (np := 500) hT Try.func272 rfl rfl (by kernel_rfl) ?_
  unfold M.spec_l01Classes at hM
  refine tr_start (ks := [0]) (st' := [(0, .d (.sl a0.length 0 (a0.flatMap eI.b)))]) (by kernel_rfl) ?_
  refine tr_sr hT hm [] [0] [(0, .d (.sl a0.length 0 (a0.flatMap eI.b)))] .nil (by kernel_rfl) (by kernel_rfl) ?_
  refine tr_sr hT hm [] [0, 6, 8, 2015, 2017] [(0, .d (.sl a0.length 0 (a0.flatMap eI.b))), (6, .d (.rs 1007 0 (([] : List Int).length))), (8, .d (.rs 1008 0 (([] : List Int).length))), (2015, .r (.arr 1 (([] : List Int).flatMap eI.o) [])), (2017, .r (.arr 1 (([] : List Int).flatMap eI.o) []))] .nil (by kernel_rfl) (by kernel_rfl) ?_
  refine tr_seq ?_
  refine tr_sr hT hm [] [0, 6, 8, 10, 2015, 2017] [(0, .d (.sl a0.length 0 (a0.flatMap eI.b))), (6, .d (.rs 1007 0 (([] : List Int).length))), (8, .d (.rs 1008 0 (([] : List Int).length))), (10, .d (iv 0)), (2015, .r (.arr 1 (([] : List Int).flatMap eI.o) [])), (2017, .r (.arr 1 (([] : List Int).flatMap eI.o) []))] .nil (by kernel_rfl) (by kernel_rfl) ?_
  refine tr_block ?_
  refine tr_iterS (fun (s1 : (List Int) × (List Int) × Int) => [(0, .d (.sl a0.length 0 (a0.flatMap eI.b))), (6, .d (.rs 1007 0 s1.1.length)), (8, .d (.rs 1008 0 s1.2.1.length)), (10, .d (iv s1.2.2)), (2015, .r (.arr 1 (s1.1.flatMap eI.o) [])), (2017, .r (.arr 1 (s1.2.1.flatMap eI.o) []))]) (([] : List Int), ([] : List Int), 0) [0, 6, 8, 10, 2015, 2017] (by kernel_rfl) hM ?_
  intro n4 next2 ih3 s1 hM
  refine tr_seq ?_
  refine tr_sr hT hm [] [0, 6, 8, 10, 24, 2015, 2017] [(0, .d (.sl a0.length 0 (a0.flatMap eI.b))), (6, .d (.rs 1007 0 s1.1.length)), (8, .d (.rs 1008 0 s1.2.1.length)), (10, .d (iv s1.2.2)), (24, .d (bv (decide (s1.2.2 < (a0.length : Int))))), (2015, .r (.arr 1 (s1.1.flatMap eI.o) [])), (2017, .r (.arr 1 (s1.2.1.flatMap eI.o) []))] .nil (by kernel_rfl) (by kernel_rfl) ?_
  rcases Bool.eq_false_or_eq_true (decide (s1.2.2 < (a0.length : Int))) with h5 | h5
  · have hM := ite_true' hM h5
    refine tr_condTe (e := decide (s1.2.2 < (a0.length : Int))) h5 (by kernel_rfl) ?_
    refine tr_skip (q_n ?_)
    refine tr_seq ?_
    refine tr_block ?_
    obtain ⟨y6, hy6, hM⟩ := bind_some' hM
    have hy6' := idx_some hy6
    obtain ⟨v7, hv7, hM⟩ := bind_some' hM
    refine tr_sr hT hm [(4, .val (iv y6)), (5, .call [1008] [] [.sl s1.2.1.length 0 (s1.2.1.flatMap eI.b), iv y6] [] (iv v7))] [0, 6, 8, 10, 12, 2015, 2017] [(0, .d (.sl a0.length 0 (a0.flatMap eI.b))), (6, .d (.rs 1007 0 s1.1.length)), (8, .d (.rs 1008 0 s1.2.1.length)), (10, .d (iv s1.2.2)), (12, .d (iv v7)), (2015, .r (.arr 1 (s1.1.flatMap eI.o) [])), (2017, .r (.arr 1 (s1.2.1.flatMap eI.o) []))] (.cons hy6'.1 (.cons hy6'.2.1 (.cons (at_b0 eI_ok hy6'.2.2 (d := iv y6) (by kernel_rfl)) (cc (B := [1008]) (ρ := []) (rB := [(1008, .arr 1 (s1.2.1.flatMap eI.o) [])]) ok111 (spec_l01Index_c s1.2.1 y6 _ hv7) (.cons (.of1 (.rs (r := 1008) (sz := 1) (refs := []) (memB (by kernel_rfl)) (by kernel_rfl) (bor_flat eI_ok _ _ _))) (.cons (.same rfl) .nil)) (.inr ⟨.v, trivial⟩) .nil)))) (by kernel_rfl) (by kernel_rfl) ?_
    refine tr_seq ?_
    refine tr_sr hT hm [] [0, 6, 8, 10, 12, 44, 2015, 2017] [(0, .d (.sl a0.length 0 (a0.flatMap eI.b))), (6, .d (.rs 1007 0 s1.1.length)), (8, .d (.rs 1008 0 s1.2.1.length)), (10, .d (iv s1.2.2)), (12, .d (iv v7)), (44, .d (bv (decide (v7 < 0)))), (2015, .r (.arr 1 (s1.1.flatMap eI.o) [])), (2017, .r (.arr 1 (s1.2.1.flatMap eI.o) []))] .nil (by kernel_rfl) (by kernel_rfl) ?_
    rcases Bool.eq_false_or_eq_true (decide (v7 < 0)) with h8 | h8
    · have hM := ite_true' hM h8
      refine tr_condTe (e := decide (v7 < 0)) h8 (by kernel_rfl) ?_
      refine tr_sr hT hm [] [0, 6, 8, 10, 12, 2015, 2017] [(0, .d (.sl a0.length 0 (a0.flatMap eI.b))), (6, .d (.rs 1007 0 s1.1.length)), (8, .d (.rs 1008 0 s1.2.1.length)), (10, .d (iv s1.2.2)), (12, .d (iv (s1.2.1.length : Int))), (2015, .r (.arr 1 (s1.1.flatMap eI.o) [])), (2017, .r (.arr 1 (s1.2.1.flatMap eI.o) []))] .nil (by kernel_rfl) (by kernel_rfl) ?_
      obtain ⟨h9, hM⟩ := chk_some hM
      refine tr_r hT hm [(4, .val (iv y6)), (6, .app true)] [0, 6, 8, 10, 12, 2015, 2063] [(0, .d (.sl a0.length 0 (a0.flatMap eI.b))), (6, .d (.rs 1007 0 s1.1.length)), (8, .d (.rs 1031 0 (s1.2.1.length + (([y6] : List Int).length)))), (10, .d (iv s1.2.2)), (12, .d (iv (s1.2.1.length : Int))), (2015, .r (.arr 1 (s1.1.flatMap eI.o) [])), (2063, .r (.arr 1 (s1.2.1.flatMap eI.o ++ ([y6] : List Int).flatMap eI.o) []))] (.cons hy6'.1 (.cons hy6'.2.1 (.cons (at_b0 eI_ok hy6'.2.2 (d := iv y6) (by kernel_rfl)) (.cons (lenO_flat eI_ok s1.2.1) (.cons (lenO_flat eI_ok ([y6] : List Int)) (.cons h9 .nil)))))) (by kernel_rfl) (by kernel_rfl) (q_n ?_)
      refine Tr.by (imp_cvE (r := 1031) (sz := 1) (refs := []) (flat_app eI.o s1.2.1 ([y6] : List Int)) (menO_flat eI_ok _) (by kernel_rfl)) ?_
      refine Tr.by (imp_cvD (k := 8) (congrArg (D.rs 1031 0) ((len_app s1.2.1 ([y6] : List Int)) : s1.2.1.length + (([y6] : List Int).length) = (s1.2.1 ++ ([y6] : List Int)).length)) (by kernel_rfl)) ?_
      obtain ⟨h10, hM⟩ := chk_some hM
      refine tr_r hT hm [(3, .app true)] [0, 6, 8, 10, 2063, 2071] [(0, .d (.sl a0.length 0 (a0.flatMap eI.b))), (6, .d (.rs 1035 0 (s1.1.length + (([(s1.2.1.length : Int)] : List Int).length)))), (8, .d (.rs 1031 0 ((s1.2.1 ++ ([y6] : List Int)).length))), (10, .d (iv s1.2.2)), (2063, .r (.arr 1 ((s1.2.1 ++ ([y6] : List Int)).flatMap eI.o) [])), (2071, .r (.arr 1 (s1.1.flatMap eI.o ++ ([(s1.2.1.length : Int)] : List Int).flatMap eI.o) []))] (.cons (lenO_flat eI_ok s1.1) (.cons (lenO_flat eI_ok ([(s1.2.1.length : Int)] : List Int)) (.cons h10 .nil))) (by kernel_rfl) (by kernel_rfl) (b_n (q_n ?_))
      refine Tr.by (imp_cvE (r := 1035) (sz := 1) (refs := []) (flat_app eI.o s1.1 ([(s1.2.1.length : Int)] : List Int)) (menO_flat eI_ok _) (by kernel_rfl)) ?_
      refine Tr.by (imp_cvD (k := 6) (congrArg (D.rs 1035 0) ((len_app s1.1 ([(s1.2.1.length : Int)] : List Int)) : s1.1.length + (([(s1.2.1.length : Int)] : List Int).length) = (s1.1 ++ ([(s1.2.1.length : Int)] : List Int)).length)) (by kernel_rfl)) ?_
      refine tr_r hT hm [] [0, 6, 8, 10, 2063, 2071] [(0, .d (.sl a0.length 0 (a0.flatMap eI.b))), (6, .d (.rs 1035 0 ((s1.1 ++ ([(s1.2.1.length : Int)] : List Int)).length))), (8, .d (.rs 1031 0 ((s1.2.1 ++ ([y6] : List Int)).length))), (10, .d (iv (IntKind.i64.wrap (s1.2.2 + 1)))), (2063, .r (.arr 1 ((s1.2.1 ++ ([y6] : List Int)).flatMap eI.o) [])), (2071, .r (.arr 1 ((s1.1 ++ ([(s1.2.1.length : Int)] : List Int)).flatMap eI.o) []))] .nil (by kernel_rfl) (by kernel_rfl) (l_n ?_)
      refine TrL.by (imp_sel (ks := [0, 6, 8, 10, 2063, 2071]) (st' := [(0, .d (.sl a0.length 0 (a0.flatMap eI.b))), (6, .d (.rs 1035 0 ((s1.1 ++ ([(s1.2.1.length : Int)] : List Int)).length))), (8, .d (.rs 1031 0 ((s1.2.1 ++ ([y6] : List Int)).length))), (10, .d (iv (IntKind.i64.wrap (s1.2.2 + 1)))), (2063, .r (.arr 1 ((s1.2.1 ++ ([y6] : List Int)).flatMap eI.o) [])), (2071, .r (.arr 1 ((s1.1 ++ ([(s1.2.1.length : Int)] : List Int)).flatMap eI.o) []))]) (by kernel_rfl)) ?_
      refine TrL.by (imp_rename (r := 1035) (q := 1007) (by kernel_rfl) (Nat.le_of_ble_eq_true rfl)) ?_
      refine TrL.by (imp_rename (r := 1031) (q := 1008) (by kernel_rfl) (Nat.le_of_ble_eq_true rfl)) ?_
      exact trl_start (ks := [0, 6, 8, 10, 2015, 2017]) (by kernel_rfl) (ih3 (s1.1 ++ ([(s1.2.1.length : Int)] : List Int), s1.2.1 ++ ([y6] : List Int), IntKind.i64.wrap (s1.2.2 + 1)) hM)
    · have hM := ite_false' hM h8
      refine tr_condFe (e := decide (v7 < 0)) h8 (by kernel_rfl) ?_
      refine tr_skip (q_n ?_)
      obtain ⟨h11, hM⟩ := chk_some hM
      refine tr_r hT hm [(3, .app true)] [0, 6, 8, 10, 2017, 2071] [(0, .d (.sl a0.length 0 (a0.flatMap eI.b))), (6, .d (.rs 1035 0 (s1.1.length + (([v7] : List Int).length)))), (8, .d (.rs 1008 0 s1.2.1.length)), (10, .d (iv s1.2.2)), (2017, .r (.arr 1 (s1.2.1.flatMap eI.o) [])), (2071, .r (.arr 1 (s1.1.flatMap eI.o ++ ([v7] : List Int).flatMap eI.o) []))] (.cons (lenO_flat eI_ok s1.1) (.cons (lenO_flat eI_ok ([v7] : List Int)) (.cons h11 .nil))) (by kernel_rfl) (by kernel_rfl) (b_n (q_n ?_))
      refine Tr.by (imp_cvE (r := 1035) (sz := 1) (refs := []) (flat_app eI.o s1.1 ([v7] : List Int)) (menO_flat eI_ok _) (by kernel_rfl)) ?_
      refine Tr.by (imp_cvD (k := 6) (congrArg (D.rs 1035 0) ((len_app s1.1 ([v7] : List Int)) : s1.1.length + (([v7] : List Int).length) = (s1.1 ++ ([v7] : List Int)).length)) (by kernel_rfl)) ?_
      refine tr_r hT hm [] [0, 6, 8, 10, 2017, 2071] [(0, .d (.sl a0.length 0 (a0.flatMap eI.b))), (6, .d (.rs 1035 0 ((s1.1 ++ ([v7] : List Int)).length))), (8, .d (.rs 1008 0 s1.2.1.length)), (10, .d (iv (IntKind.i64.wrap (s1.2.2 + 1)))), (2017, .r (.arr 1 (s1.2.1.flatMap eI.o) [])), (2071, .r (.arr 1 ((s1.1 ++ ([v7] : List Int)).flatMap eI.o) []))] .nil (by kernel_rfl) (by kernel_rfl) (l_n ?_)
      refine TrL.by (imp_sel (ks := [0, 6, 8, 10, 2017, 2071]) (st' := [(0, .d (.sl a0.length 0 (a0.flatMap eI.b))), (6, .d (.rs 1035 0 ((s1.1 ++ ([v7] : List Int)).length))), (8, .d (.rs 1008 0 s1.2.1.length)), (10, .d (iv (IntKind.i64.wrap (s1.2.2 + 1)))), (2017, .r (.arr 1 (s1.2.1.flatMap eI.o) [])), (2071, .r (.arr 1 ((s1.1 ++ ([v7] : List Int)).flatMap eI.o) []))]) (by kernel_rfl)) ?_
      refine TrL.by (imp_rename (r := 1035) (q := 1007) (by kernel_rfl) (Nat.le_of_ble_eq_true rfl)) ?_
      exact trl_start (ks := [0, 6, 8, 10, 2015, 2017]) (by kernel_rfl) (ih3 (s1.1 ++ ([v7] : List Int), s1.2.1, IntKind.i64.wrap (s1.2.2 + 1)) hM)
  · have hM := ite_false' hM h5
    refine tr_condFe (e := decide (s1.2.2 < (a0.length : Int))) h5 (by kernel_rfl) ?_
    refine tr_exit (q_x (l_x (b_h (q_n ?_))))
    refine tr_sr hT hm [] [4, 2015] [(4, .d (.rs 1007 0 s1.1.length)), (2015, .r (.arr 1 (s1.1.flatMap eI.o) []))] .nil (by kernel_rfl) (by kernel_rfl) ?_
    refine tr_ret (rg_r ?_)
    obtain rfl := Option.some.inj hM
    exact retg (names := []) (.cons (lenO_flat eI_ok s1.1) .nil) (by kernel_rfl)

theorem ok222 : CallOk Try.prog 222 := callOk_of Try.func222 (by kernel_rfl) (by kernel_rfl)
theorem impl_partition_classes_c (a0 : List Int) (r : Int) (hM : M.impl_partition_classes a0 = some r) :
    FnC Try.prog 222 [] [.sl a0.length 0 (a0.flatMap eI.b)] [] (iv r) := by
  refine fnc_startG (N := 18) (np := 500) hT Try.func222 rfl rfl (by kernel_rfl) ?_
  unfold M.impl_partition_classes at hM
  refine tr_start (ks := [0]) (st' := [(0, .d (.sl a0.length 0 (a0.flatMap eI.b)))]) (by kernel_rfl) ?_
  refine tr_sr hT hm [] [0] [(0, .d (.sl a0.length 0 (a0.flatMap eI.b)))] .nil (by kernel_rfl) (by kernel_rfl) ?_
  refine tr_sr hT hm [] [0, 6] [(0, .d (.sl a0.length 0 (a0.flatMap eI.b))), (6, .d (iv 0))] .nil (by kernel_rfl) (by kernel_rfl) ?_
  refine tr_seq ?_
  refine tr_sr hT hm [] [6, 12, 14, 16] [(6, .d (iv 0)), (12, .d (.sl a0.length 0 (a0.flatMap eI.b))), (14, .d (iv (a0.length : Int))), (16, .d (iv 0))] .nil (by kernel_rfl) (by kernel_rfl) ?_
  refine tr_block ?_
  refine tr_iterS (fun (s1 : Int × Int) => [(6, .d (iv s1.1)), (12, .d (.sl a0.length 0 (a0.flatMap eI.b))), (14, .d (iv (a0.length : Int))), (16, .d (iv s1.2))]) (0, 0) [6, 12, 14, 16] (by kernel_rfl) hM ?_
  intro n4 next2 ih3 s1 hM
  refine tr_sr hT hm [] [6, 12, 14, 16, 18] [(6, .d (iv s1.1)), (12, .d (.sl a0.length 0 (a0.flatMap eI.b))), (14, .d (iv (a0.length : Int))), (16, .d (iv s1.2)), (18, .d (bv (decide (s1.2 < (a0.length : Int)))))] .nil (by kernel_rfl) (by kernel_rfl) ?_
  refine tr_seq ?_
  rcases Bool.eq_false_or_eq_true (decide (s1.2 < (a0.length : Int))) with h5 | h5
  · have hM := ite_true' hM h5
    refine tr_condTe (e := decide (s1.2 < (a0.length : Int))) h5 (by kernel_rfl) ?_
    refine tr_skip (q_n ?_)
    refine tr_seq ?_
    refine tr_block ?_
    obtain ⟨y6, hy6, hM⟩ := bind_some' hM
    have hy6' := idx_some hy6
    refine tr_sr hT hm [(1, .val (iv y6))] [6, 10, 12, 14, 16] [(6, .d (iv s1.1)), (10, .d (iv y6)), (12, .d (.sl a0.length 0 (a0.flatMap eI.b))), (14, .d (iv (a0.length : Int))), (16, .d (iv s1.2))] (.cons hy6'.1 (.cons hy6'.2.1 (.cons (at_b0 eI_ok hy6'.2.2 (d := iv y6) (by kernel_rfl)) .nil))) (by kernel_rfl) (by kernel_rfl) ?_
    refine tr_r hT hm [] [6, 12, 14, 16] [(6, .d (iv (if (IntKind.i64.wrap (y6 + 1)) > s1.1 then (IntKind.i64.wrap (y6 + 1)) else s1.1))), (12, .d (.sl a0.length 0 (a0.flatMap eI.b))), (14, .d (iv (a0.length : Int))), (16, .d (iv s1.2))] .nil (by kernel_rfl) (by kernel_rfl) (b_n (q_n ?_))
    refine tr_r hT hm [] [6, 12, 14, 16] [(6, .d (iv (if (IntKind.i64.wrap (y6 + 1)) > s1.1 then (IntKind.i64.wrap (y6 + 1)) else s1.1))), (12, .d (.sl a0.length 0 (a0.flatMap eI.b))), (14, .d (iv (a0.length : Int))), (16, .d (iv (IntKind.i64.wrap (s1.2 + 1))))] .nil (by kernel_rfl) (by kernel_rfl) (l_n ?_)
    exact trl_start (ks := [6, 12, 14, 16]) (by kernel_rfl) (ih3 (if (IntKind.i64.wrap (y6 + 1)) > s1.1 then (IntKind.i64.wrap (y6 + 1)) else s1.1, IntKind.i64.wrap (s1.2 + 1)) hM)
  · have hM := ite_false' hM h5
    refine tr_condFe (e := decide (s1.2 < (a0.length : Int))) h5 (by kernel_rfl) ?_
    refine tr_exit (q_x (l_x (b_h (q_n ?_))))
    refine tr_sr hT hm [] [4] [(4, .d (iv s1.1))] .nil (by kernel_rfl) (by kernel_rfl) ?_
    refine tr_ret (rg_r ?_)
    obtain rfl := Option.some.inj hM
    exact retg (names := []) .nil (by kernel_rfl)

end Go.Proofs.Ytiikkfdehbcfaaa.WzC
