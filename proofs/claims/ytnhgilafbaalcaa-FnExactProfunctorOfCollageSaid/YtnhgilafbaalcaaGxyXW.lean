/- Walks. Printed by wip/gen. -/
import Derived.Test.YtnhgilafbaalcaaGxEM0
import Derived.Test.YtnhgilafbaalcaaGxEO0
import Derived.Test.YtnhgilafbaalcaaGxvIW
import Derived.KernelRfl
namespace Go.Proofs.Ytnhgilafbaalcaa.WyX
open Go.Gx Go.Proofs.Ytnhgilafbaalcaa.WvB Go.Proofs.Ytnhgilafbaalcaa.WvI

theorem eXCategory_r : EncR eXCategory := (eA_r (eC_r eI_r _) (eA_r (eC_r (eS_r eI_ok) _) (eA_r (eC_r (eS_r eI_ok) _) (eA_r (eC_r (eS_r eI_ok) _) (eC_r (eS_r (eS_ok eI_ok)) _)))))
theorem eXFunctor_r : EncR eXFunctor := (eA_r (eC_r eXCategory_r _) (eA_r (eC_r eXCategory_r _) (eA_r (eC_r (eS_r eI_ok) _) (eC_r (eS_r eI_ok) _))))
def T : Tab := [(2, ⟨.int .i64, 1, 8, [.int .i64 0]⟩),
  (3, ⟨.int .i64, 1, 8, [.int .i64 0]⟩),
  (22, ⟨.slice 2, 1, 24, [.slice .none 0 0]⟩)]
theorem hT : TabOk Try.prog T := ⟨tiok (by kernel_rfl) (by kernel_rfl), tiok (by kernel_rfl) (by kernel_rfl), tiok (by kernel_rfl) (by kernel_rfl), trivial⟩
theorem hm : Try.prog.follows .mixedOrders = true := by kernel_rfl

theorem ok49 : CallOk Try.prog 49 := callOk_of Try.func49 (by kernel_rfl) (by kernel_rfl)
theorem impl_shifted_c (a0 : List Int) (a1 : Int) (r : (List Int)) (hM : M.impl_shifted a0 a1 = some r) :
    FnC Try.prog 49 [] [.sl a0.length 0 (a0.flatMap eI.b), iv a1] [] (.fr 1 r.length (r.flatMap eI.o)) := by
  refine fnc_startG (N := 23) (np := 500) hT Try.func49 rfl rfl (by kernel_rfl) ?_
  unfold M.impl_shifted at hM
  refine tr_start (ks := [0, 2]) (st' := [(0, .d (.sl a0.length 0 (a0.flatMap eI.b))), (2, .d (iv a1))]) (by kernel_rfl) ?_
  refine tr_sr hT hm [] [0, 2] [(0, .d (.sl a0.length 0 (a0.flatMap eI.b))), (2, .d (iv a1))] .nil (by kernel_rfl) (by kernel_rfl) ?_
  refine tr_sr hT hm [] [0, 2, 10, 2017] [(0, .d (.sl a0.length 0 (a0.flatMap eI.b))), (2, .d (iv a1)), (10, .d (.rs 1008 0 (([] : List Int).length))), (2017, .r (.arr 1 (([] : List Int).flatMap eI.o) []))] .nil (by kernel_rfl) (by kernel_rfl) ?_
  refine tr_seq ?_
  refine tr_sr hT hm [] [2, 10, 18, 20, 22, 2017] [(2, .d (iv a1)), (10, .d (.rs 1008 0 (([] : List Int).length))), (18, .d (.sl a0.length 0 (a0.flatMap eI.b))), (20, .d (iv (a0.length : Int))), (22, .d (iv 0)), (2017, .r (.arr 1 (([] : List Int).flatMap eI.o) []))] .nil (by kernel_rfl) (by kernel_rfl) ?_
  refine tr_block ?_
  refine tr_iterS (fun (s1 : (List Int) × Int) => [(2, .d (iv a1)), (10, .d (.rs 1008 0 s1.1.length)), (18, .d (.sl a0.length 0 (a0.flatMap eI.b))), (20, .d (iv (a0.length : Int))), (22, .d (iv s1.2)), (2017, .r (.arr 1 (s1.1.flatMap eI.o) []))]) (([] : List Int), 0) [2, 10, 18, 20, 22, 2017] (by kernel_rfl) hM ?_
  intro n4 next2 ih3 s1 hM
  refine tr_sr hT hm [] [2, 10, 18, 20, 22, 24, 2017] [(2, .d (iv a1)), (10, .d (.rs 1008 0 s1.1.length)), (18, .d (.sl a0.length 0 (a0.flatMap eI.b))), (20, .d (iv (a0.length : Int))), (22, .d (iv s1.2)), (24, .d (bv (decide (s1.2 < (a0.length : Int))))), (2017, .r (.arr 1 (s1.1.flatMap eI.o) []))] .nil (by kernel_rfl) (by kernel_rfl) ?_
  refine tr_seq ?_
  rcases Bool.eq_false_or_eq_true (decide (s1.2 < (a0.length : Int))) with h5 | h5
  · have hM := ite_true' hM h5
    refine tr_condTe (e := decide (s1.2 < (a0.length : Int))) h5 (by kernel_rfl) ?_
    refine tr_skip (q_n ?_)
    refine tr_seq ?_
    refine tr_block ?_
    obtain ⟨y6, hy6, hM⟩ := bind_some' hM
    have hy6' := idx_some hy6
    refine tr_sr hT hm [(1, .val (iv y6))] [2, 10, 14, 18, 20, 22, 2017] [(2, .d (iv a1)), (10, .d (.rs 1008 0 s1.1.length)), (14, .d (iv y6)), (18, .d (.sl a0.length 0 (a0.flatMap eI.b))), (20, .d (iv (a0.length : Int))), (22, .d (iv s1.2)), (2017, .r (.arr 1 (s1.1.flatMap eI.o) []))] (.cons hy6'.1 (.cons hy6'.2.1 (.cons (at_b0 eI_ok hy6'.2.2 (d := iv y6) (by kernel_rfl)) .nil))) (by kernel_rfl) (by kernel_rfl) ?_
    obtain ⟨h7, hM⟩ := chk_some hM
    refine tr_r hT hm [(5, .app true)] [2, 10, 18, 20, 22, 2041] [(2, .d (iv a1)), (10, .d (.rs 1020 0 (s1.1.length + (([IntKind.i64.wrap (y6 + a1)] : List Int).length)))), (18, .d (.sl a0.length 0 (a0.flatMap eI.b))), (20, .d (iv (a0.length : Int))), (22, .d (iv s1.2)), (2041, .r (.arr 1 (s1.1.flatMap eI.o ++ ([IntKind.i64.wrap (y6 + a1)] : List Int).flatMap eI.o) []))] (.cons (lenO_flat eI_ok s1.1) (.cons (lenO_flat eI_ok ([IntKind.i64.wrap (y6 + a1)] : List Int)) (.cons h7 .nil))) (by kernel_rfl) (by kernel_rfl) (b_n (q_n ?_))
    refine Tr.by (imp_cvE (r := 1020) (sz := 1) (refs := []) (flat_app eI.o s1.1 ([IntKind.i64.wrap (y6 + a1)] : List Int)) (menO_flat eI_ok _) (by kernel_rfl)) ?_
    refine Tr.by (imp_cvD (k := 10) (congrArg (D.rs 1020 0) ((len_app s1.1 ([IntKind.i64.wrap (y6 + a1)] : List Int)) : s1.1.length + (([IntKind.i64.wrap (y6 + a1)] : List Int).length) = (s1.1 ++ ([IntKind.i64.wrap (y6 + a1)] : List Int)).length)) (by kernel_rfl)) ?_
    refine tr_r hT hm [] [2, 10, 18, 20, 22, 2041] [(2, .d (iv a1)), (10, .d (.rs 1020 0 ((s1.1 ++ ([IntKind.i64.wrap (y6 + a1)] : List Int)).length))), (18, .d (.sl a0.length 0 (a0.flatMap eI.b))), (20, .d (iv (a0.length : Int))), (22, .d (iv (IntKind.i64.wrap (s1.2 + 1)))), (2041, .r (.arr 1 ((s1.1 ++ ([IntKind.i64.wrap (y6 + a1)] : List Int)).flatMap eI.o) []))] .nil (by kernel_rfl) (by kernel_rfl) (l_n ?_)
    refine TrL.by (imp_sel (ks := [2, 10, 18, 20, 22, 2041]) (st' := [(2, .d (iv a1)), (10, .d (.rs 1020 0 ((s1.1 ++ ([IntKind.i64.wrap (y6 + a1)] : List Int)).length))), (18, .d (.sl a0.length 0 (a0.flatMap eI.b))), (20, .d (iv (a0.length : Int))), (22, .d (iv (IntKind.i64.wrap (s1.2 + 1)))), (2041, .r (.arr 1 ((s1.1 ++ ([IntKind.i64.wrap (y6 + a1)] : List Int)).flatMap eI.o) []))]) (by kernel_rfl)) ?_
    refine TrL.by (imp_rename (r := 1020) (q := 1008) (by kernel_rfl) (Nat.le_of_ble_eq_true rfl)) ?_
    exact trl_start (ks := [2, 10, 18, 20, 22, 2017]) (by kernel_rfl) (ih3 (s1.1 ++ ([IntKind.i64.wrap (y6 + a1)] : List Int), IntKind.i64.wrap (s1.2 + 1)) hM)
  · have hM := ite_false' hM h5
    refine tr_condFe (e := decide (s1.2 < (a0.length : Int))) h5 (by kernel_rfl) ?_
    refine tr_exit (q_x (l_x (b_h (q_n ?_))))
    refine tr_sr hT hm [] [8, 2017] [(8, .d (.rs 1008 0 s1.1.length)), (2017, .r (.arr 1 (s1.1.flatMap eI.o) []))] .nil (by kernel_rfl) (by kernel_rfl) ?_
    refine tr_ret (rg_r ?_)
    obtain rfl := Option.some.inj hM
    exact retg (names := []) (.cons (lenO_flat eI_ok s1.1) .nil) (by kernel_rfl)

end Go.Proofs.Ytnhgilafbaalcaa.WyX
