/- Walks. Printed by wip/gen. -/
import Derived.Test.YthafadgnjkmfkaaGxEM0
import Derived.Test.YthafadgnjkmfkaaGxEO0
import Derived.Test.YthafadgnjkmfkaaGxvBW2
import Derived.KernelRfl
namespace Go.Proofs.Ythafadgnjkmfkaa.WvS
open Go.Gx Go.Proofs.Ythafadgnjkmfkaa.WvB

theorem eXCategory_r : EncR eXCategory := (eA_r (eC_r eI_r _) (eA_r (eC_r (eS_r eI_ok) _) (eA_r (eC_r (eS_r eI_ok) _) (eA_r (eC_r (eS_r eI_ok) _) (eC_r (eS_r (eS_ok eI_ok)) _)))))
def T : Tab := [(2, ⟨.int .i64, 1, 8, [.int .i64 0]⟩),
  (3, ⟨.int .i64, 1, 8, [.int .i64 0]⟩),
  (22, ⟨.slice 2, 1, 24, [.slice .none 0 0]⟩)]
theorem hT : TabOk Try.prog T := ⟨tiok (by kernel_rfl) (by kernel_rfl), tiok (by kernel_rfl) (by kernel_rfl), tiok (by kernel_rfl) (by kernel_rfl), trivial⟩
theorem hm : Try.prog.follows .mixedOrders = true := by kernel_rfl

theorem ok111 : CallOk Try.prog 111 := callOk_of Try.func111 (by kernel_rfl) (by kernel_rfl)
theorem spec_l01Same_c (a0 : List Int) (a1 : List Int) (r : Bool) (hM : M.spec_l01Same a0 a1 = some r) :
    FnC Try.prog 111 [] [.sl a0.length 0 (a0.flatMap eI.b), .sl a1.length 0 (a1.flatMap eI.b)] [] (bv r) := by
  refine fnc_startG (N := 26) (np := 500) hT Try.func111 rfl rfl (by kernel_rfl) ?_
  unfold M.spec_l01Same at hM
  refine tr_start (ks := [0, 2]) (st' := [(0, .d (.sl a0.length 0 (a0.flatMap eI.b))), (2, .d (.sl a1.length 0 (a1.flatMap eI.b)))]) (by kernel_rfl) ?_
  refine tr_sr hT hm [] [0, 2] [(0, .d (.sl a0.length 0 (a0.flatMap eI.b))), (2, .d (.sl a1.length 0 (a1.flatMap eI.b)))] .nil (by kernel_rfl) (by kernel_rfl) ?_
  refine tr_seq ?_
  refine tr_sr hT hm [] [0, 2, 20] [(0, .d (.sl a0.length 0 (a0.flatMap eI.b))), (2, .d (.sl a1.length 0 (a1.flatMap eI.b))), (20, .d (bv ((a0.length : Int) != (a1.length : Int))))] .nil (by kernel_rfl) (by kernel_rfl) ?_
  rcases Bool.eq_false_or_eq_true ((a0.length : Int) != (a1.length : Int)) with h1 | h1
  · have hM := ite_true' hM h1
    refine tr_condTe (e := (a0.length : Int) != (a1.length : Int)) h1 (by kernel_rfl) ?_
    refine tr_sr hT hm [] [8] [(8, .d (bv false))] .nil (by kernel_rfl) (by kernel_rfl) ?_
    refine tr_ret (q_r (rg_r ?_))
    obtain rfl := Option.some.inj hM
    exact retg (names := []) .nil (by kernel_rfl)
  · have hM := ite_false' hM h1
    refine tr_condFe (e := (a0.length : Int) != (a1.length : Int)) h1 (by kernel_rfl) ?_
    refine tr_skip (q_n ?_)
    refine tr_seq ?_
    refine tr_sr hT hm [] [0, 2, 10] [(0, .d (.sl a0.length 0 (a0.flatMap eI.b))), (2, .d (.sl a1.length 0 (a1.flatMap eI.b))), (10, .d (iv 0))] .nil (by kernel_rfl) (by kernel_rfl) ?_
    refine tr_block ?_
    refine tr_iterS (fun (s2 : Int) => [(0, .d (.sl a0.length 0 (a0.flatMap eI.b))), (2, .d (.sl a1.length 0 (a1.flatMap eI.b))), (10, .d (iv s2))]) 0 [0, 2, 10] (by kernel_rfl) hM ?_
    intro n5 next3 ih4 s2 hM
    refine tr_seq ?_
    refine tr_sr hT hm [] [0, 2, 10, 28] [(0, .d (.sl a0.length 0 (a0.flatMap eI.b))), (2, .d (.sl a1.length 0 (a1.flatMap eI.b))), (10, .d (iv s2)), (28, .d (bv (decide (s2 < (a0.length : Int)))))] .nil (by kernel_rfl) (by kernel_rfl) ?_
    rcases Bool.eq_false_or_eq_true (decide (s2 < (a0.length : Int))) with h6 | h6
    · have hM := ite_true' hM h6
      refine tr_condTe (e := decide (s2 < (a0.length : Int))) h6 (by kernel_rfl) ?_
      refine tr_skip (q_n ?_)
      refine tr_seq ?_
      refine tr_block ?_
      obtain ⟨y7, hy7, hM⟩ := bind_some' hM
      have hy7' := idx_some hy7
      obtain ⟨y8, hy8, hM⟩ := bind_some' hM
      have hy8' := idx_some hy8
      refine tr_sr hT hm [(3, .val (iv y7)), (7, .val (iv y8))] [0, 2, 10, 50] [(0, .d (.sl a0.length 0 (a0.flatMap eI.b))), (2, .d (.sl a1.length 0 (a1.flatMap eI.b))), (10, .d (iv s2)), (50, .d (bv (y7 != y8)))] (.cons hy7'.1 (.cons hy7'.2.1 (.cons (at_b0 eI_ok hy7'.2.2 (d := iv y7) (by kernel_rfl)) (.cons hy8'.1 (.cons hy8'.2.1 (.cons (at_b0 eI_ok hy8'.2.2 (d := iv y8) (by kernel_rfl)) .nil)))))) (by kernel_rfl) (by kernel_rfl) ?_
      rcases Bool.eq_false_or_eq_true (y7 != y8) with h9 | h9
      · have hM := ite_true' hM h9
        refine tr_condTe (e := y7 != y8) h9 (by kernel_rfl) ?_
        refine tr_sr hT hm [] [8] [(8, .d (bv false))] .nil (by kernel_rfl) (by kernel_rfl) ?_
        refine tr_ret (b_r (q_r (l_r (b_r (q_r (rg_r ?_))))))
        obtain rfl := Option.some.inj hM
        exact retg (names := []) .nil (by kernel_rfl)
      · have hM := ite_false' hM h9
        refine tr_condFe (e := y7 != y8) h9 (by kernel_rfl) ?_
        refine tr_skip (b_n (q_n ?_))
        refine tr_r hT hm [] [0, 2, 10] [(0, .d (.sl a0.length 0 (a0.flatMap eI.b))), (2, .d (.sl a1.length 0 (a1.flatMap eI.b))), (10, .d (iv (IntKind.i64.wrap (s2 + 1))))] .nil (by kernel_rfl) (by kernel_rfl) (l_n ?_)
        exact trl_start (ks := [0, 2, 10]) (by kernel_rfl) (ih4 (IntKind.i64.wrap (s2 + 1)) hM)
    · have hM := ite_false' hM h6
      refine tr_condFe (e := decide (s2 < (a0.length : Int))) h6 (by kernel_rfl) ?_
      refine tr_exit (q_x (l_x (b_h (q_n ?_))))
      refine tr_sr hT hm [] [8] [(8, .d (bv true))] .nil (by kernel_rfl) (by kernel_rfl) ?_
      refine tr_ret (rg_r ?_)
      obtain rfl := Option.some.inj hM
      exact retg (names := []) .nil (by kernel_rfl)

end Go.Proofs.Ythafadgnjkmfkaa.WvS
