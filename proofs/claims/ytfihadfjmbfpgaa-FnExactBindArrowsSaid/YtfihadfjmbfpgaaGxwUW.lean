/- Walks. Printed by wip/gen. -/
import Derived.Test.YtfihadfjmbfpgaaGxEM0
import Derived.Test.YtfihadfjmbfpgaaGxEO0
import Derived.Test.YtfihadfjmbfpgaaGxwTW
import Derived.KernelRfl
namespace Go.Proofs.Ytfihadfjmbfpgaa.WwU
open Go.Gx Go.Proofs.Ytfihadfjmbfpgaa.WvB Go.Proofs.Ytfihadfjmbfpgaa.WvS Go.Proofs.Ytfihadfjmbfpgaa.WvF Go.Proofs.Ytfihadfjmbfpgaa.WwT

theorem eXCategory_r : EncR eXCategory := (eA_r (eC_r eI_r _) (eA_r (eC_r (eS_r eI_ok) _) (eA_r (eC_r (eS_r eI_ok) _) (eA_r (eC_r (eS_r eI_ok) _) (eC_r (eS_r (eS_ok eI_ok)) _)))))
theorem eXFunctor_r : EncR eXFunctor := (eA_r (eC_r eXCategory_r _) (eA_r (eC_r eXCategory_r _) (eA_r (eC_r (eS_r eI_ok) _) (eC_r (eS_r eI_ok) _))))
def T : Tab := [(3, ⟨.int .i64, 1, 8, [.int .i64 0]⟩),
  (89, ⟨.pointer 87, 1, 8, [.pointer .none]⟩),
  (117, ⟨.slice 89, 1, 24, [.slice .none 0 0]⟩)]
theorem hT : TabOk Try.prog T := ⟨tiok (by kernel_rfl) (by kernel_rfl), tiok (by kernel_rfl) (by kernel_rfl), tiok (by kernel_rfl) (by kernel_rfl), trivial⟩
theorem hm : Try.prog.follows .mixedOrders = true := by kernel_rfl

theorem ok56 : CallOk Try.prog 56 := callOk_of Try.func56 (by kernel_rfl) (by kernel_rfl)
theorem impl_areNatural_c (a0 : List XTransformation) (r : Bool) (hM : M.impl_areNatural a0 = some r) :
    FnC Try.prog 56 [] [.sl a0.length 0 (a0.flatMap (eP eXTransformation).b)] [] (bv r) := by
  refine fnc_startG (N := 15) (np := 500) hT Try.func56 rfl rfl (by kernel_rfl) ?_
  unfold M.impl_areNatural at hM
  refine tr_start (ks := [0]) (st' := [(0, .d (.sl a0.length 0 (a0.flatMap (eP eXTransformation).b)))]) (by kernel_rfl) ?_
  refine tr_sr hT hm [] [0] [(0, .d (.sl a0.length 0 (a0.flatMap (eP eXTransformation).b)))] .nil (by kernel_rfl) (by kernel_rfl) ?_
  refine tr_seq ?_
  refine tr_sr hT hm [] [10, 12, 14] [(10, .d (.sl a0.length 0 (a0.flatMap (eP eXTransformation).b))), (12, .d (iv (a0.length : Int))), (14, .d (iv 0))] .nil (by kernel_rfl) (by kernel_rfl) ?_
  refine tr_block ?_
  refine tr_iterS (fun (s1 : Int) => [(10, .d (.sl a0.length 0 (a0.flatMap (eP eXTransformation).b))), (12, .d (iv (a0.length : Int))), (14, .d (iv s1))]) 0 [10, 12, 14] (by kernel_rfl) hM ?_
  intro n4 next2 ih3 s1 hM
  refine tr_sr hT hm [] [10, 12, 14, 16] [(10, .d (.sl a0.length 0 (a0.flatMap (eP eXTransformation).b))), (12, .d (iv (a0.length : Int))), (14, .d (iv s1)), (16, .d (bv (decide (s1 < (a0.length : Int)))))] .nil (by kernel_rfl) (by kernel_rfl) ?_
  refine tr_seq ?_
  rcases Bool.eq_false_or_eq_true (decide (s1 < (a0.length : Int))) with h5 | h5
  · have hM := ite_true' hM h5
    refine tr_condTe (e := decide (s1 < (a0.length : Int))) h5 (by kernel_rfl) ?_
    refine tr_skip (q_n ?_)
    refine tr_seq ?_
    refine tr_block ?_
    obtain ⟨y6, hy6, hM⟩ := bind_some' hM
    have hy6' := idx_some hy6
    refine tr_sr hT hm [(1, .val (.pt (eXTransformation.b y6) 0))] [8, 10, 12, 14] [(8, .d (.pt (eXTransformation.b y6) 0)), (10, .d (.sl a0.length 0 (a0.flatMap (eP eXTransformation).b))), (12, .d (iv (a0.length : Int))), (14, .d (iv s1))] (.cons hy6'.1 (.cons hy6'.2.1 (.cons (at_b0 (eP_ok (e := eXTransformation)) hy6'.2.2 (d := .pt (eXTransformation.b y6) 0) (by kernel_rfl)) .nil))) (by kernel_rfl) (by kernel_rfl) ?_
    obtain ⟨v7, hv7, hM⟩ := bind_some' hM
    refine tr_sr hT hm [(1, .call [] [] [.pt (eXTransformation.b y6) 0] [] (bv v7))] [10, 12, 14, 26] [(10, .d (.sl a0.length 0 (a0.flatMap (eP eXTransformation).b))), (12, .d (iv (a0.length : Int))), (14, .d (iv s1)), (26, .d (bv (!v7)))] (cc0 ok91 (impl_Transformation_isNatural_c y6 _ hv7) (by kernel_rfl) .nil) (by kernel_rfl) (by kernel_rfl) ?_
    rcases Bool.eq_false_or_eq_true v7 with h8 | h8
    · have hM := ite_true' hM h8
      refine tr_condFe (e := !v7) (congrArg not h8) (by kernel_rfl) ?_
      refine tr_skip (b_n (q_n ?_))
      refine tr_r hT hm [] [10, 12, 14] [(10, .d (.sl a0.length 0 (a0.flatMap (eP eXTransformation).b))), (12, .d (iv (a0.length : Int))), (14, .d (iv (IntKind.i64.wrap (s1 + 1))))] .nil (by kernel_rfl) (by kernel_rfl) (l_n ?_)
      exact trl_start (ks := [10, 12, 14]) (by kernel_rfl) (ih3 (IntKind.i64.wrap (s1 + 1)) hM)
    · have hM := ite_false' hM h8
      refine tr_condTe (e := !v7) (congrArg not h8) (by kernel_rfl) ?_
      refine tr_sr hT hm [] [4] [(4, .d (bv false))] .nil (by kernel_rfl) (by kernel_rfl) ?_
      refine tr_ret (b_r (q_r (l_r (b_r (q_r (rg_r ?_))))))
      obtain rfl := Option.some.inj hM
      exact retg (names := []) .nil (by kernel_rfl)
  · have hM := ite_false' hM h5
    refine tr_condFe (e := decide (s1 < (a0.length : Int))) h5 (by kernel_rfl) ?_
    refine tr_exit (q_x (l_x (b_h (q_n ?_))))
    refine tr_sr hT hm [] [4] [(4, .d (bv true))] .nil (by kernel_rfl) (by kernel_rfl) ?_
    refine tr_ret (rg_r ?_)
    obtain rfl := Option.some.inj hM
    exact retg (names := []) .nil (by kernel_rfl)

end Go.Proofs.Ytfihadfjmbfpgaa.WwU
