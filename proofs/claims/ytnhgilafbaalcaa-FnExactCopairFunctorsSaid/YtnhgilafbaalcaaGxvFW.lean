/- Walks. Printed by wip/gen. -/
import Derived.Test.YtnhgilafbaalcaaGxEM0
import Derived.Test.YtnhgilafbaalcaaGxEO0
import Derived.Test.YtnhgilafbaalcaaGxvBW3
import Derived.KernelRfl
namespace Go.Proofs.Ytnhgilafbaalcaa.WvF
open Go.Gx Go.Proofs.Ytnhgilafbaalcaa.WvB

theorem eXCategory_r : EncR eXCategory := (eA_r (eC_r eI_r _) (eA_r (eC_r (eS_r eI_ok) _) (eA_r (eC_r (eS_r eI_ok) _) (eA_r (eC_r (eS_r eI_ok) _) (eC_r (eS_r (eS_ok eI_ok)) _)))))
theorem eXFunctor_r : EncR eXFunctor := (eA_r (eC_r eXCategory_r _) (eA_r (eC_r eXCategory_r _) (eA_r (eC_r (eS_r eI_ok) _) (eC_r (eS_r eI_ok) _))))
def T : Tab := [(2, ⟨.int .i64, 1, 8, [.int .i64 0]⟩),
  (3, ⟨.int .i64, 1, 8, [.int .i64 0]⟩),
  (22, ⟨.slice 2, 1, 24, [.slice .none 0 0]⟩),
  (23, ⟨.slice 22, 1, 24, [.slice .none 0 0]⟩),
  (29, ⟨.struct #[⟨"Objects", 2, 0, false, "", "", 0⟩, ⟨"From", 22, 1, false, "", "", 8⟩, ⟨"To", 22, 2, false, "", "", 32⟩, ⟨"Identity", 22, 3, false, "", "", 56⟩, ⟨"Composites", 23, 4, false, "", "", 80⟩], 5, 104, [.int .i64 0, .slice .none 0 0, .slice .none 0 0, .slice .none 0 0, .slice .none 0 0]⟩),
  (31, ⟨.struct #[⟨"Source", 29, 0, false, "", "", 0⟩, ⟨"Target", 29, 5, false, "", "", 104⟩, ⟨"Objects", 22, 10, false, "", "", 208⟩, ⟨"Arrows", 22, 11, false, "", "", 232⟩], 12, 256, [.int .i64 0, .slice .none 0 0, .slice .none 0 0, .slice .none 0 0, .slice .none 0 0, .int .i64 0, .slice .none 0 0, .slice .none 0 0, .slice .none 0 0, .slice .none 0 0, .slice .none 0 0, .slice .none 0 0]⟩),
  (57, ⟨.pointer 31, 1, 8, [.pointer .none]⟩),
  (85, ⟨.slice 57, 1, 24, [.slice .none 0 0]⟩)]
theorem hT : TabOk Try.prog T := ⟨tiok (by kernel_rfl) (by kernel_rfl), tiok (by kernel_rfl) (by kernel_rfl), tiok (by kernel_rfl) (by kernel_rfl), tiok (by kernel_rfl) (by kernel_rfl), tiok (by kernel_rfl) (by kernel_rfl), tiok (by kernel_rfl) (by kernel_rfl), tiok (by kernel_rfl) (by kernel_rfl), tiok (by kernel_rfl) (by kernel_rfl), trivial⟩
theorem hm : Try.prog.follows .mixedOrders = true := by kernel_rfl

theorem ok29 : CallOk Try.prog 29 := callOk_of Try.func29 (by kernel_rfl) (by kernel_rfl)
theorem impl_areFunctors_c (a0 : List XFunctor) (r : Bool) (hM : M.impl_areFunctors a0 = some r) :
    FnC Try.prog 29 [] [.sl a0.length 0 (a0.flatMap (eP eXFunctor).b)] [] (bv r) := by
  refine fnc_startG (N := 15) (np := 500) hT Try.func29 rfl rfl (by kernel_rfl) ?_
  unfold M.impl_areFunctors at hM
  refine tr_start (ks := [0]) (st' := [(0, .d (.sl a0.length 0 (a0.flatMap (eP eXFunctor).b)))]) (by kernel_rfl) ?_
  refine tr_sr hT hm [] [0] [(0, .d (.sl a0.length 0 (a0.flatMap (eP eXFunctor).b)))] .nil (by kernel_rfl) (by kernel_rfl) ?_
  refine tr_seq ?_
  refine tr_sr hT hm [] [10, 12, 14] [(10, .d (.sl a0.length 0 (a0.flatMap (eP eXFunctor).b))), (12, .d (iv (a0.length : Int))), (14, .d (iv 0))] .nil (by kernel_rfl) (by kernel_rfl) ?_
  refine tr_block ?_
  refine tr_iterS (fun (s1 : Int) => [(10, .d (.sl a0.length 0 (a0.flatMap (eP eXFunctor).b))), (12, .d (iv (a0.length : Int))), (14, .d (iv s1))]) 0 [10, 12, 14] (by kernel_rfl) hM ?_
  intro n4 next2 ih3 s1 hM
  refine tr_sr hT hm [] [10, 12, 14, 16] [(10, .d (.sl a0.length 0 (a0.flatMap (eP eXFunctor).b))), (12, .d (iv (a0.length : Int))), (14, .d (iv s1)), (16, .d (bv (decide (s1 < (a0.length : Int)))))] .nil (by kernel_rfl) (by kernel_rfl) ?_
  refine tr_seq ?_
  rcases Bool.eq_false_or_eq_true (decide (s1 < (a0.length : Int))) with h5 | h5
  · have hM := ite_true' hM h5
    refine tr_condTe (e := decide (s1 < (a0.length : Int))) h5 (by kernel_rfl) ?_
    refine tr_skip (q_n ?_)
    refine tr_seq ?_
    refine tr_block ?_
    obtain ⟨y6, hy6, hM⟩ := bind_some' hM
    have hy6' := idx_some hy6
    refine tr_sr hT hm [(1, .val (.pt (eXFunctor.b y6) 0))] [8, 10, 12, 14] [(8, .d (.pt (eXFunctor.b y6) 0)), (10, .d (.sl a0.length 0 (a0.flatMap (eP eXFunctor).b))), (12, .d (iv (a0.length : Int))), (14, .d (iv s1))] (.cons hy6'.1 (.cons hy6'.2.1 (.cons (at_b0 (eP_ok (e := eXFunctor)) hy6'.2.2 (d := .pt (eXFunctor.b y6) 0) (by kernel_rfl)) .nil))) (by kernel_rfl) (by kernel_rfl) ?_
    obtain ⟨v7, hv7, hM⟩ := bind_some' hM
    refine tr_sr hT hm [(1, .call [] [] [.pt (eXFunctor.b y6) 0] [] (bv v7))] [10, 12, 14, 26] [(10, .d (.sl a0.length 0 (a0.flatMap (eP eXFunctor).b))), (12, .d (iv (a0.length : Int))), (14, .d (iv s1)), (26, .d (bv (!v7)))] (cc0 ok68 (impl_Functor_isFunctor_c y6 _ hv7) (by kernel_rfl) .nil) (by kernel_rfl) (by kernel_rfl) ?_
    rcases Bool.eq_false_or_eq_true v7 with h8 | h8
    · have hM := ite_true' hM h8
      refine tr_condFe (e := !v7) (congrArg not h8) (by kernel_rfl) ?_
      refine tr_skip (b_n (q_n ?_))
      refine tr_r hT hm [] [10, 12, 14] [(10, .d (.sl a0.length 0 (a0.flatMap (eP eXFunctor).b))), (12, .d (iv (a0.length : Int))), (14, .d (iv (IntKind.i64.wrap (s1 + 1))))] .nil (by kernel_rfl) (by kernel_rfl) (l_n ?_)
      exact trl_start (ks := [10, 12, 14]) (by kernel_rfl) (ih3 (IntKind.i64.wrap (s1 + 1)) hM)
    · have hM := ite_false' hM h8
      refine tr_condTe (e := !v7) (congrArg not h8) (by kernel_rfl) ?_
      refine tr_sr hT hm [] [4] [(4, .d (bv false))] .nil (by kernel_rfl) (by kernel_rfl) ?_
      refine tr_ret (b_r (q_r (l_r (b_r (q_r (rg_r ?_))))))
      obtain rfl := Option.some.inj hM
      exact retg (names := []) .nil (by kernel_rfl)
  · have hM := ite_false' hM h5
    refine tr_condFe (e := decide (s1 < (a0.length : Int))) h5 (by kernel_rfl) ?_
    refine tr_exit (q_x (l_x (b_h (q_n ?_))))
    refine tr_sr hT hm [] [4] [(4, .d (bv true))] .nil (by kernel_rfl) (by kernel_rfl) ?_
    refine tr_ret (rg_r ?_)
    obtain rfl := Option.some.inj hM
    exact retg (names := []) .nil (by kernel_rfl)

theorem ok22 : CallOk Try.prog 22 := callOk_of Try.func22 (by kernel_rfl) (by kernel_rfl)
theorem spec_l06Two_c (a0 : XFunctor) (a1 : XFunctor) (r : Int) (hM : M.spec_l06Two a0 a1 = some r) :
    FnC Try.prog 22 [] [.agg (eXFunctor.b a0), .agg (eXFunctor.b a1)] [] (iv r) := by
  refine fnc_startG (N := 13) (np := 500) hT Try.func22 rfl rfl (by kernel_rfl) ?_
  unfold M.spec_l06Two at hM
  refine tr_start (ks := [0, 2]) (st' := [(0, .d (.agg (eXFunctor.b a0))), (2, .d (.agg (eXFunctor.b a1)))]) (by kernel_rfl) ?_
  refine tr_sr hT hm [] [4, 6, 2005, 2007] [(4, .d (.rp 1002 0)), (6, .d (.rp 1003 0)), bxB 2005 (eXFunctor.b a0), bxB 2007 (eXFunctor.b a1)] .nil (by kernel_rfl) (by kernel_rfl) ?_
  refine tr_seq ?_
  obtain ⟨v1, hv1, hM⟩ := bind_some' hM
  rcases Bool.eq_false_or_eq_true v1 with h2 | h2
  · have hM := ite_true' hM h2
    obtain ⟨v3, hv3, hM⟩ := bind_some' hM
    refine tr_sr hT hm [(1, .call [] [] [.agg (eXFunctor.b a0)] [] (bv v1)), (3, .val (bv false)), (5, .call [] [] [.agg (eXFunctor.b a1)] [] (bv v3))] [24] [(24, .d (bv (!v3)))] (cc0 ok64 (spec_l06Is_c a0 _ hv1) (by kernel_rfl) (.cons (congrArg (fun b => bv b) (congrArg not h2)) (cc0 ok64 (spec_l06Is_c a1 _ hv3) (by kernel_rfl) .nil))) (by kernel_rfl) (by kernel_rfl) ?_
    rcases Bool.eq_false_or_eq_true v3 with h4 | h4
    · have hM := ite_true' hM h4
      refine tr_condFe (e := !v3) (congrArg not h4) (by kernel_rfl) ?_
      refine tr_skip (q_n ?_)
      refine tr_sr hT hm [] [8] [(8, .d (iv 0))] .nil (by kernel_rfl) (by kernel_rfl) ?_
      refine tr_ret (rg_r ?_)
      obtain rfl := Option.some.inj hM
      exact retg (names := []) .nil (by kernel_rfl)
    · have hM := ite_false' hM h4
      refine tr_condTe (e := !v3) (congrArg not h4) (by kernel_rfl) ?_
      refine tr_sr hT hm [] [8] [(8, .d (iv 1))] .nil (by kernel_rfl) (by kernel_rfl) ?_
      refine tr_ret (q_r (rg_r ?_))
      obtain rfl := Option.some.inj hM
      exact retg (names := []) .nil (by kernel_rfl)
  · have hM := ite_false' hM h2
    refine tr_sr hT hm [(1, .call [] [] [.agg (eXFunctor.b a0)] [] (bv v1)), (3, .val (bv true))] [24] [(24, .d (bv true))] (cc0 ok64 (spec_l06Is_c a0 _ hv1) (by kernel_rfl) (.cons (congrArg (fun b => bv b) (congrArg not h2)) .nil)) (by kernel_rfl) (by kernel_rfl) ?_
    refine tr_condT (by kernel_rfl) ?_
    refine tr_sr hT hm [] [8] [(8, .d (iv 1))] .nil (by kernel_rfl) (by kernel_rfl) ?_
    refine tr_ret (q_r (rg_r ?_))
    obtain rfl := Option.some.inj hM
    exact retg (names := []) .nil (by kernel_rfl)

end Go.Proofs.Ytnhgilafbaalcaa.WvF
