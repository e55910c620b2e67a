/- Walks. Printed by wip/gen. -/
import Derived.Test.YtiikkfdehbcfaaaGxEM0
import Derived.Test.YtiikkfdehbcfaaaGxEO0
import Derived.Test.YtiikkfdehbcfaaaGxzVW
import Derived.KernelRfl
namespace Go.Proofs.Ytiikkfdehbcfaaa.WzA
open Go.Gx Go.Proofs.Ytiikkfdehbcfaaa.WvB Go.Proofs.Ytiikkfdehbcfaaa.WyN Go.Proofs.Ytiikkfdehbcfaaa.WzV

theorem eXCategory_r : EncR eXCategory := (eA_r (eC_r eI_r _) (eA_r (eC_r (eS_r eI_ok) _) (eA_r (eC_r (eS_r eI_ok) _) (eA_r (eC_r (eS_r eI_ok) _) (eC_r (eS_r (eS_ok eI_ok)) _)))))
theorem eXFunctor_r : EncR eXFunctor := (eA_r (eC_r eXCategory_r _) (eA_r (eC_r eXCategory_r _) (eA_r (eC_r (eS_r eI_ok) _) (eC_r (eS_r eI_ok) _))))
def T : Tab := [(2, ⟨.int .i64, 1, 8, [.int .i64 0]⟩),
  (3, ⟨.int .i64, 1, 8, [.int .i64 0]⟩),
  (22, ⟨.slice 2, 1, 24, [.slice .none 0 0]⟩),
  (23, ⟨.slice 22, 1, 24, [.slice .none 0 0]⟩),
  (34, ⟨.struct #[⟨"Objects", 2, 0, false, "", "", 0⟩, ⟨"From", 22, 1, false, "", "", 8⟩, ⟨"To", 22, 2, false, "", "", 32⟩, ⟨"Identity", 22, 3, false, "", "", 56⟩, ⟨"Composites", 23, 4, false, "", "", 80⟩], 5, 104, [.int .i64 0, .slice .none 0 0, .slice .none 0 0, .slice .none 0 0, .slice .none 0 0]⟩)]
theorem hT : TabOk Try.prog T := ⟨tiok (by kernel_rfl) (by kernel_rfl), tiok (by kernel_rfl) (by kernel_rfl), tiok (by kernel_rfl) (by kernel_rfl), tiok (by kernel_rfl) (by kernel_rfl), tiok (by kernel_rfl) (by kernel_rfl), trivial⟩
theorem hm : Try.prog.follows .mixedOrders = true := by kernel_rfl

theorem ok258 : CallOk Try.prog 258 := callOk_of Try.func258 (by kernel_rfl) (by kernel_rfl)
theorem spec_l06Alike_c (a0 : XCategory) (a1 : Int) (a2 : Int) (r : Bool) (hM : M.spec_l06Alike a0 a1 a2 = some r) :
    FnC Try.prog 258 [] [.agg (eXCategory.b a0), iv a1, iv a2] [] (bv r) := by
  refine fnc_startG (N := 26) (np := 500) hT Try.func258 rfl rfl (by kernel_rfl) ?_
  unfold M.spec_l06Alike at hM
  refine tr_start (ks := [0, 2, 4]) (st' := [(0, .d (.agg (eXCategory.b a0))), (2, .d (iv a1)), (4, .d (iv a2))]) (by kernel_rfl) ?_
  refine tr_sr hT hm [] [2, 4, 6, 2007] [(2, .d (iv a1)), (4, .d (iv a2)), (6, .d (.rp 1003 0)), bxB 2007 (eXCategory.b a0)] .nil (by kernel_rfl) (by kernel_rfl) ?_
  obtain ⟨v1, hv1, hM⟩ := bind_some' hM
  refine tr_sr hT hm [(3, .call [] [] [.agg (eXCategory.b a0), iv a1, iv a2] [] (.fr 1 v1.length (v1.flatMap eI.o)))] [6, 14, 2007, 28001] [(6, .d (.rp 1003 0)), (14, .d (.rs 14000 0 v1.length)), bxB 2007 (eXCategory.b a0), (28001, .r (.arr 1 (v1.flatMap eI.o) []))] (cc0 ok192 (spec_l02Hom_c a0 a1 a2 _ hv1) (by kernel_rfl) .nil) (by kernel_rfl) (by kernel_rfl) ?_
  refine tr_seq ?_
  refine tr_sr hT hm [] [6, 14, 16, 2007, 28001] [(6, .d (.rp 1003 0)), (14, .d (.rs 14000 0 v1.length)), (16, .d (iv 0)), bxB 2007 (eXCategory.b a0), (28001, .r (.arr 1 (v1.flatMap eI.o) []))] .nil (by kernel_rfl) (by kernel_rfl) ?_
  refine tr_block ?_
  refine tr_iterS (fun (s2 : Int) => [(6, .d (.rp 1003 0)), (14, .d (.rs 14000 0 v1.length)), (16, .d (iv s2)), bxB 2007 (eXCategory.b a0), (28001, .r (.arr 1 (v1.flatMap eI.o) []))]) 0 [6, 14, 16, 2007, 28001] (by kernel_rfl) hM ?_
  intro n5 next3 ih4 s2 hM
  refine tr_seq ?_
  refine tr_sr hT hm [] [6, 14, 16, 32, 2007, 28001] [(6, .d (.rp 1003 0)), (14, .d (.rs 14000 0 v1.length)), (16, .d (iv s2)), (32, .d (bv (decide (s2 < (v1.length : Int))))), bxB 2007 (eXCategory.b a0), (28001, .r (.arr 1 (v1.flatMap eI.o) []))] .nil (by kernel_rfl) (by kernel_rfl) ?_
  rcases Bool.eq_false_or_eq_true (decide (s2 < (v1.length : Int))) with h6 | h6
  · have hM := ite_true' hM h6
    refine tr_condTe (e := decide (s2 < (v1.length : Int))) h6 (by kernel_rfl) ?_
    refine tr_skip (q_n ?_)
    refine tr_seq ?_
    refine tr_block ?_
    obtain ⟨y7, hy7, hM⟩ := bind_some' hM
    have hy7' := idx_some hy7
    obtain ⟨v8, hv8, hM⟩ := bind_some' hM
    refine tr_sr hT hm [(4, .val (iv y7)), (5, .call [] [] [.agg (eXCategory.b a0), iv y7] [] (iv v8))] [6, 14, 16, 50, 2007, 28001] [(6, .d (.rp 1003 0)), (14, .d (.rs 14000 0 v1.length)), (16, .d (iv s2)), (50, .d (bv (decide (v8 ≥ 0)))), bxB 2007 (eXCategory.b a0), (28001, .r (.arr 1 (v1.flatMap eI.o) []))] (.cons hy7'.1 (.cons hy7'.2.1 (.cons (at_o0 eI_ok hy7'.2.2 (d := iv y7) (by kernel_rfl)) (cc0 ok112 (spec_l02Inverse_c a0 y7 _ hv8) (by kernel_rfl) .nil)))) (by kernel_rfl) (by kernel_rfl) ?_
    rcases Bool.eq_false_or_eq_true (decide (v8 ≥ 0)) with h9 | h9
    · have hM := ite_true' hM h9
      refine tr_condTe (e := decide (v8 ≥ 0)) h9 (by kernel_rfl) ?_
      refine tr_sr hT hm [] [12] [(12, .d (bv true))] .nil (by kernel_rfl) (by kernel_rfl) ?_
      refine tr_ret (b_r (q_r (l_r (b_r (q_r (rg_r ?_))))))
      obtain rfl := Option.some.inj hM
      exact retg (names := []) .nil (by kernel_rfl)
    · have hM := ite_false' hM h9
      refine tr_condFe (e := decide (v8 ≥ 0)) h9 (by kernel_rfl) ?_
      refine tr_skip (b_n (q_n ?_))
      refine tr_r hT hm [] [6, 14, 16, 2007, 28001] [(6, .d (.rp 1003 0)), (14, .d (.rs 14000 0 v1.length)), (16, .d (iv (IntKind.i64.wrap (s2 + 1)))), bxB 2007 (eXCategory.b a0), (28001, .r (.arr 1 (v1.flatMap eI.o) []))] .nil (by kernel_rfl) (by kernel_rfl) (l_n ?_)
      exact trl_start (ks := [6, 14, 16, 2007, 28001]) (by kernel_rfl) (ih4 (IntKind.i64.wrap (s2 + 1)) hM)
  · have hM := ite_false' hM h6
    refine tr_condFe (e := decide (s2 < (v1.length : Int))) h6 (by kernel_rfl) ?_
    refine tr_exit (q_x (l_x (b_h (q_n ?_))))
    refine tr_sr hT hm [] [12] [(12, .d (bv false))] .nil (by kernel_rfl) (by kernel_rfl) ?_
    refine tr_ret (rg_r ?_)
    obtain rfl := Option.some.inj hM
    exact retg (names := []) .nil (by kernel_rfl)

end Go.Proofs.Ytiikkfdehbcfaaa.WzA
