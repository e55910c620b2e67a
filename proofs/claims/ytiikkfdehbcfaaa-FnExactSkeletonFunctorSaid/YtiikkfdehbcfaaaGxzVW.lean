/- Walks. Printed by wip/gen. -/
import Derived.Test.YtiikkfdehbcfaaaGxEM0
import Derived.Test.YtiikkfdehbcfaaaGxEO0
import Derived.Test.YtiikkfdehbcfaaaGxyNW
import Derived.KernelRfl
namespace Go.Proofs.Ytiikkfdehbcfaaa.WzV
open Go.Gx Go.Proofs.Ytiikkfdehbcfaaa.WvB Go.Proofs.Ytiikkfdehbcfaaa.WyN

theorem eXCategory_r : EncR eXCategory := (eA_r (eC_r eI_r _) (eA_r (eC_r (eS_r eI_ok) _) (eA_r (eC_r (eS_r eI_ok) _) (eA_r (eC_r (eS_r eI_ok) _) (eC_r (eS_r (eS_ok eI_ok)) _)))))
theorem eXFunctor_r : EncR eXFunctor := (eA_r (eC_r eXCategory_r _) (eA_r (eC_r eXCategory_r _) (eA_r (eC_r (eS_r eI_ok) _) (eC_r (eS_r eI_ok) _))))
def T : Tab := [(2, ⟨.int .i64, 1, 8, [.int .i64 0]⟩),
  (3, ⟨.int .i64, 1, 8, [.int .i64 0]⟩),
  (22, ⟨.slice 2, 1, 24, [.slice .none 0 0]⟩),
  (23, ⟨.slice 22, 1, 24, [.slice .none 0 0]⟩),
  (34, ⟨.struct #[⟨"Objects", 2, 0, false, "", "", 0⟩, ⟨"From", 22, 1, false, "", "", 8⟩, ⟨"To", 22, 2, false, "", "", 32⟩, ⟨"Identity", 22, 3, false, "", "", 56⟩, ⟨"Composites", 23, 4, false, "", "", 80⟩], 5, 104, [.int .i64 0, .slice .none 0 0, .slice .none 0 0, .slice .none 0 0, .slice .none 0 0]⟩)]
theorem hT : TabOk Try.prog T := ⟨tiok (by kernel_rfl) (by kernel_rfl), tiok (by kernel_rfl) (by kernel_rfl), tiok (by kernel_rfl) (by kernel_rfl), tiok (by kernel_rfl) (by kernel_rfl), tiok (by kernel_rfl) (by kernel_rfl), trivial⟩
theorem hm : Try.prog.follows .mixedOrders = true := by kernel_rfl

theorem ok193 : CallOk Try.prog 193 := callOk_of Try.func193 (by kernel_rfl) (by kernel_rfl)
theorem spec_l02Unit_c (a0 : XCategory) (a1 : Int) (r : Bool) (hM : M.spec_l02Unit a0 a1 = some r) :
    FnC Try.prog 193 [] [.agg (eXCategory.b a0), iv a1] [] (bv r) := by
  refine fnc_startG (N := 16) (np := 500) hT Try.func193 rfl rfl (by kernel_rfl) ?_
  unfold M.spec_l02Unit at hM
  refine tr_start (ks := [0, 2]) (st' := [(0, .d (.agg (eXCategory.b a0))), (2, .d (iv a1))]) (by kernel_rfl) ?_
  refine tr_sr hT hm [] [2, 4, 2005] [(2, .d (iv a1)), (4, .d (.rp 1002 0)), bxB 2005 (eXCategory.b a0)] .nil (by kernel_rfl) (by kernel_rfl) ?_
  obtain ⟨y1, hy1, hM⟩ := bind_some' hM
  have hy1' := idx_some hy1
  obtain ⟨y2, hy2, hM⟩ := bind_some' hM
  have hy2' := idx_some hy2
  refine tr_sr hT hm [(6, .val (iv y1)), (8, .val (iv y2))] [8] [(8, .d (bv (y2 == a1)))] (.cons hy1'.1 (.cons hy1'.2.1 (.cons (at_b0 eI_ok hy1'.2.2 (d := iv y1) (by kernel_rfl)) (.cons hy2'.1 (.cons hy2'.2.1 (.cons (at_b0 eI_ok hy2'.2.2 (d := iv y2) (by kernel_rfl)) .nil)))))) (by kernel_rfl) (by kernel_rfl) ?_
  refine tr_ret (rg_r ?_)
  obtain rfl := Option.some.inj hM
  exact retg (names := []) .nil (by kernel_rfl)

theorem ok112 : CallOk Try.prog 112 := callOk_of Try.func112 (by kernel_rfl) (by kernel_rfl)
theorem spec_l02Inverse_c (a0 : XCategory) (a1 : Int) (r : Int) (hM : M.spec_l02Inverse a0 a1 = some r) :
    FnC Try.prog 112 [] [.agg (eXCategory.b a0), iv a1] [] (iv r) := by
  refine fnc_startG (N := 49) (np := 500) hT Try.func112 rfl rfl (by kernel_rfl) ?_
  unfold M.spec_l02Inverse at hM
  refine tr_start (ks := [0, 2]) (st' := [(0, .d (.agg (eXCategory.b a0))), (2, .d (iv a1))]) (by kernel_rfl) ?_
  refine tr_sr hT hm [] [2, 4, 2005] [(2, .d (iv a1)), (4, .d (.rp 1002 0)), bxB 2005 (eXCategory.b a0)] .nil (by kernel_rfl) (by kernel_rfl) ?_
  obtain ⟨y1, hy1, hM⟩ := bind_some' hM
  have hy1' := idx_some hy1
  obtain ⟨y2, hy2, hM⟩ := bind_some' hM
  have hy2' := idx_some hy2
  obtain ⟨v3, hv3, hM⟩ := bind_some' hM
  refine tr_sr hT hm [(5, .val (iv y1)), (10, .val (iv y2)), (11, .call [] [] [.agg (eXCategory.b a0), iv y1, iv y2] [] (.fr 1 v3.length (v3.flatMap eI.o)))] [2, 4, 10, 2005, 40001] [(2, .d (iv a1)), (4, .d (.rp 1002 0)), (10, .d (.rs 20000 0 v3.length)), bxB 2005 (eXCategory.b a0), (40001, .r (.arr 1 (v3.flatMap eI.o) []))] (.cons hy1'.1 (.cons hy1'.2.1 (.cons (at_b0 eI_ok hy1'.2.2 (d := iv y1) (by kernel_rfl)) (.cons hy2'.1 (.cons hy2'.2.1 (.cons (at_b0 eI_ok hy2'.2.2 (d := iv y2) (by kernel_rfl)) (cc0 ok192 (spec_l02Hom_c a0 y1 y2 _ hv3) (by kernel_rfl) .nil))))))) (by kernel_rfl) (by kernel_rfl) ?_
  refine tr_seq ?_
  refine tr_sr hT hm [] [2, 4, 10, 12, 2005, 40001] [(2, .d (iv a1)), (4, .d (.rp 1002 0)), (10, .d (.rs 20000 0 v3.length)), (12, .d (iv 0)), bxB 2005 (eXCategory.b a0), (40001, .r (.arr 1 (v3.flatMap eI.o) []))] .nil (by kernel_rfl) (by kernel_rfl) ?_
  refine tr_block ?_
  refine tr_iterS (fun (s4 : Int) => [(2, .d (iv a1)), (4, .d (.rp 1002 0)), (10, .d (.rs 20000 0 v3.length)), (12, .d (iv s4)), bxB 2005 (eXCategory.b a0), (40001, .r (.arr 1 (v3.flatMap eI.o) []))]) 0 [2, 4, 10, 12, 2005, 40001] (by kernel_rfl) hM ?_
  intro n7 next5 ih6 s4 hM
  refine tr_seq ?_
  refine tr_sr hT hm [] [2, 4, 10, 12, 44, 2005, 40001] [(2, .d (iv a1)), (4, .d (.rp 1002 0)), (10, .d (.rs 20000 0 v3.length)), (12, .d (iv s4)), (44, .d (bv (decide (s4 < (v3.length : Int))))), bxB 2005 (eXCategory.b a0), (40001, .r (.arr 1 (v3.flatMap eI.o) []))] .nil (by kernel_rfl) (by kernel_rfl) ?_
  rcases Bool.eq_false_or_eq_true (decide (s4 < (v3.length : Int))) with h8 | h8
  · have hM := ite_true' hM h8
    refine tr_condTe (e := decide (s4 < (v3.length : Int))) h8 (by kernel_rfl) ?_
    refine tr_skip (q_n ?_)
    refine tr_seq ?_
    refine tr_block ?_
    obtain ⟨y9, hy9, hM⟩ := bind_some' hM
    have hy9' := idx_some hy9
    obtain ⟨v10, hv10, hM⟩ := bind_some' hM
    obtain ⟨v11, hv11, hM⟩ := bind_some' hM
    rcases Bool.eq_false_or_eq_true v11 with h12 | h12
    · have hM := ite_true' hM h12
      obtain ⟨v13, hv13, hM⟩ := bind_some' hM
      obtain ⟨v14, hv14, hM⟩ := bind_some' hM
      refine tr_sr hT hm [(6, .val (iv y9)), (7, .call [] [] [.agg (eXCategory.b a0), iv a1, iv y9] [] (iv v10)), (8, .call [] [] [.agg (eXCategory.b a0), iv v10] [] (bv v11)), (9, .val (bv true)), (15, .val (iv y9)), (17, .call [] [] [.agg (eXCategory.b a0), iv y9, iv a1] [] (iv v13)), (18, .call [] [] [.agg (eXCategory.b a0), iv v13] [] (bv v14))] [2, 4, 10, 12, 88, 2005, 40001] [(2, .d (iv a1)), (4, .d (.rp 1002 0)), (10, .d (.rs 20000 0 v3.length)), (12, .d (iv s4)), (88, .d (bv v14)), bxB 2005 (eXCategory.b a0), (40001, .r (.arr 1 (v3.flatMap eI.o) []))] (.cons hy9'.1 (.cons hy9'.2.1 (.cons (at_o0 eI_ok hy9'.2.2 (d := iv y9) (by kernel_rfl)) (cc0 ok113 (spec_l02Then_c a0 a1 y9 _ hv10) (by kernel_rfl) (cc0 ok193 (spec_l02Unit_c a0 v10 _ hv11) (by kernel_rfl) (.cons (congrArg (fun b => bv b) h12) (.cons hy9'.1 (.cons hy9'.2.1 (.cons (at_o0 eI_ok hy9'.2.2 (d := iv y9) (by kernel_rfl)) (cc0 ok113 (spec_l02Then_c a0 y9 a1 _ hv13) (by kernel_rfl) (cc0 ok193 (spec_l02Unit_c a0 v13 _ hv14) (by kernel_rfl) .nil))))))))))) (by kernel_rfl) (by kernel_rfl) ?_
      rcases Bool.eq_false_or_eq_true v14 with h15 | h15
      · have hM := ite_true' hM h15
        refine tr_condTe (e := v14) h15 (by kernel_rfl) ?_
        refine tr_sr hT hm [(3, .val (iv y9))] [8] [(8, .d (iv y9))] (.cons hy9'.1 (.cons hy9'.2.1 (.cons (at_o0 eI_ok hy9'.2.2 (d := iv y9) (by kernel_rfl)) .nil))) (by kernel_rfl) (by kernel_rfl) ?_
        refine tr_ret (b_r (q_r (l_r (b_r (q_r (rg_r ?_))))))
        obtain rfl := Option.some.inj hM
        exact retg (names := []) .nil (by kernel_rfl)
      · have hM := ite_false' hM h15
        refine tr_condFe (e := v14) h15 (by kernel_rfl) ?_
        refine tr_skip (b_n (q_n ?_))
        refine tr_r hT hm [] [2, 4, 10, 12, 2005, 40001] [(2, .d (iv a1)), (4, .d (.rp 1002 0)), (10, .d (.rs 20000 0 v3.length)), (12, .d (iv (IntKind.i64.wrap (s4 + 1)))), bxB 2005 (eXCategory.b a0), (40001, .r (.arr 1 (v3.flatMap eI.o) []))] .nil (by kernel_rfl) (by kernel_rfl) (l_n ?_)
        exact trl_start (ks := [2, 4, 10, 12, 2005, 40001]) (by kernel_rfl) (ih6 (IntKind.i64.wrap (s4 + 1)) hM)
    · have hM := ite_false' hM h12
      refine tr_sr hT hm [(6, .val (iv y9)), (7, .call [] [] [.agg (eXCategory.b a0), iv a1, iv y9] [] (iv v10)), (8, .call [] [] [.agg (eXCategory.b a0), iv v10] [] (bv v11)), (9, .val (bv false))] [2, 4, 10, 12, 88, 2005, 40001] [(2, .d (iv a1)), (4, .d (.rp 1002 0)), (10, .d (.rs 20000 0 v3.length)), (12, .d (iv s4)), (88, .d (bv false)), bxB 2005 (eXCategory.b a0), (40001, .r (.arr 1 (v3.flatMap eI.o) []))] (.cons hy9'.1 (.cons hy9'.2.1 (.cons (at_o0 eI_ok hy9'.2.2 (d := iv y9) (by kernel_rfl)) (cc0 ok113 (spec_l02Then_c a0 a1 y9 _ hv10) (by kernel_rfl) (cc0 ok193 (spec_l02Unit_c a0 v10 _ hv11) (by kernel_rfl) (.cons (congrArg (fun b => bv b) h12) .nil)))))) (by kernel_rfl) (by kernel_rfl) ?_
      refine tr_condF (by kernel_rfl) ?_
      refine tr_skip (b_n (q_n ?_))
      refine tr_r hT hm [] [2, 4, 10, 12, 2005, 40001] [(2, .d (iv a1)), (4, .d (.rp 1002 0)), (10, .d (.rs 20000 0 v3.length)), (12, .d (iv (IntKind.i64.wrap (s4 + 1)))), bxB 2005 (eXCategory.b a0), (40001, .r (.arr 1 (v3.flatMap eI.o) []))] .nil (by kernel_rfl) (by kernel_rfl) (l_n ?_)
      exact trl_start (ks := [2, 4, 10, 12, 2005, 40001]) (by kernel_rfl) (ih6 (IntKind.i64.wrap (s4 + 1)) hM)
  · have hM := ite_false' hM h8
    refine tr_condFe (e := decide (s4 < (v3.length : Int))) h8 (by kernel_rfl) ?_
    refine tr_exit (q_x (l_x (b_h (q_n ?_))))
    refine tr_sr hT hm [] [8] [(8, .d (iv (-1)))] .nil (by kernel_rfl) (by kernel_rfl) ?_
    refine tr_ret (rg_r ?_)
    obtain rfl := Option.some.inj hM
    exact retg (names := []) .nil (by kernel_rfl)

theorem ok198 : CallOk Try.prog 198 := callOk_of Try.func198 (by kernel_rfl) (by kernel_rfl)
theorem impl_Category_inverse_c (a0 : XCategory) (a1 : Int) (r : Int) (hM : M.impl_Category_inverse a0 a1 = some r) :
    FnC Try.prog 198 [] [.pt (eXCategory.b a0) 0, iv a1] [] (iv r) := by
  refine fnc_startG (N := 60) (np := 500) hT Try.func198 rfl rfl (by kernel_rfl) ?_
  unfold M.impl_Category_inverse at hM
  refine tr_start (ks := [0, 2]) (st' := [(0, .d (.pt (eXCategory.b a0) 0)), (2, .d (iv a1))]) (by kernel_rfl) ?_
  refine tr_sr hT hm [] [0, 2] [(0, .d (.pt (eXCategory.b a0) 0)), (2, .d (iv a1))] .nil (by kernel_rfl) (by kernel_rfl) ?_
  obtain ⟨y1, hy1, hM⟩ := bind_some' hM
  have hy1' := idx_some hy1
  obtain ⟨y2, hy2, hM⟩ := bind_some' hM
  have hy2' := idx_some hy2
  refine tr_sr hT hm [(6, .val (iv y1)), (13, .val (iv y2))] [0, 2, 10, 12] [(0, .d (.pt (eXCategory.b a0) 0)), (2, .d (iv a1)), (10, .d (iv y1)), (12, .d (iv y2))] (.cons hy1'.1 (.cons hy1'.2.1 (.cons (at_b0 eI_ok hy1'.2.2 (d := iv y1) (by kernel_rfl)) (.cons hy2'.1 (.cons hy2'.2.1 (.cons (at_b0 eI_ok hy2'.2.2 (d := iv y2) (by kernel_rfl)) .nil)))))) (by kernel_rfl) (by kernel_rfl) ?_
  refine tr_seq ?_
  obtain ⟨v3, hv3, hM⟩ := bind_some' hM
  refine tr_sr hT hm [(3, .call [] [] [.pt (eXCategory.b a0) 0, iv y2, iv y1] [] (.fr 1 v3.length (v3.flatMap eI.o)))] [0, 2, 10, 12, 52, 54, 56, 56001] [(0, .d (.pt (eXCategory.b a0) 0)), (2, .d (iv a1)), (10, .d (iv y1)), (12, .d (iv y2)), (52, .d (.rs 28000 0 v3.length)), (54, .d (iv (v3.length : Int))), (56, .d (iv 0)), (56001, .r (.arr 1 (v3.flatMap eI.o) []))] (cc0 ok202 (impl_Category_hom_c a0 y2 y1 _ hv3) (by kernel_rfl) .nil) (by kernel_rfl) (by kernel_rfl) ?_
  refine tr_block ?_
  refine tr_iterS (fun (s4 : Int) => [(0, .d (.pt (eXCategory.b a0) 0)), (2, .d (iv a1)), (10, .d (iv y1)), (12, .d (iv y2)), (52, .d (.rs 28000 0 v3.length)), (54, .d (iv (v3.length : Int))), (56, .d (iv s4)), (56001, .r (.arr 1 (v3.flatMap eI.o) []))]) 0 [0, 2, 10, 12, 52, 54, 56, 56001] (by kernel_rfl) hM ?_
  intro n7 next5 ih6 s4 hM
  refine tr_sr hT hm [] [0, 2, 10, 12, 52, 54, 56, 58, 56001] [(0, .d (.pt (eXCategory.b a0) 0)), (2, .d (iv a1)), (10, .d (iv y1)), (12, .d (iv y2)), (52, .d (.rs 28000 0 v3.length)), (54, .d (iv (v3.length : Int))), (56, .d (iv s4)), (58, .d (bv (decide (s4 < (v3.length : Int))))), (56001, .r (.arr 1 (v3.flatMap eI.o) []))] .nil (by kernel_rfl) (by kernel_rfl) ?_
  refine tr_seq ?_
  rcases Bool.eq_false_or_eq_true (decide (s4 < (v3.length : Int))) with h8 | h8
  · have hM := ite_true' hM h8
    refine tr_condTe (e := decide (s4 < (v3.length : Int))) h8 (by kernel_rfl) ?_
    refine tr_skip (q_n ?_)
    refine tr_seq ?_
    refine tr_block ?_
    obtain ⟨y9, hy9, hM⟩ := bind_some' hM
    have hy9' := idx_some hy9
    refine tr_sr hT hm [(1, .val (iv y9))] [0, 2, 10, 12, 16, 52, 54, 56, 56001] [(0, .d (.pt (eXCategory.b a0) 0)), (2, .d (iv a1)), (10, .d (iv y1)), (12, .d (iv y2)), (16, .d (iv y9)), (52, .d (.rs 28000 0 v3.length)), (54, .d (iv (v3.length : Int))), (56, .d (iv s4)), (56001, .r (.arr 1 (v3.flatMap eI.o) []))] (.cons hy9'.1 (.cons hy9'.2.1 (.cons (at_o0 eI_ok hy9'.2.2 (d := iv y9) (by kernel_rfl)) .nil))) (by kernel_rfl) (by kernel_rfl) ?_
    obtain ⟨v10, hv10, hM⟩ := bind_some' hM
    obtain ⟨y11, hy11, hM⟩ := bind_some' hM
    have hy11' := idx_some hy11
    rcases Bool.eq_false_or_eq_true (v10 == y11) with h12 | h12
    · have hM := ite_true' hM h12
      obtain ⟨v13, hv13, hM⟩ := bind_some' hM
      obtain ⟨y14, hy14, hM⟩ := bind_some' hM
      have hy14' := idx_some hy14
      refine tr_sr hT hm [(3, .call [] [] [.pt (eXCategory.b a0) 0, iv a1, iv y9] [] (iv v10)), (10, .val (iv y11)), (12, .val (bv true)), (16, .call [] [] [.pt (eXCategory.b a0) 0, iv y9, iv a1] [] (iv v13)), (23, .val (iv y14))] [0, 2, 10, 12, 16, 52, 54, 56, 114, 56001] [(0, .d (.pt (eXCategory.b a0) 0)), (2, .d (iv a1)), (10, .d (iv y1)), (12, .d (iv y2)), (16, .d (iv y9)), (52, .d (.rs 28000 0 v3.length)), (54, .d (iv (v3.length : Int))), (56, .d (iv s4)), (114, .d (bv (v13 == y14))), (56001, .r (.arr 1 (v3.flatMap eI.o) []))] (cc0 ok163 (impl_Category_then_c a0 a1 y9 _ hv10) (by kernel_rfl) (.cons hy11'.1 (.cons hy11'.2.1 (.cons (at_b0 eI_ok hy11'.2.2 (d := iv y11) (by kernel_rfl)) (.cons (congrArg (fun b => bv b) h12) (cc0 ok163 (impl_Category_then_c a0 y9 a1 _ hv13) (by kernel_rfl) (.cons hy14'.1 (.cons hy14'.2.1 (.cons (at_b0 eI_ok hy14'.2.2 (d := iv y14) (by kernel_rfl)) .nil))))))))) (by kernel_rfl) (by kernel_rfl) ?_
      rcases Bool.eq_false_or_eq_true (v13 == y14) with h15 | h15
      · have hM := ite_true' hM h15
        refine tr_condTe (e := v13 == y14) h15 (by kernel_rfl) ?_
        refine tr_sr hT hm [] [8] [(8, .d (iv y9))] .nil (by kernel_rfl) (by kernel_rfl) ?_
        refine tr_ret (b_r (q_r (l_r (b_r (q_r (rg_r ?_))))))
        obtain rfl := Option.some.inj hM
        exact retg (names := []) .nil (by kernel_rfl)
      · have hM := ite_false' hM h15
        refine tr_condFe (e := v13 == y14) h15 (by kernel_rfl) ?_
        refine tr_skip (b_n (q_n ?_))
        refine tr_r hT hm [] [0, 2, 10, 12, 52, 54, 56, 56001] [(0, .d (.pt (eXCategory.b a0) 0)), (2, .d (iv a1)), (10, .d (iv y1)), (12, .d (iv y2)), (52, .d (.rs 28000 0 v3.length)), (54, .d (iv (v3.length : Int))), (56, .d (iv (IntKind.i64.wrap (s4 + 1)))), (56001, .r (.arr 1 (v3.flatMap eI.o) []))] .nil (by kernel_rfl) (by kernel_rfl) (l_n ?_)
        exact trl_start (ks := [0, 2, 10, 12, 52, 54, 56, 56001]) (by kernel_rfl) (ih6 (IntKind.i64.wrap (s4 + 1)) hM)
    · have hM := ite_false' hM h12
      refine tr_sr hT hm [(3, .call [] [] [.pt (eXCategory.b a0) 0, iv a1, iv y9] [] (iv v10)), (10, .val (iv y11)), (12, .val (bv false))] [0, 2, 10, 12, 16, 52, 54, 56, 114, 56001] [(0, .d (.pt (eXCategory.b a0) 0)), (2, .d (iv a1)), (10, .d (iv y1)), (12, .d (iv y2)), (16, .d (iv y9)), (52, .d (.rs 28000 0 v3.length)), (54, .d (iv (v3.length : Int))), (56, .d (iv s4)), (114, .d (bv false)), (56001, .r (.arr 1 (v3.flatMap eI.o) []))] (cc0 ok163 (impl_Category_then_c a0 a1 y9 _ hv10) (by kernel_rfl) (.cons hy11'.1 (.cons hy11'.2.1 (.cons (at_b0 eI_ok hy11'.2.2 (d := iv y11) (by kernel_rfl)) (.cons (congrArg (fun b => bv b) h12) .nil))))) (by kernel_rfl) (by kernel_rfl) ?_
      refine tr_condF (by kernel_rfl) ?_
      refine tr_skip (b_n (q_n ?_))
      refine tr_r hT hm [] [0, 2, 10, 12, 52, 54, 56, 56001] [(0, .d (.pt (eXCategory.b a0) 0)), (2, .d (iv a1)), (10, .d (iv y1)), (12, .d (iv y2)), (52, .d (.rs 28000 0 v3.length)), (54, .d (iv (v3.length : Int))), (56, .d (iv (IntKind.i64.wrap (s4 + 1)))), (56001, .r (.arr 1 (v3.flatMap eI.o) []))] .nil (by kernel_rfl) (by kernel_rfl) (l_n ?_)
      exact trl_start (ks := [0, 2, 10, 12, 52, 54, 56, 56001]) (by kernel_rfl) (ih6 (IntKind.i64.wrap (s4 + 1)) hM)
  · have hM := ite_false' hM h8
    refine tr_condFe (e := decide (s4 < (v3.length : Int))) h8 (by kernel_rfl) ?_
    refine tr_exit (q_x (l_x (b_h (q_n ?_))))
    refine tr_sr hT hm [] [8] [(8, .d (iv (-1)))] .nil (by kernel_rfl) (by kernel_rfl) ?_
    refine tr_ret (rg_r ?_)
    obtain rfl := Option.some.inj hM
    exact retg (names := []) .nil (by kernel_rfl)

theorem ok191 : CallOk Try.prog 191 := callOk_of Try.func191 (by kernel_rfl) (by kernel_rfl)
theorem spec_l11Least_c (a0 : XCategory) (a1 : Int) (a2 : Int) (r : Int) (hM : M.spec_l11Least a0 a1 a2 = some r) :
    FnC Try.prog 191 [] [.agg (eXCategory.b a0), iv a1, iv a2] [] (iv r) := by
  refine fnc_startG (N := 30) (np := 500) hT Try.func191 rfl rfl (by kernel_rfl) ?_
  unfold M.spec_l11Least at hM
  refine tr_start (ks := [0, 2, 4]) (st' := [(0, .d (.agg (eXCategory.b a0))), (2, .d (iv a1)), (4, .d (iv a2))]) (by kernel_rfl) ?_
  refine tr_sr hT hm [] [2, 4, 6, 2007] [(2, .d (iv a1)), (4, .d (iv a2)), (6, .d (.rp 1003 0)), bxB 2007 (eXCategory.b a0)] .nil (by kernel_rfl) (by kernel_rfl) ?_
  obtain ⟨v1, hv1, hM⟩ := bind_some' hM
  refine tr_sr hT hm [(3, .call [] [] [.agg (eXCategory.b a0), iv a1, iv a2] [] (.fr 1 v1.length (v1.flatMap eI.o)))] [6, 14, 2007, 28001] [(6, .d (.rp 1003 0)), (14, .d (.rs 14000 0 v1.length)), bxB 2007 (eXCategory.b a0), (28001, .r (.arr 1 (v1.flatMap eI.o) []))] (cc0 ok192 (spec_l02Hom_c a0 a1 a2 _ hv1) (by kernel_rfl) .nil) (by kernel_rfl) (by kernel_rfl) ?_
  refine tr_seq ?_
  refine tr_sr hT hm [] [6, 14, 16, 2007, 28001] [(6, .d (.rp 1003 0)), (14, .d (.rs 14000 0 v1.length)), (16, .d (iv 0)), bxB 2007 (eXCategory.b a0), (28001, .r (.arr 1 (v1.flatMap eI.o) []))] .nil (by kernel_rfl) (by kernel_rfl) ?_
  refine tr_block ?_
  refine tr_iterS (fun (s2 : Int) => [(6, .d (.rp 1003 0)), (14, .d (.rs 14000 0 v1.length)), (16, .d (iv s2)), bxB 2007 (eXCategory.b a0), (28001, .r (.arr 1 (v1.flatMap eI.o) []))]) 0 [6, 14, 16, 2007, 28001] (by kernel_rfl) hM ?_
  intro n5 next3 ih4 s2 hM
  refine tr_seq ?_
  refine tr_sr hT hm [] [6, 14, 16, 32, 2007, 28001] [(6, .d (.rp 1003 0)), (14, .d (.rs 14000 0 v1.length)), (16, .d (iv s2)), (32, .d (bv (decide (s2 < (v1.length : Int))))), bxB 2007 (eXCategory.b a0), (28001, .r (.arr 1 (v1.flatMap eI.o) []))] .nil (by kernel_rfl) (by kernel_rfl) ?_
  rcases Bool.eq_false_or_eq_true (decide (s2 < (v1.length : Int))) with h6 | h6
  · have hM := ite_true' hM h6
    refine tr_condTe (e := decide (s2 < (v1.length : Int))) h6 (by kernel_rfl) ?_
    refine tr_skip (q_n ?_)
    refine tr_seq ?_
    refine tr_block ?_
    obtain ⟨y7, hy7, hM⟩ := bind_some' hM
    have hy7' := idx_some hy7
    obtain ⟨v8, hv8, hM⟩ := bind_some' hM
    refine tr_sr hT hm [(4, .val (iv y7)), (5, .call [] [] [.agg (eXCategory.b a0), iv y7] [] (iv v8))] [6, 14, 16, 50, 2007, 28001] [(6, .d (.rp 1003 0)), (14, .d (.rs 14000 0 v1.length)), (16, .d (iv s2)), (50, .d (bv (decide (v8 ≥ 0)))), bxB 2007 (eXCategory.b a0), (28001, .r (.arr 1 (v1.flatMap eI.o) []))] (.cons hy7'.1 (.cons hy7'.2.1 (.cons (at_o0 eI_ok hy7'.2.2 (d := iv y7) (by kernel_rfl)) (cc0 ok112 (spec_l02Inverse_c a0 y7 _ hv8) (by kernel_rfl) .nil)))) (by kernel_rfl) (by kernel_rfl) ?_
    rcases Bool.eq_false_or_eq_true (decide (v8 ≥ 0)) with h9 | h9
    · have hM := ite_true' hM h9
      refine tr_condTe (e := decide (v8 ≥ 0)) h9 (by kernel_rfl) ?_
      refine tr_sr hT hm [(3, .val (iv y7))] [12] [(12, .d (iv y7))] (.cons hy7'.1 (.cons hy7'.2.1 (.cons (at_o0 eI_ok hy7'.2.2 (d := iv y7) (by kernel_rfl)) .nil))) (by kernel_rfl) (by kernel_rfl) ?_
      refine tr_ret (b_r (q_r (l_r (b_r (q_r (rg_r ?_))))))
      obtain rfl := Option.some.inj hM
      exact retg (names := []) .nil (by kernel_rfl)
    · have hM := ite_false' hM h9
      refine tr_condFe (e := decide (v8 ≥ 0)) h9 (by kernel_rfl) ?_
      refine tr_skip (b_n (q_n ?_))
      refine tr_r hT hm [] [6, 14, 16, 2007, 28001] [(6, .d (.rp 1003 0)), (14, .d (.rs 14000 0 v1.length)), (16, .d (iv (IntKind.i64.wrap (s2 + 1)))), bxB 2007 (eXCategory.b a0), (28001, .r (.arr 1 (v1.flatMap eI.o) []))] .nil (by kernel_rfl) (by kernel_rfl) (l_n ?_)
      exact trl_start (ks := [6, 14, 16, 2007, 28001]) (by kernel_rfl) (ih4 (IntKind.i64.wrap (s2 + 1)) hM)
  · have hM := ite_false' hM h6
    refine tr_condFe (e := decide (s2 < (v1.length : Int))) h6 (by kernel_rfl) ?_
    refine tr_exit (q_x (l_x (b_h (q_n ?_))))
    refine tr_sr hT hm [] [12] [(12, .d (iv (-1)))] .nil (by kernel_rfl) (by kernel_rfl) ?_
    refine tr_ret (rg_r ?_)
    obtain rfl := Option.some.inj hM
    exact retg (names := []) .nil (by kernel_rfl)

theorem ok249 : CallOk Try.prog 249 := callOk_of Try.func249 (by kernel_rfl) (by kernel_rfl)
theorem impl_Category_isomorphic_c (a0 : XCategory) (a1 : Int) (a2 : Int) (r : Int) (hM : M.impl_Category_isomorphic a0 a1 a2 = some r) :
    FnC Try.prog 249 [] [.pt (eXCategory.b a0) 0, iv a1, iv a2] [] (iv r) := by
  refine fnc_startG (N := 24) (np := 500) hT Try.func249 rfl rfl (by kernel_rfl) ?_
  unfold M.impl_Category_isomorphic at hM
  refine tr_start (ks := [0, 2, 4]) (st' := [(0, .d (.pt (eXCategory.b a0) 0)), (2, .d (iv a1)), (4, .d (iv a2))]) (by kernel_rfl) ?_
  refine tr_sr hT hm [] [0, 2, 4] [(0, .d (.pt (eXCategory.b a0) 0)), (2, .d (iv a1)), (4, .d (iv a2))] .nil (by kernel_rfl) (by kernel_rfl) ?_
  refine tr_seq ?_
  obtain ⟨v1, hv1, hM⟩ := bind_some' hM
  refine tr_sr hT hm [(3, .call [] [] [.pt (eXCategory.b a0) 0, iv a1, iv a2] [] (.fr 1 v1.length (v1.flatMap eI.o)))] [0, 24, 26, 28, 28001] [(0, .d (.pt (eXCategory.b a0) 0)), (24, .d (.rs 14000 0 v1.length)), (26, .d (iv (v1.length : Int))), (28, .d (iv 0)), (28001, .r (.arr 1 (v1.flatMap eI.o) []))] (cc0 ok202 (impl_Category_hom_c a0 a1 a2 _ hv1) (by kernel_rfl) .nil) (by kernel_rfl) (by kernel_rfl) ?_
  refine tr_block ?_
  refine tr_iterS (fun (s2 : Int) => [(0, .d (.pt (eXCategory.b a0) 0)), (24, .d (.rs 14000 0 v1.length)), (26, .d (iv (v1.length : Int))), (28, .d (iv s2)), (28001, .r (.arr 1 (v1.flatMap eI.o) []))]) 0 [0, 24, 26, 28, 28001] (by kernel_rfl) hM ?_
  intro n5 next3 ih4 s2 hM
  refine tr_sr hT hm [] [0, 24, 26, 28, 30, 28001] [(0, .d (.pt (eXCategory.b a0) 0)), (24, .d (.rs 14000 0 v1.length)), (26, .d (iv (v1.length : Int))), (28, .d (iv s2)), (30, .d (bv (decide (s2 < (v1.length : Int))))), (28001, .r (.arr 1 (v1.flatMap eI.o) []))] .nil (by kernel_rfl) (by kernel_rfl) ?_
  refine tr_seq ?_
  rcases Bool.eq_false_or_eq_true (decide (s2 < (v1.length : Int))) with h6 | h6
  · have hM := ite_true' hM h6
    refine tr_condTe (e := decide (s2 < (v1.length : Int))) h6 (by kernel_rfl) ?_
    refine tr_skip (q_n ?_)
    refine tr_seq ?_
    refine tr_block ?_
    obtain ⟨y7, hy7, hM⟩ := bind_some' hM
    have hy7' := idx_some hy7
    refine tr_sr hT hm [(1, .val (iv y7))] [0, 16, 24, 26, 28, 28001] [(0, .d (.pt (eXCategory.b a0) 0)), (16, .d (iv y7)), (24, .d (.rs 14000 0 v1.length)), (26, .d (iv (v1.length : Int))), (28, .d (iv s2)), (28001, .r (.arr 1 (v1.flatMap eI.o) []))] (.cons hy7'.1 (.cons hy7'.2.1 (.cons (at_o0 eI_ok hy7'.2.2 (d := iv y7) (by kernel_rfl)) .nil))) (by kernel_rfl) (by kernel_rfl) ?_
    obtain ⟨v8, hv8, hM⟩ := bind_some' hM
    refine tr_sr hT hm [(2, .call [] [] [.pt (eXCategory.b a0) 0, iv y7] [] (iv v8))] [0, 16, 24, 26, 28, 42, 28001] [(0, .d (.pt (eXCategory.b a0) 0)), (16, .d (iv y7)), (24, .d (.rs 14000 0 v1.length)), (26, .d (iv (v1.length : Int))), (28, .d (iv s2)), (42, .d (bv (decide (v8 ≥ 0)))), (28001, .r (.arr 1 (v1.flatMap eI.o) []))] (cc0 ok198 (impl_Category_inverse_c a0 y7 _ hv8) (by kernel_rfl) .nil) (by kernel_rfl) (by kernel_rfl) ?_
    rcases Bool.eq_false_or_eq_true (decide (v8 ≥ 0)) with h9 | h9
    · have hM := ite_true' hM h9
      refine tr_condTe (e := decide (v8 ≥ 0)) h9 (by kernel_rfl) ?_
      refine tr_sr hT hm [] [12] [(12, .d (iv y7))] .nil (by kernel_rfl) (by kernel_rfl) ?_
      refine tr_ret (b_r (q_r (l_r (b_r (q_r (rg_r ?_))))))
      obtain rfl := Option.some.inj hM
      exact retg (names := []) .nil (by kernel_rfl)
    · have hM := ite_false' hM h9
      refine tr_condFe (e := decide (v8 ≥ 0)) h9 (by kernel_rfl) ?_
      refine tr_skip (b_n (q_n ?_))
      refine tr_r hT hm [] [0, 24, 26, 28, 28001] [(0, .d (.pt (eXCategory.b a0) 0)), (24, .d (.rs 14000 0 v1.length)), (26, .d (iv (v1.length : Int))), (28, .d (iv (IntKind.i64.wrap (s2 + 1)))), (28001, .r (.arr 1 (v1.flatMap eI.o) []))] .nil (by kernel_rfl) (by kernel_rfl) (l_n ?_)
      exact trl_start (ks := [0, 24, 26, 28, 28001]) (by kernel_rfl) (ih4 (IntKind.i64.wrap (s2 + 1)) hM)
  · have hM := ite_false' hM h6
    refine tr_condFe (e := decide (s2 < (v1.length : Int))) h6 (by kernel_rfl) ?_
    refine tr_exit (q_x (l_x (b_h (q_n ?_))))
    refine tr_sr hT hm [] [12] [(12, .d (iv (-1)))] .nil (by kernel_rfl) (by kernel_rfl) ?_
    refine tr_ret (rg_r ?_)
    obtain rfl := Option.some.inj hM
    exact retg (names := []) .nil (by kernel_rfl)

end Go.Proofs.Ytiikkfdehbcfaaa.WzV
