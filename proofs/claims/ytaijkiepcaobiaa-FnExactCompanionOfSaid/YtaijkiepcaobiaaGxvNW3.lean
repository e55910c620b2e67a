/- Walks. Printed by wip/gen. -/
import Derived.Test.YtaijkiepcaobiaaGxvNW2
namespace Go.Proofs.Ytaijkiepcaobiaa.WvN
open Go.Gx Go.Proofs.Ytaijkiepcaobiaa.WvB Go.Proofs.Ytaijkiepcaobiaa.WvI Go.Proofs.Ytaijkiepcaobiaa.WvS Go.Proofs.Ytaijkiepcaobiaa.WvF

theorem ok135 : CallOk Try.prog 135 := callOk_of Try.func135 (by kernel_rfl) (by kernel_rfl)
theorem impl_natural_1_c (a0 : Int) (a1 : Int) (a2 : XCategory) (a3 : XFunctor) (a4 : XFunctor) (r : (List Int)) (hM : M.impl_natural_1 a0 a1 a2 a3 a4 = some r) :
    FnC Try.prog 135 [] [iv a0, iv a1, .pt ((eP eXCategory).b a2) 0, .pt ((eP eXFunctor).b a3) 0, .pt ((eP eXFunctor).b a4) 0] [] (.fr 1 r.length (r.flatMap eI.o)) := by
  refine fnc_startG (N := 24) (np := 500) hT Try.func135 rfl rfl (by kernel_rfl) ?_
  unfold M.impl_natural_1 at hM
  refine tr_start (ks := [0, 2, 4, 6, 8]) (st' := [(0, .d (iv a0)), (2, .d (iv a1)), (4, .d (.pt ((eP eXCategory).b a2) 0)), (6, .d (.pt ((eP eXFunctor).b a3) 0)), (8, .d (.pt ((eP eXFunctor).b a4) 0))]) (by kernel_rfl) ?_
  refine tr_sr hT hm [] [0, 2, 4, 6, 8] [(0, .d (iv a0)), (2, .d (iv a1)), (4, .d (.pt ((eP eXCategory).b a2) 0)), (6, .d (.pt ((eP eXFunctor).b a3) 0)), (8, .d (.pt ((eP eXFunctor).b a4) 0))] .nil (by kernel_rfl) (by kernel_rfl) ?_
  obtain ⟨y1, hy1, hM⟩ := bind_some' hM
  have hy1' := idx_some hy1
  obtain ⟨y2, hy2, hM⟩ := bind_some' hM
  have hy2' := idx_some hy2
  obtain ⟨v3, hv3, hM⟩ := bind_some' hM
  refine tr_sr hT hm [(7, .val (iv y1)), (14, .val (iv y2)), (15, .call [] [] [.pt (eXCategory.b a2) 0, iv y1, iv y2] [] (.fr 1 v3.length (v3.flatMap eI.o)))] [14, 50001] [(14, .d (.rs 25000 0 v3.length)), (50001, .r (.arr 1 (v3.flatMap eI.o) []))] (.cons hy1'.1 (.cons hy1'.2.1 (.cons (at_b0 eI_ok hy1'.2.2 (d := iv y1) (by kernel_rfl)) (.cons hy2'.1 (.cons hy2'.2.1 (.cons (at_b0 eI_ok hy2'.2.2 (d := iv y2) (by kernel_rfl)) (cc0 ok136 (impl_Category_hom_c a2 y1 y2 _ hv3) (by kernel_rfl) .nil))))))) (by kernel_rfl) (by kernel_rfl) ?_
  refine tr_ret (rg_r ?_)
  obtain rfl := Option.some.inj hM
  exact retg (names := []) (.cons (lenO_flat eI_ok v3) .nil) (by kernel_rfl)

theorem ok162 : CallOk Try.prog 162 := callOk_of Try.func162 (by kernel_rfl) (by kernel_rfl)
theorem slices_Index_int64_int64_c (a0 : List Int) (a1 : Int) (r : Int) (hM : M.slices_Index_int64_int64 a0 a1 = some r) :
    FnC Try.prog 162 [] [.sl a0.length 0 (a0.flatMap eI.b), iv a1] [] (iv r) := by
  refine fnc_startG (N := 19) (np := 500) hT Try.func162 rfl rfl (by kernel_rfl) ?_
  unfold M.slices_Index_int64_int64 at hM
  refine tr_start (ks := [0, 2]) (st' := [(0, .d (.sl a0.length 0 (a0.flatMap eI.b))), (2, .d (iv a1))]) (by kernel_rfl) ?_
  refine tr_sr hT hm [] [0, 2] [(0, .d (.sl a0.length 0 (a0.flatMap eI.b))), (2, .d (iv a1))] .nil (by kernel_rfl) (by kernel_rfl) ?_
  refine tr_seq ?_
  refine tr_sr hT hm [] [0, 2, 14, 16] [(0, .d (.sl a0.length 0 (a0.flatMap eI.b))), (2, .d (iv a1)), (14, .d (iv (a0.length : Int))), (16, .d (iv 0))] .nil (by kernel_rfl) (by kernel_rfl) ?_
  refine tr_block ?_
  refine tr_iterS (fun (s1 : Int) => [(0, .d (.sl a0.length 0 (a0.flatMap eI.b))), (2, .d (iv a1)), (14, .d (iv (a0.length : Int))), (16, .d (iv s1))]) 0 [0, 2, 14, 16] (by kernel_rfl) hM ?_
  intro n4 next2 ih3 s1 hM
  refine tr_sr hT hm [] [0, 2, 14, 16, 18] [(0, .d (.sl a0.length 0 (a0.flatMap eI.b))), (2, .d (iv a1)), (14, .d (iv (a0.length : Int))), (16, .d (iv s1)), (18, .d (bv (decide (s1 < (a0.length : Int)))))] .nil (by kernel_rfl) (by kernel_rfl) ?_
  refine tr_seq ?_
  rcases Bool.eq_false_or_eq_true (decide (s1 < (a0.length : Int))) with h5 | h5
  · have hM := ite_true' hM h5
    refine tr_condTe (e := decide (s1 < (a0.length : Int))) h5 (by kernel_rfl) ?_
    refine tr_skip (q_n ?_)
    refine tr_seq ?_
    refine tr_block ?_
    refine tr_sr hT hm [] [0, 2, 10, 14, 16] [(0, .d (.sl a0.length 0 (a0.flatMap eI.b))), (2, .d (iv a1)), (10, .d (iv s1)), (14, .d (iv (a0.length : Int))), (16, .d (iv s1))] .nil (by kernel_rfl) (by kernel_rfl) ?_
    obtain ⟨y6, hy6, hM⟩ := bind_some' hM
    have hy6' := idx_some hy6
    refine tr_sr hT hm [(4, .val (iv y6))] [0, 2, 10, 14, 16, 32] [(0, .d (.sl a0.length 0 (a0.flatMap eI.b))), (2, .d (iv a1)), (10, .d (iv s1)), (14, .d (iv (a0.length : Int))), (16, .d (iv s1)), (32, .d (bv (a1 == y6)))] (.cons hy6'.1 (.cons hy6'.2.1 (.cons (at_b0 eI_ok hy6'.2.2 (d := iv y6) (by kernel_rfl)) .nil))) (by kernel_rfl) (by kernel_rfl) ?_
    rcases Bool.eq_false_or_eq_true (a1 == y6) with h7 | h7
    · have hM := ite_true' hM h7
      refine tr_condTe (e := a1 == y6) h7 (by kernel_rfl) ?_
      refine tr_sr hT hm [] [8] [(8, .d (iv s1))] .nil (by kernel_rfl) (by kernel_rfl) ?_
      refine tr_ret (b_r (q_r (l_r (b_r (q_r (rg_r ?_))))))
      obtain rfl := Option.some.inj hM
      exact retg (names := []) .nil (by kernel_rfl)
    · have hM := ite_false' hM h7
      refine tr_condFe (e := a1 == y6) h7 (by kernel_rfl) ?_
      refine tr_skip (b_n (q_n ?_))
      refine tr_r hT hm [] [0, 2, 14, 16] [(0, .d (.sl a0.length 0 (a0.flatMap eI.b))), (2, .d (iv a1)), (14, .d (iv (a0.length : Int))), (16, .d (iv (IntKind.i64.wrap (s1 + 1))))] .nil (by kernel_rfl) (by kernel_rfl) (l_n ?_)
      exact trl_start (ks := [0, 2, 14, 16]) (by kernel_rfl) (ih3 (IntKind.i64.wrap (s1 + 1)) hM)
  · have hM := ite_false' hM h5
    refine tr_condFe (e := decide (s1 < (a0.length : Int))) h5 (by kernel_rfl) ?_
    refine tr_exit (q_x (l_x (b_h (q_n ?_))))
    refine tr_sr hT hm [] [8] [(8, .d (iv (-1)))] .nil (by kernel_rfl) (by kernel_rfl) ?_
    refine tr_ret (rg_r ?_)
    obtain rfl := Option.some.inj hM
    exact retg (names := []) .nil (by kernel_rfl)

theorem ok140 : CallOk Try.prog 140 := callOk_of Try.func140 (by kernel_rfl) (by kernel_rfl)
theorem impl_index_int64_c (a0 : List Int) (a1 : Int) (r : Int) (hM : M.impl_index_int64 a0 a1 = some r) :
    FnC Try.prog 140 [] [.sl a0.length 0 (a0.flatMap eI.b), iv a1] [] (iv r) := by
  refine fnc_startG (N := 8) (np := 500) hT Try.func140 rfl rfl (by kernel_rfl) ?_
  unfold M.impl_index_int64 at hM
  refine tr_start (ks := [0, 2]) (st' := [(0, .d (.sl a0.length 0 (a0.flatMap eI.b))), (2, .d (iv a1))]) (by kernel_rfl) ?_
  refine tr_sr hT hm [] [0, 2] [(0, .d (.sl a0.length 0 (a0.flatMap eI.b))), (2, .d (iv a1))] .nil (by kernel_rfl) (by kernel_rfl) ?_
  obtain ⟨v1, hv1, hM⟩ := bind_some' hM
  refine tr_sr hT hm [(2, .call [] [] [.sl a0.length 0 (a0.flatMap eI.b), iv a1] [] (iv v1))] [8] [(8, .d (iv v1))] (cc0 ok162 (slices_Index_int64_int64_c a0 a1 _ hv1) (by kernel_rfl) .nil) (by kernel_rfl) (by kernel_rfl) ?_
  refine tr_ret (rg_r ?_)
  obtain rfl := Option.some.inj hM
  exact retg (names := []) .nil (by kernel_rfl)

theorem ok139 : CallOk Try.prog 139 := callOk_of Try.func139 (by kernel_rfl) (by kernel_rfl)
theorem impl_natural_3_c (a0 : Int) (a1 : Int) (f2 : Nat) (c2 : List D) (a2 : Int → Int → Option (List Int)) (ok2_ : CallOk Try.prog f2) (hm2 : menL c2 = []) (hf2 : ∀ x0 x1 r, a2 x0 x1 = some r → FnC Try.prog f2 [] ([iv x0, iv x1] ++ c2) [] (.fr 1 r.length (r.flatMap eI.o))) (a3 : XFunctor) (a4 : XCategory) (r : (List Int)) (hM : M.impl_natural_3 a0 a1 a2 a3 a4 = some r) :
    FnC Try.prog 139 [] [iv a0, iv a1, .pt [.fb f2 c2] 0, .pt ((eP eXFunctor).b a3) 0, .pt ((eP eXCategory).b a4) 0] [] (.fr 1 r.length (r.flatMap eI.o)) := by
  refine fnc_startG (N := 57) (np := 500) hT Try.func139 rfl rfl (by kernel_rfl) ?_
  unfold M.impl_natural_3 at hM
  refine tr_start (ks := [0, 2, 4, 6, 8]) (st' := [(0, .d (iv a0)), (2, .d (iv a1)), (4, .d (.pt [.fb f2 c2] 0)), (6, .d (.pt ((eP eXFunctor).b a3) 0)), (8, .d (.pt ((eP eXCategory).b a4) 0))]) (by kernel_rfl) ?_
  refine tr_sr hT hm [] [0, 2, 4, 6, 8] [(0, .d (iv a0)), (2, .d (iv a1)), (4, .d (.pt [.fb f2 c2] 0)), (6, .d (.pt ((eP eXFunctor).b a3) 0)), (8, .d (.pt ((eP eXCategory).b a4) 0))] .nil (by kernel_rfl) (by kernel_rfl) ?_
  refine tr_sr hT hm [] [0, 2, 4, 6, 8, 16, 2025] [(0, .d (iv a0)), (2, .d (iv a1)), (4, .d (.pt [.fb f2 c2] 0)), (6, .d (.pt ((eP eXFunctor).b a3) 0)), (8, .d (.pt ((eP eXCategory).b a4) 0)), (16, .d (.rs 1012 0 (([] : List Int).length))), (2025, .r (.arr 1 (([] : List Int).flatMap eI.o) []))] .nil (by kernel_rfl) (by kernel_rfl) ?_
  obtain ⟨y1, hy1, hM⟩ := bind_some' hM
  have hy1' := idx_some hy1
  obtain ⟨v2, hv2, hM⟩ := bind_some' hM
  refine tr_sr hT hm [(8, .val (iv y1)), (10, .call [] [] ([iv y1, iv a1] ++ c2) [] (.fr 1 v2.length (v2.flatMap eI.o)))] [0, 2, 4, 6, 8, 16, 18, 2025, 50001] [(0, .d (iv a0)), (2, .d (iv a1)), (4, .d (.pt [.fb f2 c2] 0)), (6, .d (.pt ((eP eXFunctor).b a3) 0)), (8, .d (.pt ((eP eXCategory).b a4) 0)), (16, .d (.rs 1012 0 (([] : List Int).length))), (18, .d (.rs 25000 0 v2.length)), (2025, .r (.arr 1 (([] : List Int).flatMap eI.o) [])), (50001, .r (.arr 1 (v2.flatMap eI.o) []))] (.cons hy1'.1 (.cons hy1'.2.1 (.cons (at_b0 eI_ok hy1'.2.2 (d := iv y1) (by kernel_rfl)) (cc0 ok2_ (hf2 y1 a1 _ hv2) (menL_app rfl hm2) .nil)))) (by kernel_rfl) (by kernel_rfl) ?_
  refine tr_seq ?_
  obtain ⟨y3, hy3, hM⟩ := bind_some' hM
  have hy3' := idx_some hy3
  obtain ⟨v4, hv4, hM⟩ := bind_some' hM
  refine tr_sr hT hm [(8, .val (iv y3)), (10, .call [] [] ([iv y3, iv a1] ++ c2) [] (.fr 1 v4.length (v4.flatMap eI.o)))] [0, 6, 8, 16, 18, 68, 70, 72, 2025, 50001, 72001] [(0, .d (iv a0)), (6, .d (.pt ((eP eXFunctor).b a3) 0)), (8, .d (.pt ((eP eXCategory).b a4) 0)), (16, .d (.rs 1012 0 (([] : List Int).length))), (18, .d (.rs 25000 0 v2.length)), (68, .d (.rs 36000 0 v4.length)), (70, .d (iv (v4.length : Int))), (72, .d (iv 0)), (2025, .r (.arr 1 (([] : List Int).flatMap eI.o) [])), (50001, .r (.arr 1 (v2.flatMap eI.o) [])), (72001, .r (.arr 1 (v4.flatMap eI.o) []))] (.cons hy3'.1 (.cons hy3'.2.1 (.cons (at_b0 eI_ok hy3'.2.2 (d := iv y3) (by kernel_rfl)) (cc0 ok2_ (hf2 y3 a1 _ hv4) (menL_app rfl hm2) .nil)))) (by kernel_rfl) (by kernel_rfl) ?_
  refine tr_block ?_
  refine tr_iterS (fun (s5 : (List Int) × Int) => [(0, .d (iv a0)), (6, .d (.pt ((eP eXFunctor).b a3) 0)), (8, .d (.pt ((eP eXCategory).b a4) 0)), (16, .d (.rs 1012 0 s5.1.length)), (18, .d (.rs 25000 0 v2.length)), (68, .d (.rs 36000 0 v4.length)), (70, .d (iv (v4.length : Int))), (72, .d (iv s5.2)), (2025, .r (.arr 1 (s5.1.flatMap eI.o) [])), (50001, .r (.arr 1 (v2.flatMap eI.o) [])), (72001, .r (.arr 1 (v4.flatMap eI.o) []))]) (([] : List Int), 0) [0, 6, 8, 16, 18, 68, 70, 72, 2025, 50001, 72001] (by kernel_rfl) hM ?_
  intro n8 next6 ih7 s5 hM
  refine tr_sr hT hm [] [0, 6, 8, 16, 18, 68, 70, 72, 74, 2025, 50001, 72001] [(0, .d (iv a0)), (6, .d (.pt ((eP eXFunctor).b a3) 0)), (8, .d (.pt ((eP eXCategory).b a4) 0)), (16, .d (.rs 1012 0 s5.1.length)), (18, .d (.rs 25000 0 v2.length)), (68, .d (.rs 36000 0 v4.length)), (70, .d (iv (v4.length : Int))), (72, .d (iv s5.2)), (74, .d (bv (decide (s5.2 < (v4.length : Int))))), (2025, .r (.arr 1 (s5.1.flatMap eI.o) [])), (50001, .r (.arr 1 (v2.flatMap eI.o) [])), (72001, .r (.arr 1 (v4.flatMap eI.o) []))] .nil (by kernel_rfl) (by kernel_rfl) ?_
  refine tr_seq ?_
  rcases Bool.eq_false_or_eq_true (decide (s5.2 < (v4.length : Int))) with h9 | h9
  · have hM := ite_true' hM h9
    refine tr_condTe (e := decide (s5.2 < (v4.length : Int))) h9 (by kernel_rfl) ?_
    refine tr_skip (q_n ?_)
    refine tr_seq ?_
    refine tr_block ?_
    obtain ⟨y10, hy10, hM⟩ := bind_some' hM
    have hy10' := idx_some hy10
    refine tr_sr hT hm [(1, .val (iv y10))] [0, 6, 8, 16, 18, 22, 68, 70, 72, 2025, 50001, 72001] [(0, .d (iv a0)), (6, .d (.pt ((eP eXFunctor).b a3) 0)), (8, .d (.pt ((eP eXCategory).b a4) 0)), (16, .d (.rs 1012 0 s5.1.length)), (18, .d (.rs 25000 0 v2.length)), (22, .d (iv y10)), (68, .d (.rs 36000 0 v4.length)), (70, .d (iv (v4.length : Int))), (72, .d (iv s5.2)), (2025, .r (.arr 1 (s5.1.flatMap eI.o) [])), (50001, .r (.arr 1 (v2.flatMap eI.o) [])), (72001, .r (.arr 1 (v4.flatMap eI.o) []))] (.cons hy10'.1 (.cons hy10'.2.1 (.cons (at_o0 eI_ok hy10'.2.2 (d := iv y10) (by kernel_rfl)) .nil))) (by kernel_rfl) (by kernel_rfl) ?_
    obtain ⟨y11, hy11, hM⟩ := bind_some' hM
    have hy11' := idx_some hy11
    obtain ⟨v12, hv12, hM⟩ := bind_some' hM
    obtain ⟨v13, hv13, hM⟩ := bind_some' hM
    obtain ⟨h14, hM⟩ := chk_some hM
    refine tr_r hT hm [(9, .val (iv y11)), (11, .call [] [] [.pt (eXCategory.b a4) 0, iv y11, iv y10] [] (iv v12)), (12, .call [25000] [] [.sl v2.length 0 (v2.flatMap eI.b), iv v12] [] (iv v13)), (14, .app true)] [0, 6, 8, 16, 18, 68, 70, 72, 2109, 50001, 72001] [(0, .d (iv a0)), (6, .d (.pt ((eP eXFunctor).b a3) 0)), (8, .d (.pt ((eP eXCategory).b a4) 0)), (16, .d (.rs 1054 0 (s5.1.length + (([v13] : List Int).length)))), (18, .d (.rs 25000 0 v2.length)), (68, .d (.rs 36000 0 v4.length)), (70, .d (iv (v4.length : Int))), (72, .d (iv s5.2)), (2109, .r (.arr 1 (s5.1.flatMap eI.o ++ ([v13] : List Int).flatMap eI.o) [])), (50001, .r (.arr 1 (v2.flatMap eI.o) [])), (72001, .r (.arr 1 (v4.flatMap eI.o) []))] (.cons hy11'.1 (.cons hy11'.2.1 (.cons (at_b0 eI_ok hy11'.2.2 (d := iv y11) (by kernel_rfl)) (cc0 ok130 (impl_Category_then_c a4 y11 y10 _ hv12) (by kernel_rfl) (cc (B := [25000]) (ρ := []) (rB := [(25000, .arr 1 (v2.flatMap eI.o) [])]) ok140 (impl_index_int64_c v2 v12 _ hv13) (.cons (.of1 (.rs (r := 25000) (sz := 1) (refs := []) (memB (by kernel_rfl)) (by kernel_rfl) (bor_flat eI_ok _ _ _))) (.cons (.same rfl) .nil)) (.inr ⟨.v, trivial⟩) (.cons (lenO_flat eI_ok s5.1) (.cons (lenO_flat eI_ok ([v13] : List Int)) (.cons h14 .nil)))))))) (by kernel_rfl) (by kernel_rfl) (b_n (q_n ?_))
    refine Tr.by (imp_cvE (r := 1054) (sz := 1) (refs := []) (flat_app eI.o s5.1 ([v13] : List Int)) (menO_flat eI_ok _) (by kernel_rfl)) ?_
    refine Tr.by (imp_cvD (k := 16) (congrArg (D.rs 1054 0) ((len_app s5.1 ([v13] : List Int)) : s5.1.length + (([v13] : List Int).length) = (s5.1 ++ ([v13] : List Int)).length)) (by kernel_rfl)) ?_
    refine tr_r hT hm [] [0, 6, 8, 16, 18, 68, 70, 72, 2109, 50001, 72001] [(0, .d (iv a0)), (6, .d (.pt ((eP eXFunctor).b a3) 0)), (8, .d (.pt ((eP eXCategory).b a4) 0)), (16, .d (.rs 1054 0 ((s5.1 ++ ([v13] : List Int)).length))), (18, .d (.rs 25000 0 v2.length)), (68, .d (.rs 36000 0 v4.length)), (70, .d (iv (v4.length : Int))), (72, .d (iv (IntKind.i64.wrap (s5.2 + 1)))), (2109, .r (.arr 1 ((s5.1 ++ ([v13] : List Int)).flatMap eI.o) [])), (50001, .r (.arr 1 (v2.flatMap eI.o) [])), (72001, .r (.arr 1 (v4.flatMap eI.o) []))] .nil (by kernel_rfl) (by kernel_rfl) (l_n ?_)
    refine TrL.by (imp_sel (ks := [0, 6, 8, 16, 18, 68, 70, 72, 2109, 50001, 72001]) (st' := [(0, .d (iv a0)), (6, .d (.pt ((eP eXFunctor).b a3) 0)), (8, .d (.pt ((eP eXCategory).b a4) 0)), (16, .d (.rs 1054 0 ((s5.1 ++ ([v13] : List Int)).length))), (18, .d (.rs 25000 0 v2.length)), (68, .d (.rs 36000 0 v4.length)), (70, .d (iv (v4.length : Int))), (72, .d (iv (IntKind.i64.wrap (s5.2 + 1)))), (2109, .r (.arr 1 ((s5.1 ++ ([v13] : List Int)).flatMap eI.o) [])), (50001, .r (.arr 1 (v2.flatMap eI.o) [])), (72001, .r (.arr 1 (v4.flatMap eI.o) []))]) (by kernel_rfl)) ?_
    refine TrL.by (imp_rename (r := 1054) (q := 1012) (by kernel_rfl) (Nat.le_of_ble_eq_true rfl)) ?_
    exact trl_start (ks := [0, 6, 8, 16, 18, 68, 70, 72, 2025, 50001, 72001]) (by kernel_rfl) (ih7 (s5.1 ++ ([v13] : List Int), IntKind.i64.wrap (s5.2 + 1)) hM)
  · have hM := ite_false' hM h9
    refine tr_condFe (e := decide (s5.2 < (v4.length : Int))) h9 (by kernel_rfl) ?_
    refine tr_exit (q_x (l_x (b_h (q_n ?_))))
    refine tr_sr hT hm [] [14, 2025] [(14, .d (.rs 1012 0 s5.1.length)), (2025, .r (.arr 1 (s5.1.flatMap eI.o) []))] .nil (by kernel_rfl) (by kernel_rfl) ?_
    refine tr_ret (rg_r ?_)
    obtain rfl := Option.some.inj hM
    exact retg (names := []) (.cons (lenO_flat eI_ok s5.1) .nil) (by kernel_rfl)

theorem ok141 : CallOk Try.prog 141 := callOk_of Try.func141 (by kernel_rfl) (by kernel_rfl)
theorem impl_natural_4_c (a0 : Int) (a1 : Int) (f2 : Nat) (c2 : List D) (a2 : Int → Int → Option (List Int)) (ok2_ : CallOk Try.prog f2) (hm2 : menL c2 = []) (hf2 : ∀ x0 x1 r, a2 x0 x1 = some r → FnC Try.prog f2 [] ([iv x0, iv x1] ++ c2) [] (.fr 1 r.length (r.flatMap eI.o))) (a3 : XFunctor) (a4 : XCategory) (r : (List Int)) (hM : M.impl_natural_4 a0 a1 a2 a3 a4 = some r) :
    FnC Try.prog 141 [] [iv a0, iv a1, .pt [.fb f2 c2] 0, .pt ((eP eXFunctor).b a3) 0, .pt ((eP eXCategory).b a4) 0] [] (.fr 1 r.length (r.flatMap eI.o)) := by
  refine fnc_startG (N := 57) (np := 500) hT Try.func141 rfl rfl (by kernel_rfl) ?_
  unfold M.impl_natural_4 at hM
  refine tr_start (ks := [0, 2, 4, 6, 8]) (st' := [(0, .d (iv a0)), (2, .d (iv a1)), (4, .d (.pt [.fb f2 c2] 0)), (6, .d (.pt ((eP eXFunctor).b a3) 0)), (8, .d (.pt ((eP eXCategory).b a4) 0))]) (by kernel_rfl) ?_
  refine tr_sr hT hm [] [0, 2, 4, 6, 8] [(0, .d (iv a0)), (2, .d (iv a1)), (4, .d (.pt [.fb f2 c2] 0)), (6, .d (.pt ((eP eXFunctor).b a3) 0)), (8, .d (.pt ((eP eXCategory).b a4) 0))] .nil (by kernel_rfl) (by kernel_rfl) ?_
  refine tr_sr hT hm [] [0, 2, 4, 6, 8, 16, 2025] [(0, .d (iv a0)), (2, .d (iv a1)), (4, .d (.pt [.fb f2 c2] 0)), (6, .d (.pt ((eP eXFunctor).b a3) 0)), (8, .d (.pt ((eP eXCategory).b a4) 0)), (16, .d (.rs 1012 0 (([] : List Int).length))), (2025, .r (.arr 1 (([] : List Int).flatMap eI.o) []))] .nil (by kernel_rfl) (by kernel_rfl) ?_
  obtain ⟨y1, hy1, hM⟩ := bind_some' hM
  have hy1' := idx_some hy1
  obtain ⟨v2, hv2, hM⟩ := bind_some' hM
  refine tr_sr hT hm [(9, .val (iv y1)), (10, .call [] [] ([iv a1, iv y1] ++ c2) [] (.fr 1 v2.length (v2.flatMap eI.o)))] [0, 2, 4, 6, 8, 16, 18, 2025, 50001] [(0, .d (iv a0)), (2, .d (iv a1)), (4, .d (.pt [.fb f2 c2] 0)), (6, .d (.pt ((eP eXFunctor).b a3) 0)), (8, .d (.pt ((eP eXCategory).b a4) 0)), (16, .d (.rs 1012 0 (([] : List Int).length))), (18, .d (.rs 25000 0 v2.length)), (2025, .r (.arr 1 (([] : List Int).flatMap eI.o) [])), (50001, .r (.arr 1 (v2.flatMap eI.o) []))] (.cons hy1'.1 (.cons hy1'.2.1 (.cons (at_b0 eI_ok hy1'.2.2 (d := iv y1) (by kernel_rfl)) (cc0 ok2_ (hf2 a1 y1 _ hv2) (menL_app rfl hm2) .nil)))) (by kernel_rfl) (by kernel_rfl) ?_
  refine tr_seq ?_
  obtain ⟨y3, hy3, hM⟩ := bind_some' hM
  have hy3' := idx_some hy3
  obtain ⟨v4, hv4, hM⟩ := bind_some' hM
  refine tr_sr hT hm [(9, .val (iv y3)), (10, .call [] [] ([iv a1, iv y3] ++ c2) [] (.fr 1 v4.length (v4.flatMap eI.o)))] [0, 6, 8, 16, 18, 68, 70, 72, 2025, 50001, 72001] [(0, .d (iv a0)), (6, .d (.pt ((eP eXFunctor).b a3) 0)), (8, .d (.pt ((eP eXCategory).b a4) 0)), (16, .d (.rs 1012 0 (([] : List Int).length))), (18, .d (.rs 25000 0 v2.length)), (68, .d (.rs 36000 0 v4.length)), (70, .d (iv (v4.length : Int))), (72, .d (iv 0)), (2025, .r (.arr 1 (([] : List Int).flatMap eI.o) [])), (50001, .r (.arr 1 (v2.flatMap eI.o) [])), (72001, .r (.arr 1 (v4.flatMap eI.o) []))] (.cons hy3'.1 (.cons hy3'.2.1 (.cons (at_b0 eI_ok hy3'.2.2 (d := iv y3) (by kernel_rfl)) (cc0 ok2_ (hf2 a1 y3 _ hv4) (menL_app rfl hm2) .nil)))) (by kernel_rfl) (by kernel_rfl) ?_
  refine tr_block ?_
  refine tr_iterS (fun (s5 : (List Int) × Int) => [(0, .d (iv a0)), (6, .d (.pt ((eP eXFunctor).b a3) 0)), (8, .d (.pt ((eP eXCategory).b a4) 0)), (16, .d (.rs 1012 0 s5.1.length)), (18, .d (.rs 25000 0 v2.length)), (68, .d (.rs 36000 0 v4.length)), (70, .d (iv (v4.length : Int))), (72, .d (iv s5.2)), (2025, .r (.arr 1 (s5.1.flatMap eI.o) [])), (50001, .r (.arr 1 (v2.flatMap eI.o) [])), (72001, .r (.arr 1 (v4.flatMap eI.o) []))]) (([] : List Int), 0) [0, 6, 8, 16, 18, 68, 70, 72, 2025, 50001, 72001] (by kernel_rfl) hM ?_
  intro n8 next6 ih7 s5 hM
  refine tr_sr hT hm [] [0, 6, 8, 16, 18, 68, 70, 72, 74, 2025, 50001, 72001] [(0, .d (iv a0)), (6, .d (.pt ((eP eXFunctor).b a3) 0)), (8, .d (.pt ((eP eXCategory).b a4) 0)), (16, .d (.rs 1012 0 s5.1.length)), (18, .d (.rs 25000 0 v2.length)), (68, .d (.rs 36000 0 v4.length)), (70, .d (iv (v4.length : Int))), (72, .d (iv s5.2)), (74, .d (bv (decide (s5.2 < (v4.length : Int))))), (2025, .r (.arr 1 (s5.1.flatMap eI.o) [])), (50001, .r (.arr 1 (v2.flatMap eI.o) [])), (72001, .r (.arr 1 (v4.flatMap eI.o) []))] .nil (by kernel_rfl) (by kernel_rfl) ?_
  refine tr_seq ?_
  rcases Bool.eq_false_or_eq_true (decide (s5.2 < (v4.length : Int))) with h9 | h9
  · have hM := ite_true' hM h9
    refine tr_condTe (e := decide (s5.2 < (v4.length : Int))) h9 (by kernel_rfl) ?_
    refine tr_skip (q_n ?_)
    refine tr_seq ?_
    refine tr_block ?_
    obtain ⟨y10, hy10, hM⟩ := bind_some' hM
    have hy10' := idx_some hy10
    refine tr_sr hT hm [(1, .val (iv y10))] [0, 6, 8, 16, 18, 22, 68, 70, 72, 2025, 50001, 72001] [(0, .d (iv a0)), (6, .d (.pt ((eP eXFunctor).b a3) 0)), (8, .d (.pt ((eP eXCategory).b a4) 0)), (16, .d (.rs 1012 0 s5.1.length)), (18, .d (.rs 25000 0 v2.length)), (22, .d (iv y10)), (68, .d (.rs 36000 0 v4.length)), (70, .d (iv (v4.length : Int))), (72, .d (iv s5.2)), (2025, .r (.arr 1 (s5.1.flatMap eI.o) [])), (50001, .r (.arr 1 (v2.flatMap eI.o) [])), (72001, .r (.arr 1 (v4.flatMap eI.o) []))] (.cons hy10'.1 (.cons hy10'.2.1 (.cons (at_o0 eI_ok hy10'.2.2 (d := iv y10) (by kernel_rfl)) .nil))) (by kernel_rfl) (by kernel_rfl) ?_
    obtain ⟨y11, hy11, hM⟩ := bind_some' hM
    have hy11' := idx_some hy11
    obtain ⟨v12, hv12, hM⟩ := bind_some' hM
    obtain ⟨v13, hv13, hM⟩ := bind_some' hM
    obtain ⟨h14, hM⟩ := chk_some hM
    refine tr_r hT hm [(10, .val (iv y11)), (11, .call [] [] [.pt (eXCategory.b a4) 0, iv y10, iv y11] [] (iv v12)), (12, .call [25000] [] [.sl v2.length 0 (v2.flatMap eI.b), iv v12] [] (iv v13)), (14, .app true)] [0, 6, 8, 16, 18, 68, 70, 72, 2109, 50001, 72001] [(0, .d (iv a0)), (6, .d (.pt ((eP eXFunctor).b a3) 0)), (8, .d (.pt ((eP eXCategory).b a4) 0)), (16, .d (.rs 1054 0 (s5.1.length + (([v13] : List Int).length)))), (18, .d (.rs 25000 0 v2.length)), (68, .d (.rs 36000 0 v4.length)), (70, .d (iv (v4.length : Int))), (72, .d (iv s5.2)), (2109, .r (.arr 1 (s5.1.flatMap eI.o ++ ([v13] : List Int).flatMap eI.o) [])), (50001, .r (.arr 1 (v2.flatMap eI.o) [])), (72001, .r (.arr 1 (v4.flatMap eI.o) []))] (.cons hy11'.1 (.cons hy11'.2.1 (.cons (at_b0 eI_ok hy11'.2.2 (d := iv y11) (by kernel_rfl)) (cc0 ok130 (impl_Category_then_c a4 y10 y11 _ hv12) (by kernel_rfl) (cc (B := [25000]) (ρ := []) (rB := [(25000, .arr 1 (v2.flatMap eI.o) [])]) ok140 (impl_index_int64_c v2 v12 _ hv13) (.cons (.of1 (.rs (r := 25000) (sz := 1) (refs := []) (memB (by kernel_rfl)) (by kernel_rfl) (bor_flat eI_ok _ _ _))) (.cons (.same rfl) .nil)) (.inr ⟨.v, trivial⟩) (.cons (lenO_flat eI_ok s5.1) (.cons (lenO_flat eI_ok ([v13] : List Int)) (.cons h14 .nil)))))))) (by kernel_rfl) (by kernel_rfl) (b_n (q_n ?_))
    refine Tr.by (imp_cvE (r := 1054) (sz := 1) (refs := []) (flat_app eI.o s5.1 ([v13] : List Int)) (menO_flat eI_ok _) (by kernel_rfl)) ?_
    refine Tr.by (imp_cvD (k := 16) (congrArg (D.rs 1054 0) ((len_app s5.1 ([v13] : List Int)) : s5.1.length + (([v13] : List Int).length) = (s5.1 ++ ([v13] : List Int)).length)) (by kernel_rfl)) ?_
    refine tr_r hT hm [] [0, 6, 8, 16, 18, 68, 70, 72, 2109, 50001, 72001] [(0, .d (iv a0)), (6, .d (.pt ((eP eXFunctor).b a3) 0)), (8, .d (.pt ((eP eXCategory).b a4) 0)), (16, .d (.rs 1054 0 ((s5.1 ++ ([v13] : List Int)).length))), (18, .d (.rs 25000 0 v2.length)), (68, .d (.rs 36000 0 v4.length)), (70, .d (iv (v4.length : Int))), (72, .d (iv (IntKind.i64.wrap (s5.2 + 1)))), (2109, .r (.arr 1 ((s5.1 ++ ([v13] : List Int)).flatMap eI.o) [])), (50001, .r (.arr 1 (v2.flatMap eI.o) [])), (72001, .r (.arr 1 (v4.flatMap eI.o) []))] .nil (by kernel_rfl) (by kernel_rfl) (l_n ?_)
    refine TrL.by (imp_sel (ks := [0, 6, 8, 16, 18, 68, 70, 72, 2109, 50001, 72001]) (st' := [(0, .d (iv a0)), (6, .d (.pt ((eP eXFunctor).b a3) 0)), (8, .d (.pt ((eP eXCategory).b a4) 0)), (16, .d (.rs 1054 0 ((s5.1 ++ ([v13] : List Int)).length))), (18, .d (.rs 25000 0 v2.length)), (68, .d (.rs 36000 0 v4.length)), (70, .d (iv (v4.length : Int))), (72, .d (iv (IntKind.i64.wrap (s5.2 + 1)))), (2109, .r (.arr 1 ((s5.1 ++ ([v13] : List Int)).flatMap eI.o) [])), (50001, .r (.arr 1 (v2.flatMap eI.o) [])), (72001, .r (.arr 1 (v4.flatMap eI.o) []))]) (by kernel_rfl)) ?_
    refine TrL.by (imp_rename (r := 1054) (q := 1012) (by kernel_rfl) (Nat.le_of_ble_eq_true rfl)) ?_
    exact trl_start (ks := [0, 6, 8, 16, 18, 68, 70, 72, 2025, 50001, 72001]) (by kernel_rfl) (ih7 (s5.1 ++ ([v13] : List Int), IntKind.i64.wrap (s5.2 + 1)) hM)
  · have hM := ite_false' hM h9
    refine tr_condFe (e := decide (s5.2 < (v4.length : Int))) h9 (by kernel_rfl) ?_
    refine tr_exit (q_x (l_x (b_h (q_n ?_))))
    refine tr_sr hT hm [] [14, 2025] [(14, .d (.rs 1012 0 s5.1.length)), (2025, .r (.arr 1 (s5.1.flatMap eI.o) []))] .nil (by kernel_rfl) (by kernel_rfl) ?_
    refine tr_ret (rg_r ?_)
    obtain rfl := Option.some.inj hM
    exact retg (names := []) (.cons (lenO_flat eI_ok s5.1) .nil) (by kernel_rfl)

theorem ok84 : CallOk Try.prog 84 := callOk_of Try.func84 (by kernel_rfl) (by kernel_rfl)
theorem impl_natural_c (a0 : XFunctor) (a1 : XFunctor) (r : XProfunctor) (hM : M.impl_natural a0 a1 = some r) :
    FnC Try.prog 84 [] [.pt (eXFunctor.b a0) 0, .pt (eXFunctor.b a1) 0] [] (.agg (eXProfunctor.o r)) := by
  refine fnc_startG (N := 27) (np := 500) hT Try.func84 rfl rfl (by kernel_rfl) ?_
  unfold M.impl_natural at hM
  refine tr_start (ks := [0, 2]) (st' := [(0, .d (.pt (eXFunctor.b a0) 0)), (2, .d (.pt (eXFunctor.b a1) 0))]) (by kernel_rfl) ?_
  refine tr_sr hT hm [] [4, 6, 8, 2005, 2007, 2009] [(4, .d (.rp 1002 0)), (6, .d (.rp 1003 0)), (8, .d (.rp 1004 0)), (2005, .r (.arr 1 [.pt (eXFunctor.b a0) 0] [])), (2007, .r (.arr 1 [.pt (eXFunctor.b a1) 0] [])), (2009, .r (.arr 1 [iv 0, nilv, nilv, nilv, nilv, iv 0, nilv, nilv, nilv, nilv, nilv, nilv, nilv] []))] .nil (by kernel_rfl) (by kernel_rfl) ?_
  refine tr_sr hT hm [] [4, 6, 8, 10, 2005, 2007, 2009, 2011] [(4, .d (.rp 1002 0)), (6, .d (.rp 1003 0)), (8, .d (.rp 1004 0)), (10, .d (.rp 1005 0)), (2005, .r (.arr 1 [.pt (eXFunctor.b a0) 0] [])), (2007, .r (.arr 1 [.pt (eXFunctor.b a1) 0] [])), (2009, .r (.arr 1 [iv 0, nilv, nilv, nilv, nilv, iv 0, nilv, nilv, nilv, nilv, nilv, nilv, nilv] [])), (2011, .r (.arr 1 [.pt (eXFunctor.b a0) 5] []))] (.cons (Nat.le_of_ble_eq_true (n := 1) (m := 1) rfl) .nil) (by kernel_rfl) (by kernel_rfl) ?_
  refine tr_sr hT hm [] [4, 6, 8, 10, 12, 2005, 2007, 2009, 2011, 2013] [(4, .d (.rp 1002 0)), (6, .d (.rp 1003 0)), (8, .d (.rp 1004 0)), (10, .d (.rp 1005 0)), (12, .d (.rp 1006 0)), (2005, .r (.arr 1 [.pt (eXFunctor.b a0) 0] [])), (2007, .r (.arr 1 [.pt (eXFunctor.b a1) 0] [])), (2009, .r (.arr 1 [iv 0, nilv, nilv, nilv, nilv, iv 0, nilv, nilv, nilv, nilv, nilv, nilv, nilv] [])), (2011, .r (.arr 1 [.pt (eXFunctor.b a0) 5] [])), (2013, .r (.arr 1 [.fn 135 [.rp 1005 0, .rp 1002 0, .rp 1003 0]] [1005, 1002, 1003]))] (.cons (Nat.le_of_ble_eq_true (n := 1) (m := 1) rfl) .nil) (by kernel_rfl) (by kernel_rfl) ?_
  obtain ⟨v1, hv1, hM⟩ := bind_some' hM
  refine tr_sr hT hm [(9, .call [1006, 1005, 1002, 1003] [] [.pt (eXCategory.b a0.Source) 0, .pt (eXCategory.b a1.Source) 0, .fb 138 [.pt [.fb 135 [.pt ((eP eXCategory).b a0.Target) 0, .pt ((eP eXFunctor).b a0) 0, .pt ((eP eXFunctor).b a1) 0]] 0], .fb 139 [.pt [.fb 135 [.pt ((eP eXCategory).b a0.Target) 0, .pt ((eP eXFunctor).b a0) 0, .pt ((eP eXFunctor).b a1) 0]] 0, .pt ((eP eXFunctor).b a0) 0, .pt ((eP eXCategory).b a0.Target) 0], .fb 141 [.pt [.fb 135 [.pt ((eP eXCategory).b a0.Target) 0, .pt ((eP eXFunctor).b a0) 0, .pt ((eP eXFunctor).b a1) 0]] 0, .pt ((eP eXFunctor).b a1) 0, .pt ((eP eXCategory).b a0.Target) 0]] [] (.tup [.agg (eXProfunctor.o v1.1), bv v1.2]))] [8, 14, 2009, 2015, 50003, 50005, 50007, 50009, 50013, 50015, 50017, 50019, 50021, 50023, 50025] ([(8, .d (.rp 1004 0)), (14, .d (.rp 1007 0)), (2009, .r (.arr 1 [iv 0, nilv, nilv, nilv, nilv, iv 0, nilv, nilv, nilv, nilv, nilv, nilv, nilv] [])), bxO 2015 25000 (eXProfunctor.o v1.1)] ++ rsS 25000 (eXProfunctor.o v1.1)) (cc (B := [1006, 1005, 1002, 1003]) (ρ := []) (rB := [(1006, .arr 1 [.fn 135 [.rp 1005 0, .rp 1002 0, .rp 1003 0]] [1005, 1002, 1003]), (1005, .arr 1 [.pt (eXFunctor.b a0) 5] []), (1002, .arr 1 [.pt (eXFunctor.b a0) 0] []), (1003, .arr 1 [.pt (eXFunctor.b a1) 0] [])]) ok137 (impl_profunctor_c a0.Source a1.Source 138 ([.pt [.fb 135 [.pt ((eP eXCategory).b a0.Target) 0, .pt ((eP eXFunctor).b a0) 0, .pt ((eP eXFunctor).b a1) 0]] 0] : List D) (fun (x0 : Int) (x1 : Int) => M.impl_natural_2 x0 x1 (fun (x0 : Int) (x1 : Int) => M.impl_natural_1 x0 x1 a0.Target a0 a1)) ok138 (by kernel_rfl) (fun x0 x1 r h => impl_natural_2_c x0 x1 135 ([.pt ((eP eXCategory).b a0.Target) 0, .pt ((eP eXFunctor).b a0) 0, .pt ((eP eXFunctor).b a1) 0] : List D) (fun (x0 : Int) (x1 : Int) => M.impl_natural_1 x0 x1 a0.Target a0 a1) ok135 (by kernel_rfl) (fun x0 x1 r h => impl_natural_1_c x0 x1 a0.Target a0 a1 r h) r h) 139 ([.pt [.fb 135 [.pt ((eP eXCategory).b a0.Target) 0, .pt ((eP eXFunctor).b a0) 0, .pt ((eP eXFunctor).b a1) 0]] 0, .pt ((eP eXFunctor).b a0) 0, .pt ((eP eXCategory).b a0.Target) 0] : List D) (fun (x0 : Int) (x1 : Int) => M.impl_natural_3 x0 x1 (fun (x0 : Int) (x1 : Int) => M.impl_natural_1 x0 x1 a0.Target a0 a1) a0 a0.Target) ok139 (by kernel_rfl) (fun x0 x1 r h => impl_natural_3_c x0 x1 135 ([.pt ((eP eXCategory).b a0.Target) 0, .pt ((eP eXFunctor).b a0) 0, .pt ((eP eXFunctor).b a1) 0] : List D) (fun (x0 : Int) (x1 : Int) => M.impl_natural_1 x0 x1 a0.Target a0 a1) ok135 (by kernel_rfl) (fun x0 x1 r h => impl_natural_1_c x0 x1 a0.Target a0 a1 r h) a0 a0.Target r h) 141 ([.pt [.fb 135 [.pt ((eP eXCategory).b a0.Target) 0, .pt ((eP eXFunctor).b a0) 0, .pt ((eP eXFunctor).b a1) 0]] 0, .pt ((eP eXFunctor).b a1) 0, .pt ((eP eXCategory).b a0.Target) 0] : List D) (fun (x0 : Int) (x1 : Int) => M.impl_natural_4 x0 x1 (fun (x0 : Int) (x1 : Int) => M.impl_natural_1 x0 x1 a0.Target a0 a1) a1 a0.Target) ok141 (by kernel_rfl) (fun x0 x1 r h => impl_natural_4_c x0 x1 135 ([.pt ((eP eXCategory).b a0.Target) 0, .pt ((eP eXFunctor).b a0) 0, .pt ((eP eXFunctor).b a1) 0] : List D) (fun (x0 : Int) (x1 : Int) => M.impl_natural_1 x0 x1 a0.Target a0 a1) ok135 (by kernel_rfl) (fun x0 x1 r h => impl_natural_1_c x0 x1 a0.Target a0 a1 r h) a1 a0.Target r h) _ hv1) (.cons (.pass (.ptk (ds := eXFunctor.b a0) (ds' := eXCategory.b a0.Source) (off := 0) (n := 5) (by kernel_rfl) (by kernel_rfl) (by kernel_rfl))) (.cons (.pass (.ptk (ds := eXFunctor.b a1) (ds' := eXCategory.b a1.Source) (off := 0) (n := 5) (by kernel_rfl) (by kernel_rfl) (by kernel_rfl))) (.cons (.fn (.cons (.rp (r := 1006) (sz := 1) (cells := [.fn 135 [.rp 1005 0, .rp 1002 0, .rp 1003 0]]) (refs := [1005, 1002, 1003]) (memB (by kernel_rfl)) (by kernel_rfl) (.cons (.fn (.cons (.rp (r := 1005) (sz := 1) (cells := [.pt (eXFunctor.b a0) 5]) (refs := []) (memB (by kernel_rfl)) (by kernel_rfl) (.cons (.ptk (ds := eXFunctor.b a0) (ds' := eXCategory.b a0.Target) (off := 5) (n := 5) (by kernel_rfl) (by kernel_rfl) (by kernel_rfl)) .nil)) (.cons (.rp (r := 1002) (sz := 1) (cells := [.pt (eXFunctor.b a0) 0]) (refs := []) (memB (by kernel_rfl)) (by kernel_rfl) (.cons (.same rfl rfl) .nil)) (.cons (.rp (r := 1003) (sz := 1) (cells := [.pt (eXFunctor.b a1) 0]) (refs := []) (memB (by kernel_rfl)) (by kernel_rfl) (.cons (.same rfl rfl) .nil)) .nil)))) .nil)) .nil)) (.cons (.fn (.cons (.rp (r := 1006) (sz := 1) (cells := [.fn 135 [.rp 1005 0, .rp 1002 0, .rp 1003 0]]) (refs := [1005, 1002, 1003]) (memB (by kernel_rfl)) (by kernel_rfl) (.cons (.fn (.cons (.rp (r := 1005) (sz := 1) (cells := [.pt (eXFunctor.b a0) 5]) (refs := []) (memB (by kernel_rfl)) (by kernel_rfl) (.cons (.ptk (ds := eXFunctor.b a0) (ds' := eXCategory.b a0.Target) (off := 5) (n := 5) (by kernel_rfl) (by kernel_rfl) (by kernel_rfl)) .nil)) (.cons (.rp (r := 1002) (sz := 1) (cells := [.pt (eXFunctor.b a0) 0]) (refs := []) (memB (by kernel_rfl)) (by kernel_rfl) (.cons (.same rfl rfl) .nil)) (.cons (.rp (r := 1003) (sz := 1) (cells := [.pt (eXFunctor.b a1) 0]) (refs := []) (memB (by kernel_rfl)) (by kernel_rfl) (.cons (.same rfl rfl) .nil)) .nil)))) .nil)) (.cons (.rp (r := 1002) (sz := 1) (cells := [.pt (eXFunctor.b a0) 0]) (refs := []) (memB (by kernel_rfl)) (by kernel_rfl) (.cons (.same rfl rfl) .nil)) (.cons (.rp (r := 1005) (sz := 1) (cells := [.pt (eXFunctor.b a0) 5]) (refs := []) (memB (by kernel_rfl)) (by kernel_rfl) (.cons (.ptk (ds := eXFunctor.b a0) (ds' := eXCategory.b a0.Target) (off := 5) (n := 5) (by kernel_rfl) (by kernel_rfl) (by kernel_rfl)) .nil)) .nil)))) (.cons (.fn (.cons (.rp (r := 1006) (sz := 1) (cells := [.fn 135 [.rp 1005 0, .rp 1002 0, .rp 1003 0]]) (refs := [1005, 1002, 1003]) (memB (by kernel_rfl)) (by kernel_rfl) (.cons (.fn (.cons (.rp (r := 1005) (sz := 1) (cells := [.pt (eXFunctor.b a0) 5]) (refs := []) (memB (by kernel_rfl)) (by kernel_rfl) (.cons (.ptk (ds := eXFunctor.b a0) (ds' := eXCategory.b a0.Target) (off := 5) (n := 5) (by kernel_rfl) (by kernel_rfl) (by kernel_rfl)) .nil)) (.cons (.rp (r := 1002) (sz := 1) (cells := [.pt (eXFunctor.b a0) 0]) (refs := []) (memB (by kernel_rfl)) (by kernel_rfl) (.cons (.same rfl rfl) .nil)) (.cons (.rp (r := 1003) (sz := 1) (cells := [.pt (eXFunctor.b a1) 0]) (refs := []) (memB (by kernel_rfl)) (by kernel_rfl) (.cons (.same rfl rfl) .nil)) .nil)))) .nil)) (.cons (.rp (r := 1003) (sz := 1) (cells := [.pt (eXFunctor.b a1) 0]) (refs := []) (memB (by kernel_rfl)) (by kernel_rfl) (.cons (.same rfl rfl) .nil)) (.cons (.rp (r := 1005) (sz := 1) (cells := [.pt (eXFunctor.b a0) 5]) (refs := []) (memB (by kernel_rfl)) (by kernel_rfl) (.cons (.ptk (ds := eXFunctor.b a0) (ds' := eXCategory.b a0.Target) (off := 5) (n := 5) (by kernel_rfl) (by kernel_rfl) (by kernel_rfl)) .nil)) .nil)))) .nil))))) (.inr ⟨(nobor_tup (.cons (.agg (eXProfunctor_nb _)) (.cons .v .nil))), trivial⟩) (.cons (Nat.le_of_ble_eq_true (n := 13) (m := 13) rfl) .nil)) (by kernel_rfl) (by kernel_rfl) ?_
  refine tr_sr hT hm [] [8, 2009, 50003, 50005, 50007, 50009, 50013, 50015, 50017, 50019, 50021, 50023, 50025] ([(8, .d (.rp 1004 0)), bxO 2009 25000 (eXProfunctor.o v1.1)] ++ rsS 25000 (eXProfunctor.o v1.1)) (.cons (Nat.le_of_ble_eq_true (n := 13) (m := 13) rfl) .nil) (by kernel_rfl) (by kernel_rfl) ?_
  refine tr_ret (rg_r ?_)
  obtain rfl := Option.some.inj hM
  exact retg (names := []) (.cons (lenO_flat eI_ok v1.1.Source.From) (.cons (lenO_flat eI_ok v1.1.Source.To) (.cons (lenO_flat eI_ok v1.1.Source.Identity) (.cons (lenO_flat (eS_ok eI_ok) v1.1.Source.Composites) (.cons (lenO_flat eI_ok v1.1.Target.From) (.cons (lenO_flat eI_ok v1.1.Target.To) (.cons (lenO_flat eI_ok v1.1.Target.Identity) (.cons (lenO_flat (eS_ok eI_ok) v1.1.Target.Composites) (.cons (lenO_flat (eS_ok eI_ok) v1.1.Sizes) (.cons (lenO_flat (eS_ok (eS_ok eI_ok)) v1.1.Before) (.cons (lenO_flat (eS_ok (eS_ok eI_ok)) v1.1.Behind) .nil))))))))))) (by kernel_rfl)

theorem ok85 : CallOk Try.prog 85 := callOk_of Try.func85 (by kernel_rfl) (by kernel_rfl)
theorem laws_eqInt64SSS_c (a0 : List (List (List Int))) (a1 : List (List (List Int))) (r : Bool) (hM : M.laws_eqInt64SSS a0 a1 = some r) :
    FnC Try.prog 85 [] [.sl a0.length 0 (a0.flatMap (eS (eS eI)).b), .sl a1.length 0 (a1.flatMap (eS (eS eI)).b)] [] (bv r) := by
  refine fnc_startG (N := 27) (np := 500) hT Try.func85 rfl rfl (by kernel_rfl) ?_
  unfold M.laws_eqInt64SSS at hM
  refine tr_start (ks := [0, 2]) (st' := [(0, .d (.sl a0.length 0 (a0.flatMap (eS (eS eI)).b))), (2, .d (.sl a1.length 0 (a1.flatMap (eS (eS eI)).b)))]) (by kernel_rfl) ?_
  refine tr_sr hT hm [] [0, 2] [(0, .d (.sl a0.length 0 (a0.flatMap (eS (eS eI)).b))), (2, .d (.sl a1.length 0 (a1.flatMap (eS (eS eI)).b)))] .nil (by kernel_rfl) (by kernel_rfl) ?_
  refine tr_seq ?_
  refine tr_sr hT hm [] [0, 2, 20] [(0, .d (.sl a0.length 0 (a0.flatMap (eS (eS eI)).b))), (2, .d (.sl a1.length 0 (a1.flatMap (eS (eS eI)).b))), (20, .d (bv ((a0.length : Int) != (a1.length : Int))))] .nil (by kernel_rfl) (by kernel_rfl) ?_
  rcases Bool.eq_false_or_eq_true ((a0.length : Int) != (a1.length : Int)) with h1 | h1
  · have hM := ite_true' hM h1
    refine tr_condTe (e := (a0.length : Int) != (a1.length : Int)) h1 (by kernel_rfl) ?_
    refine tr_sr hT hm [] [8] [(8, .d (bv false))] .nil (by kernel_rfl) (by kernel_rfl) ?_
    refine tr_ret (q_r (rg_r ?_))
    obtain rfl := Option.some.inj hM
    exact retg (names := []) .nil (by kernel_rfl)
  · have hM := ite_false' hM h1
    refine tr_condFe (e := (a0.length : Int) != (a1.length : Int)) h1 (by kernel_rfl) ?_
    refine tr_skip (q_n ?_)
    refine tr_seq ?_
    refine tr_sr hT hm [] [0, 2, 10] [(0, .d (.sl a0.length 0 (a0.flatMap (eS (eS eI)).b))), (2, .d (.sl a1.length 0 (a1.flatMap (eS (eS eI)).b))), (10, .d (iv 0))] .nil (by kernel_rfl) (by kernel_rfl) ?_
    refine tr_block ?_
    refine tr_iterS (fun (s2 : Int) => [(0, .d (.sl a0.length 0 (a0.flatMap (eS (eS eI)).b))), (2, .d (.sl a1.length 0 (a1.flatMap (eS (eS eI)).b))), (10, .d (iv s2))]) 0 [0, 2, 10] (by kernel_rfl) hM ?_
    intro n5 next3 ih4 s2 hM
    refine tr_seq ?_
    refine tr_sr hT hm [] [0, 2, 10, 28] [(0, .d (.sl a0.length 0 (a0.flatMap (eS (eS eI)).b))), (2, .d (.sl a1.length 0 (a1.flatMap (eS (eS eI)).b))), (10, .d (iv s2)), (28, .d (bv (decide (s2 < (a0.length : Int)))))] .nil (by kernel_rfl) (by kernel_rfl) ?_
    rcases Bool.eq_false_or_eq_true (decide (s2 < (a0.length : Int))) with h6 | h6
    · have hM := ite_true' hM h6
      refine tr_condTe (e := decide (s2 < (a0.length : Int))) h6 (by kernel_rfl) ?_
      refine tr_skip (q_n ?_)
      refine tr_seq ?_
      refine tr_block ?_
      obtain ⟨y7, hy7, hM⟩ := bind_some' hM
      have hy7' := idx_some hy7
      obtain ⟨y8, hy8, hM⟩ := bind_some' hM
      have hy8' := idx_some hy8
      obtain ⟨v9, hv9, hM⟩ := bind_some' hM
      refine tr_sr hT hm [(3, .val (.sl y7.length 0 (y7.flatMap (eS eI).b))), (7, .val (.sl y8.length 0 (y8.flatMap (eS eI).b))), (8, .call [] [] [.sl y7.length 0 (y7.flatMap (eS eI).b), .sl y8.length 0 (y8.flatMap (eS eI).b)] [] (bv v9))] [0, 2, 10, 52] [(0, .d (.sl a0.length 0 (a0.flatMap (eS (eS eI)).b))), (2, .d (.sl a1.length 0 (a1.flatMap (eS (eS eI)).b))), (10, .d (iv s2)), (52, .d (bv (!v9)))] (.cons hy7'.1 (.cons hy7'.2.1 (.cons (at_b0 (eS_ok (eS_ok eI_ok)) hy7'.2.2 (d := .sl y7.length 0 (y7.flatMap (eS eI).b)) (by kernel_rfl)) (.cons hy8'.1 (.cons hy8'.2.1 (.cons (at_b0 (eS_ok (eS_ok eI_ok)) hy8'.2.2 (d := .sl y8.length 0 (y8.flatMap (eS eI).b)) (by kernel_rfl)) (cc0 ok40 (laws_eqInt64SS_c y7 y8 _ hv9) (by kernel_rfl) .nil))))))) (by kernel_rfl) (by kernel_rfl) ?_
      rcases Bool.eq_false_or_eq_true v9 with h10 | h10
      · have hM := ite_true' hM h10
        refine tr_condFe (e := !v9) (congrArg not h10) (by kernel_rfl) ?_
        refine tr_skip (b_n (q_n ?_))
        refine tr_r hT hm [] [0, 2, 10] [(0, .d (.sl a0.length 0 (a0.flatMap (eS (eS eI)).b))), (2, .d (.sl a1.length 0 (a1.flatMap (eS (eS eI)).b))), (10, .d (iv (IntKind.i64.wrap (s2 + 1))))] .nil (by kernel_rfl) (by kernel_rfl) (l_n ?_)
        exact trl_start (ks := [0, 2, 10]) (by kernel_rfl) (ih4 (IntKind.i64.wrap (s2 + 1)) hM)
      · have hM := ite_false' hM h10
        refine tr_condTe (e := !v9) (congrArg not h10) (by kernel_rfl) ?_
        refine tr_sr hT hm [] [8] [(8, .d (bv false))] .nil (by kernel_rfl) (by kernel_rfl) ?_
        refine tr_ret (b_r (q_r (l_r (b_r (q_r (rg_r ?_))))))
        obtain rfl := Option.some.inj hM
        exact retg (names := []) .nil (by kernel_rfl)
    · have hM := ite_false' hM h6
      refine tr_condFe (e := decide (s2 < (a0.length : Int))) h6 (by kernel_rfl) ?_
      refine tr_exit (q_x (l_x (b_h (q_n ?_))))
      refine tr_sr hT hm [] [8] [(8, .d (bv true))] .nil (by kernel_rfl) (by kernel_rfl) ?_
      refine tr_ret (rg_r ?_)
      obtain rfl := Option.some.inj hM
      exact retg (names := []) .nil (by kernel_rfl)

theorem ok26 : CallOk Try.prog 26 := callOk_of Try.func26 (by kernel_rfl) (by kernel_rfl)
theorem laws_eqProfunctor_c (a0 : XProfunctor) (a1 : XProfunctor) (r : Bool) (hM : M.laws_eqProfunctor a0 a1 = some r) :
    FnC Try.prog 26 [] [.agg (eXProfunctor.b a0), .agg (eXProfunctor.b a1)] [] (bv r) := by
  refine fnc_startG (N := 35) (np := 500) hT Try.func26 rfl rfl (by kernel_rfl) ?_
  unfold M.laws_eqProfunctor at hM
  refine tr_start (ks := [0, 2]) (st' := [(0, .d (.agg (eXProfunctor.b a0))), (2, .d (.agg (eXProfunctor.b a1)))]) (by kernel_rfl) ?_
  refine tr_sr hT hm [] [4, 6, 2005, 2007] [(4, .d (.rp 1002 0)), (6, .d (.rp 1003 0)), bxB 2005 (eXProfunctor.b a0), bxB 2007 (eXProfunctor.b a1)] .nil (by kernel_rfl) (by kernel_rfl) ?_
  refine tr_seq ?_
  obtain ⟨v1, hv1, hM⟩ := bind_some' hM
  refine tr_sr hT hm [(4, .call [] [] [.agg (eXCategory.b a0.Source), .agg (eXCategory.b a1.Source)] [] (bv v1))] [4, 6, 20, 2005, 2007] [(4, .d (.rp 1002 0)), (6, .d (.rp 1003 0)), (20, .d (bv (!v1))), bxB 2005 (eXProfunctor.b a0), bxB 2007 (eXProfunctor.b a1)] (cc0 ok33 (laws_eqCategory_c a0.Source a1.Source _ hv1) (by kernel_rfl) .nil) (by kernel_rfl) (by kernel_rfl) ?_
  rcases Bool.eq_false_or_eq_true v1 with h2 | h2
  · have hM := ite_true' hM h2
    refine tr_condFe (e := !v1) (congrArg not h2) (by kernel_rfl) ?_
    refine tr_skip (q_n ?_)
    refine tr_seq ?_
    obtain ⟨v3, hv3, hM⟩ := bind_some' hM
    refine tr_sr hT hm [(4, .call [] [] [.agg (eXCategory.b a0.Target), .agg (eXCategory.b a1.Target)] [] (bv v3))] [4, 6, 32, 2005, 2007] [(4, .d (.rp 1002 0)), (6, .d (.rp 1003 0)), (32, .d (bv (!v3))), bxB 2005 (eXProfunctor.b a0), bxB 2007 (eXProfunctor.b a1)] (cc0 ok33 (laws_eqCategory_c a0.Target a1.Target _ hv3) (by kernel_rfl) .nil) (by kernel_rfl) (by kernel_rfl) ?_
    rcases Bool.eq_false_or_eq_true v3 with h4 | h4
    · have hM := ite_true' hM h4
      refine tr_condFe (e := !v3) (congrArg not h4) (by kernel_rfl) ?_
      refine tr_skip (q_n ?_)
      refine tr_seq ?_
      obtain ⟨v5, hv5, hM⟩ := bind_some' hM
      refine tr_sr hT hm [(4, .call [] [] [.sl a0.Sizes.length 0 (a0.Sizes.flatMap (eS eI).b), .sl a1.Sizes.length 0 (a1.Sizes.flatMap (eS eI).b)] [] (bv v5))] [4, 6, 44, 2005, 2007] [(4, .d (.rp 1002 0)), (6, .d (.rp 1003 0)), (44, .d (bv (!v5))), bxB 2005 (eXProfunctor.b a0), bxB 2007 (eXProfunctor.b a1)] (cc0 ok40 (laws_eqInt64SS_c a0.Sizes a1.Sizes _ hv5) (by kernel_rfl) .nil) (by kernel_rfl) (by kernel_rfl) ?_
      rcases Bool.eq_false_or_eq_true v5 with h6 | h6
      · have hM := ite_true' hM h6
        refine tr_condFe (e := !v5) (congrArg not h6) (by kernel_rfl) ?_
        refine tr_skip (q_n ?_)
        refine tr_seq ?_
        obtain ⟨v7, hv7, hM⟩ := bind_some' hM
        refine tr_sr hT hm [(4, .call [] [] [.sl a0.Before.length 0 (a0.Before.flatMap (eS (eS eI)).b), .sl a1.Before.length 0 (a1.Before.flatMap (eS (eS eI)).b)] [] (bv v7))] [4, 6, 56, 2005, 2007] [(4, .d (.rp 1002 0)), (6, .d (.rp 1003 0)), (56, .d (bv (!v7))), bxB 2005 (eXProfunctor.b a0), bxB 2007 (eXProfunctor.b a1)] (cc0 ok85 (laws_eqInt64SSS_c a0.Before a1.Before _ hv7) (by kernel_rfl) .nil) (by kernel_rfl) (by kernel_rfl) ?_
        rcases Bool.eq_false_or_eq_true v7 with h8 | h8
        · have hM := ite_true' hM h8
          refine tr_condFe (e := !v7) (congrArg not h8) (by kernel_rfl) ?_
          refine tr_skip (q_n ?_)
          refine tr_seq ?_
          obtain ⟨v9, hv9, hM⟩ := bind_some' hM
          refine tr_sr hT hm [(4, .call [] [] [.sl a0.Behind.length 0 (a0.Behind.flatMap (eS (eS eI)).b), .sl a1.Behind.length 0 (a1.Behind.flatMap (eS (eS eI)).b)] [] (bv v9))] [68] [(68, .d (bv (!v9)))] (cc0 ok85 (laws_eqInt64SSS_c a0.Behind a1.Behind _ hv9) (by kernel_rfl) .nil) (by kernel_rfl) (by kernel_rfl) ?_
          rcases Bool.eq_false_or_eq_true v9 with h10 | h10
          · have hM := ite_true' hM h10
            refine tr_condFe (e := !v9) (congrArg not h10) (by kernel_rfl) ?_
            refine tr_skip (q_n ?_)
            refine tr_sr hT hm [] [8] [(8, .d (bv true))] .nil (by kernel_rfl) (by kernel_rfl) ?_
            refine tr_ret (rg_r ?_)
            obtain rfl := Option.some.inj hM
            exact retg (names := []) .nil (by kernel_rfl)
          · have hM := ite_false' hM h10
            refine tr_condTe (e := !v9) (congrArg not h10) (by kernel_rfl) ?_
            refine tr_sr hT hm [] [8] [(8, .d (bv false))] .nil (by kernel_rfl) (by kernel_rfl) ?_
            refine tr_ret (q_r (rg_r ?_))
            obtain rfl := Option.some.inj hM
            exact retg (names := []) .nil (by kernel_rfl)
        · have hM := ite_false' hM h8
          refine tr_condTe (e := !v7) (congrArg not h8) (by kernel_rfl) ?_
          refine tr_sr hT hm [] [8] [(8, .d (bv false))] .nil (by kernel_rfl) (by kernel_rfl) ?_
          refine tr_ret (q_r (rg_r ?_))
          obtain rfl := Option.some.inj hM
          exact retg (names := []) .nil (by kernel_rfl)
      · have hM := ite_false' hM h6
        refine tr_condTe (e := !v5) (congrArg not h6) (by kernel_rfl) ?_
        refine tr_sr hT hm [] [8] [(8, .d (bv false))] .nil (by kernel_rfl) (by kernel_rfl) ?_
        refine tr_ret (q_r (rg_r ?_))
        obtain rfl := Option.some.inj hM
        exact retg (names := []) .nil (by kernel_rfl)
    · have hM := ite_false' hM h4
      refine tr_condTe (e := !v3) (congrArg not h4) (by kernel_rfl) ?_
      refine tr_sr hT hm [] [8] [(8, .d (bv false))] .nil (by kernel_rfl) (by kernel_rfl) ?_
      refine tr_ret (q_r (rg_r ?_))
      obtain rfl := Option.some.inj hM
      exact retg (names := []) .nil (by kernel_rfl)
  · have hM := ite_false' hM h2
    refine tr_condTe (e := !v1) (congrArg not h2) (by kernel_rfl) ?_
    refine tr_sr hT hm [] [8] [(8, .d (bv false))] .nil (by kernel_rfl) (by kernel_rfl) ?_
    refine tr_ret (q_r (rg_r ?_))
    obtain rfl := Option.some.inj hM
    exact retg (names := []) .nil (by kernel_rfl)

theorem ok86 : CallOk Try.prog 86 := callOk_of Try.func86 (by kernel_rfl) (by kernel_rfl)
theorem laws_markInt64SSS_c (a0 : List (List (List Int))) (a1 : Int) (r : Int × (List (List (List Int)))) (hM : M.laws_markInt64SSS a0 a1 = some r) :
    FnC Try.prog 86 [(0, .arr 1 (a0.flatMap (eS (eS eI)).o) [])] [.rs 0 0 a0.length, iv a1] [(0, .arr 1 (r.2.flatMap (eS (eS eI)).o) [])] (iv r.1) := by
  refine fnc_startG (N := 19) (np := 500) hT Try.func86 rfl rfl (by kernel_rfl) ?_
  unfold M.laws_markInt64SSS at hM
  refine tr_start (ks := [0, 1, 2]) (st' := [(0, .d (.rs 0 0 a0.length)), (1, .r (.arr 1 (a0.flatMap (eS (eS eI)).o) [])), (2, .d (iv a1))]) (by kernel_rfl) ?_
  refine tr_sr hT hm [] [0, 1, 2] [(0, .d (.rs 0 0 a0.length)), (1, .r (.arr 1 (a0.flatMap (eS (eS eI)).o) [])), (2, .d (iv a1))] .nil (by kernel_rfl) (by kernel_rfl) ?_
  refine tr_seq ?_
  refine tr_sr hT hm [] [0, 1, 2, 10] [(0, .d (.rs 0 0 a0.length)), (1, .r (.arr 1 (a0.flatMap (eS (eS eI)).o) [])), (2, .d (iv a1)), (10, .d (iv 0))] .nil (by kernel_rfl) (by kernel_rfl) ?_
  refine tr_block ?_
  refine tr_iterS (fun (s1 : (List (List (List Int))) × Int × Int) => [(0, .d (.rs 0 0 s1.1.length)), (1, .r (.arr 1 (s1.1.flatMap (eS (eS eI)).o) [])), (2, .d (iv s1.2.1)), (10, .d (iv s1.2.2))]) (a0, a1, 0) [0, 1, 2, 10] (by kernel_rfl) hM ?_
  intro n4 next2 ih3 s1 hM
  refine tr_seq ?_
  refine tr_sr hT hm [] [0, 1, 2, 10, 18] [(0, .d (.rs 0 0 s1.1.length)), (1, .r (.arr 1 (s1.1.flatMap (eS (eS eI)).o) [])), (2, .d (iv s1.2.1)), (10, .d (iv s1.2.2)), (18, .d (bv (decide (s1.2.2 < (s1.1.length : Int)))))] .nil (by kernel_rfl) (by kernel_rfl) ?_
  rcases Bool.eq_false_or_eq_true (decide (s1.2.2 < (s1.1.length : Int))) with h5 | h5
  · have hM := ite_true' hM h5
    refine tr_condTe (e := decide (s1.2.2 < (s1.1.length : Int))) h5 (by kernel_rfl) ?_
    refine tr_skip (q_n ?_)
    refine tr_seq ?_
    refine tr_block ?_
    obtain ⟨y6, hy6, hM⟩ := bind_some' hM
    have hy6' := idx_some hy6
    refine Tr.by (imp_rowOut (r := 0) (q := 700012) (i := s1.2.2) (xs := s1.1) (e := (eS eI)) (eS_ok (eS_ok eI_ok)) hy6'.2.2 (by kernel_rfl) (by kernel_rfl)) ?_
    obtain ⟨v7, hv7, hM⟩ := bind_some' hM
    refine tr_r hT hm [(3, .val (.rs 700012 0 y6.length)), (5, .call [] [(0, 700012)] [.rs 0 0 y6.length, iv s1.2.1] [(0, .arr 1 (v7.2.flatMap (eS eI).o) [])] (iv v7.1))] [0, 1, 2, 10, 1400025] [(0, .d (.rs 0 0 s1.1.length)), (1, .r (.arr 1 ((s1.1.flatMap (eS (eS eI)).o).set (0 + s1.2.2.toNat * 1) (.rs 700012 0 y6.length)) [700012])), (2, .d (iv v7.1)), (10, .d (iv s1.2.2)), (1400025, .r (.arr 1 (v7.2.flatMap (eS eI).o) []))] (.cons hy6'.1 (.cons hy6'.2.1 (.cons (set_at (d := .rs 700012 0 y6.length) (lt_flat (eS_ok (eS_ok eI_ok)) (by kernel_rfl) hy6'.2.2)) (cc (B := []) (ρ := [(0, 700012)]) (rB := []) ok42 (laws_markInt64SS_c y6 s1.2.1 _ hv7) (.cons (.pass (.rs rfl)) (.cons (.same rfl) .nil)) (.inl rfl) .nil)))) (by kernel_rfl) (by kernel_rfl) (b_n (q_n ?_))
    refine Tr.by (imp_rowBack (r := 0) (q := 700012) (n := y6.length) (i := s1.2.2) (xs := s1.1) (e := (eS eI)) (x' := v7.2) (eS_ok eI_ok) hy6'.2.2 (M.len_markInt64SS hv7) (by kernel_rfl) (by kernel_rfl) (by kernel_rfl)) ?_
    refine Tr.by (imp_cvD (k := 0) (congrArg (D.rs 0 0) (List.length_set.symm : s1.1.length = (s1.1.set s1.2.2.toNat v7.2).length)) (by kernel_rfl)) ?_
    refine tr_r hT hm [] [0, 1, 2, 10] [(0, .d (.rs 0 0 ((s1.1.set s1.2.2.toNat v7.2).length))), (1, .r (.arr 1 ((s1.1.set s1.2.2.toNat v7.2).flatMap (eS (eS eI)).o) [])), (2, .d (iv v7.1)), (10, .d (iv (IntKind.i64.wrap (s1.2.2 + 1))))] .nil (by kernel_rfl) (by kernel_rfl) (l_n ?_)
    exact trl_start (ks := [0, 1, 2, 10]) (by kernel_rfl) (ih3 (s1.1.set s1.2.2.toNat v7.2, v7.1, IntKind.i64.wrap (s1.2.2 + 1)) hM)
  · have hM := ite_false' hM h5
    refine tr_condFe (e := decide (s1.2.2 < (s1.1.length : Int))) h5 (by kernel_rfl) ?_
    refine tr_exit (q_x (l_x (b_h (q_n ?_))))
    refine tr_sr hT hm [] [1, 8] [(1, .r (.arr 1 (s1.1.flatMap (eS (eS eI)).o) [])), (8, .d (iv s1.2.1))] .nil (by kernel_rfl) (by kernel_rfl) ?_
    refine tr_ret (rg_r ?_)
    obtain rfl := Option.some.inj hM
    exact retg (names := [0]) .nil (by kernel_rfl)

theorem ok27 : CallOk Try.prog 27 := callOk_of Try.func27 (by kernel_rfl) (by kernel_rfl)
theorem laws_markProfunctor_c (a0 : XProfunctor) (a1 : Int) (r : Int × XProfunctor) (hM : M.laws_markProfunctor a0 a1 = some r) :
    FnC Try.prog 27 [(101, .arr 1 (a0.Source.From.flatMap eI.o) []), (102, .arr 1 (a0.Source.To.flatMap eI.o) []), (103, .arr 1 (a0.Source.Identity.flatMap eI.o) []), (104, .arr 1 (a0.Source.Composites.flatMap (eS eI).o) []), (106, .arr 1 (a0.Target.From.flatMap eI.o) []), (107, .arr 1 (a0.Target.To.flatMap eI.o) []), (108, .arr 1 (a0.Target.Identity.flatMap eI.o) []), (109, .arr 1 (a0.Target.Composites.flatMap (eS eI).o) []), (110, .arr 1 (a0.Sizes.flatMap (eS eI).o) []), (111, .arr 1 (a0.Before.flatMap (eS (eS eI)).o) []), (112, .arr 1 (a0.Behind.flatMap (eS (eS eI)).o) [])] [.agg [iv a0.Source.Objects, .rs 101 0 a0.Source.From.length, .rs 102 0 a0.Source.To.length, .rs 103 0 a0.Source.Identity.length, .rs 104 0 a0.Source.Composites.length, iv a0.Target.Objects, .rs 106 0 a0.Target.From.length, .rs 107 0 a0.Target.To.length, .rs 108 0 a0.Target.Identity.length, .rs 109 0 a0.Target.Composites.length, .rs 110 0 a0.Sizes.length, .rs 111 0 a0.Before.length, .rs 112 0 a0.Behind.length], iv a1] [(101, .arr 1 (r.2.Source.From.flatMap eI.o) []), (102, .arr 1 (r.2.Source.To.flatMap eI.o) []), (103, .arr 1 (r.2.Source.Identity.flatMap eI.o) []), (104, .arr 1 (r.2.Source.Composites.flatMap (eS eI).o) []), (106, .arr 1 (r.2.Target.From.flatMap eI.o) []), (107, .arr 1 (r.2.Target.To.flatMap eI.o) []), (108, .arr 1 (r.2.Target.Identity.flatMap eI.o) []), (109, .arr 1 (r.2.Target.Composites.flatMap (eS eI).o) []), (110, .arr 1 (r.2.Sizes.flatMap (eS eI).o) []), (111, .arr 1 (r.2.Before.flatMap (eS (eS eI)).o) []), (112, .arr 1 (r.2.Behind.flatMap (eS (eS eI)).o) [])] (iv r.1) := by
  refine fnc_startG (N := 26) (np := 500) hT Try.func27 rfl rfl (by kernel_rfl) ?_
  unfold M.laws_markProfunctor at hM
  refine tr_start (ks := [0, 2, 203, 205, 207, 209, 213, 215, 217, 219, 221, 223, 225]) (st' := ([(0, .d (.agg (rsC 100 (eXProfunctor.o a0)))), (2, .d (iv a1))] ++ rsS 100 (eXProfunctor.o a0))) (by kernel_rfl) ?_
  refine tr_sr hT hm [] [2, 4, 203, 205, 207, 209, 213, 215, 217, 219, 221, 223, 225, 2005] ([(2, .d (iv a1)), (4, .d (.rp 1002 0))] ++ rsS 100 (eXProfunctor.o a0) ++ [bxO 2005 100 (eXProfunctor.o a0)]) .nil (by kernel_rfl) (by kernel_rfl) ?_
  obtain ⟨v1, hv1, hM⟩ := bind_some' hM
  refine tr_sr hT hm [(3, .call [] [(101, 101), (102, 102), (103, 103), (104, 104)] [.agg [iv a0.Source.Objects, .rs 101 0 a0.Source.From.length, .rs 102 0 a0.Source.To.length, .rs 103 0 a0.Source.Identity.length, .rs 104 0 a0.Source.Composites.length], iv a1] [(101, .arr 1 (v1.2.From.flatMap eI.o) []), (102, .arr 1 (v1.2.To.flatMap eI.o) []), (103, .arr 1 (v1.2.Identity.flatMap eI.o) []), (104, .arr 1 (v1.2.Composites.flatMap (eS eI).o) [])] (iv v1.1))] [2, 4, 203, 205, 207, 209, 213, 215, 217, 219, 221, 223, 225, 2005] ([(2, .d (iv v1.1)), (4, .d (.rp 1002 0)), (203, .r (.arr 1 (v1.2.From.flatMap eI.o) [])), (205, .r (.arr 1 (v1.2.To.flatMap eI.o) [])), (207, .r (.arr 1 (v1.2.Identity.flatMap eI.o) [])), (209, .r (.arr 1 (v1.2.Composites.flatMap (eS eI).o) []))] ++ rsS 105 (eXCategory.o a0.Target) ++ [(221, .r (.arr 1 (a0.Sizes.flatMap (eS eI).o) [])), (223, .r (.arr 1 (a0.Before.flatMap (eS (eS eI)).o) [])), (225, .r (.arr 1 (a0.Behind.flatMap (eS (eS eI)).o) [])), bxO 2005 100 (eXProfunctor.o a0)]) (cc (B := []) (ρ := [(101, 101), (102, 102), (103, 103), (104, 104)]) (rB := []) ok34 (laws_markCategory_c a0.Source a1 _ hv1) (.cons (.aggA (.cons (.same rfl) (.cons (.pass (.rs rfl)) (.cons (.pass (.rs rfl)) (.cons (.pass (.rs rfl)) (.cons (.pass (.rs rfl)) .nil)))))) (.cons (.same rfl) .nil)) (.inl rfl) .nil) (by kernel_rfl) (by kernel_rfl) ?_
  refine Tr.by (imp_cvB (r := 1002) (sz := 1) (cells := [iv a0.Source.Objects, .rs 101 0 a0.Source.From.length, .rs 102 0 a0.Source.To.length, .rs 103 0 a0.Source.Identity.length, .rs 104 0 a0.Source.Composites.length, iv a0.Target.Objects, .rs 106 0 a0.Target.From.length, .rs 107 0 a0.Target.To.length, .rs 108 0 a0.Target.Identity.length, .rs 109 0 a0.Target.Composites.length, .rs 110 0 a0.Sizes.length, .rs 111 0 a0.Before.length, .rs 112 0 a0.Behind.length]) (cells' := [iv a0.Source.Objects, .rs 101 0 v1.2.From.length, .rs 102 0 a0.Source.To.length, .rs 103 0 a0.Source.Identity.length, .rs 104 0 a0.Source.Composites.length, iv a0.Target.Objects, .rs 106 0 a0.Target.From.length, .rs 107 0 a0.Target.To.length, .rs 108 0 a0.Target.Identity.length, .rs 109 0 a0.Target.Composites.length, .rs 110 0 a0.Sizes.length, .rs 111 0 a0.Before.length, .rs 112 0 a0.Behind.length]) (refs := [101, 102, 103, 104, 106, 107, 108, 109, 110, 111, 112]) (refs' := [101, 102, 103, 104, 106, 107, 108, 109, 110, 111, 112]) (.cons (.refl _) (.cons (Sub.of_eq (congrArg (D.rs 101 0) ((M.len_markCategory hv1).2.1 : a0.Source.From.length = v1.2.From.length))) (.cons (.refl _) (.cons (.refl _) (.cons (.refl _) (.cons (.refl _) (.cons (.refl _) (.cons (.refl _) (.cons (.refl _) (.cons (.refl _) (.cons (.refl _) (.cons (.refl _) (.cons (.refl _) .nil))))))))))))) (by kernel_rfl) (by kernel_rfl) (by kernel_rfl)) ?_
  refine Tr.by (imp_cvB (r := 1002) (sz := 1) (cells := [iv a0.Source.Objects, .rs 101 0 v1.2.From.length, .rs 102 0 a0.Source.To.length, .rs 103 0 a0.Source.Identity.length, .rs 104 0 a0.Source.Composites.length, iv a0.Target.Objects, .rs 106 0 a0.Target.From.length, .rs 107 0 a0.Target.To.length, .rs 108 0 a0.Target.Identity.length, .rs 109 0 a0.Target.Composites.length, .rs 110 0 a0.Sizes.length, .rs 111 0 a0.Before.length, .rs 112 0 a0.Behind.length]) (cells' := [iv a0.Source.Objects, .rs 101 0 v1.2.From.length, .rs 102 0 v1.2.To.length, .rs 103 0 a0.Source.Identity.length, .rs 104 0 a0.Source.Composites.length, iv a0.Target.Objects, .rs 106 0 a0.Target.From.length, .rs 107 0 a0.Target.To.length, .rs 108 0 a0.Target.Identity.length, .rs 109 0 a0.Target.Composites.length, .rs 110 0 a0.Sizes.length, .rs 111 0 a0.Before.length, .rs 112 0 a0.Behind.length]) (refs := [101, 102, 103, 104, 106, 107, 108, 109, 110, 111, 112]) (refs' := [101, 102, 103, 104, 106, 107, 108, 109, 110, 111, 112]) (.cons (.refl _) (.cons (.refl _) (.cons (Sub.of_eq (congrArg (D.rs 102 0) ((M.len_markCategory hv1).2.2.1 : a0.Source.To.length = v1.2.To.length))) (.cons (.refl _) (.cons (.refl _) (.cons (.refl _) (.cons (.refl _) (.cons (.refl _) (.cons (.refl _) (.cons (.refl _) (.cons (.refl _) (.cons (.refl _) (.cons (.refl _) .nil))))))))))))) (by kernel_rfl) (by kernel_rfl) (by kernel_rfl)) ?_
  refine Tr.by (imp_cvB (r := 1002) (sz := 1) (cells := [iv a0.Source.Objects, .rs 101 0 v1.2.From.length, .rs 102 0 v1.2.To.length, .rs 103 0 a0.Source.Identity.length, .rs 104 0 a0.Source.Composites.length, iv a0.Target.Objects, .rs 106 0 a0.Target.From.length, .rs 107 0 a0.Target.To.length, .rs 108 0 a0.Target.Identity.length, .rs 109 0 a0.Target.Composites.length, .rs 110 0 a0.Sizes.length, .rs 111 0 a0.Before.length, .rs 112 0 a0.Behind.length]) (cells' := [iv a0.Source.Objects, .rs 101 0 v1.2.From.length, .rs 102 0 v1.2.To.length, .rs 103 0 v1.2.Identity.length, .rs 104 0 a0.Source.Composites.length, iv a0.Target.Objects, .rs 106 0 a0.Target.From.length, .rs 107 0 a0.Target.To.length, .rs 108 0 a0.Target.Identity.length, .rs 109 0 a0.Target.Composites.length, .rs 110 0 a0.Sizes.length, .rs 111 0 a0.Before.length, .rs 112 0 a0.Behind.length]) (refs := [101, 102, 103, 104, 106, 107, 108, 109, 110, 111, 112]) (refs' := [101, 102, 103, 104, 106, 107, 108, 109, 110, 111, 112]) (.cons (.refl _) (.cons (.refl _) (.cons (.refl _) (.cons (Sub.of_eq (congrArg (D.rs 103 0) ((M.len_markCategory hv1).2.2.2.1 : a0.Source.Identity.length = v1.2.Identity.length))) (.cons (.refl _) (.cons (.refl _) (.cons (.refl _) (.cons (.refl _) (.cons (.refl _) (.cons (.refl _) (.cons (.refl _) (.cons (.refl _) (.cons (.refl _) .nil))))))))))))) (by kernel_rfl) (by kernel_rfl) (by kernel_rfl)) ?_
  refine Tr.by (imp_cvB (r := 1002) (sz := 1) (cells := [iv a0.Source.Objects, .rs 101 0 v1.2.From.length, .rs 102 0 v1.2.To.length, .rs 103 0 v1.2.Identity.length, .rs 104 0 a0.Source.Composites.length, iv a0.Target.Objects, .rs 106 0 a0.Target.From.length, .rs 107 0 a0.Target.To.length, .rs 108 0 a0.Target.Identity.length, .rs 109 0 a0.Target.Composites.length, .rs 110 0 a0.Sizes.length, .rs 111 0 a0.Before.length, .rs 112 0 a0.Behind.length]) (cells' := [iv a0.Source.Objects, .rs 101 0 v1.2.From.length, .rs 102 0 v1.2.To.length, .rs 103 0 v1.2.Identity.length, .rs 104 0 v1.2.Composites.length, iv a0.Target.Objects, .rs 106 0 a0.Target.From.length, .rs 107 0 a0.Target.To.length, .rs 108 0 a0.Target.Identity.length, .rs 109 0 a0.Target.Composites.length, .rs 110 0 a0.Sizes.length, .rs 111 0 a0.Before.length, .rs 112 0 a0.Behind.length]) (refs := [101, 102, 103, 104, 106, 107, 108, 109, 110, 111, 112]) (refs' := [101, 102, 103, 104, 106, 107, 108, 109, 110, 111, 112]) (.cons (.refl _) (.cons (.refl _) (.cons (.refl _) (.cons (.refl _) (.cons (Sub.of_eq (congrArg (D.rs 104 0) ((M.len_markCategory hv1).2.2.2.2 : a0.Source.Composites.length = v1.2.Composites.length))) (.cons (.refl _) (.cons (.refl _) (.cons (.refl _) (.cons (.refl _) (.cons (.refl _) (.cons (.refl _) (.cons (.refl _) (.cons (.refl _) .nil))))))))))))) (by kernel_rfl) (by kernel_rfl) (by kernel_rfl)) ?_
  obtain ⟨v2, hv2, hM⟩ := bind_some' hM
  refine tr_sr hT hm [(3, .call [] [(101, 106), (102, 107), (103, 108), (104, 109)] [.agg [iv a0.Target.Objects, .rs 101 0 a0.Target.From.length, .rs 102 0 a0.Target.To.length, .rs 103 0 a0.Target.Identity.length, .rs 104 0 a0.Target.Composites.length], iv v1.1] [(101, .arr 1 (v2.2.From.flatMap eI.o) []), (102, .arr 1 (v2.2.To.flatMap eI.o) []), (103, .arr 1 (v2.2.Identity.flatMap eI.o) []), (104, .arr 1 (v2.2.Composites.flatMap (eS eI).o) [])] (iv v2.1))] [2, 4, 203, 205, 207, 209, 213, 215, 217, 219, 221, 223, 225, 2005] [(2, .d (iv v2.1)), (4, .d (.rp 1002 0)), (203, .r (.arr 1 (v1.2.From.flatMap eI.o) [])), (205, .r (.arr 1 (v1.2.To.flatMap eI.o) [])), (207, .r (.arr 1 (v1.2.Identity.flatMap eI.o) [])), (209, .r (.arr 1 (v1.2.Composites.flatMap (eS eI).o) [])), (213, .r (.arr 1 (v2.2.From.flatMap eI.o) [])), (215, .r (.arr 1 (v2.2.To.flatMap eI.o) [])), (217, .r (.arr 1 (v2.2.Identity.flatMap eI.o) [])), (219, .r (.arr 1 (v2.2.Composites.flatMap (eS eI).o) [])), (221, .r (.arr 1 (a0.Sizes.flatMap (eS eI).o) [])), (223, .r (.arr 1 (a0.Before.flatMap (eS (eS eI)).o) [])), (225, .r (.arr 1 (a0.Behind.flatMap (eS (eS eI)).o) [])), (2005, .r (.arr 1 [iv a0.Source.Objects, .rs 101 0 v1.2.From.length, .rs 102 0 v1.2.To.length, .rs 103 0 v1.2.Identity.length, .rs 104 0 v1.2.Composites.length, iv a0.Target.Objects, .rs 106 0 a0.Target.From.length, .rs 107 0 a0.Target.To.length, .rs 108 0 a0.Target.Identity.length, .rs 109 0 a0.Target.Composites.length, .rs 110 0 a0.Sizes.length, .rs 111 0 a0.Before.length, .rs 112 0 a0.Behind.length] [101, 102, 103, 104, 106, 107, 108, 109, 110, 111, 112]))] (cc (B := []) (ρ := [(101, 106), (102, 107), (103, 108), (104, 109)]) (rB := []) ok34 (laws_markCategory_c a0.Target v1.1 _ hv2) (.cons (.aggA (.cons (.same rfl) (.cons (.pass (.rs rfl)) (.cons (.pass (.rs rfl)) (.cons (.pass (.rs rfl)) (.cons (.pass (.rs rfl)) .nil)))))) (.cons (.same rfl) .nil)) (.inl rfl) .nil) (by kernel_rfl) (by kernel_rfl) ?_
  refine Tr.by (imp_cvB (r := 1002) (sz := 1) (cells := [iv a0.Source.Objects, .rs 101 0 v1.2.From.length, .rs 102 0 v1.2.To.length, .rs 103 0 v1.2.Identity.length, .rs 104 0 v1.2.Composites.length, iv a0.Target.Objects, .rs 106 0 a0.Target.From.length, .rs 107 0 a0.Target.To.length, .rs 108 0 a0.Target.Identity.length, .rs 109 0 a0.Target.Composites.length, .rs 110 0 a0.Sizes.length, .rs 111 0 a0.Before.length, .rs 112 0 a0.Behind.length]) (cells' := [iv a0.Source.Objects, .rs 101 0 v1.2.From.length, .rs 102 0 v1.2.To.length, .rs 103 0 v1.2.Identity.length, .rs 104 0 v1.2.Composites.length, iv a0.Target.Objects, .rs 106 0 v2.2.From.length, .rs 107 0 a0.Target.To.length, .rs 108 0 a0.Target.Identity.length, .rs 109 0 a0.Target.Composites.length, .rs 110 0 a0.Sizes.length, .rs 111 0 a0.Before.length, .rs 112 0 a0.Behind.length]) (refs := [101, 102, 103, 104, 106, 107, 108, 109, 110, 111, 112]) (refs' := [101, 102, 103, 104, 106, 107, 108, 109, 110, 111, 112]) (.cons (.refl _) (.cons (.refl _) (.cons (.refl _) (.cons (.refl _) (.cons (.refl _) (.cons (.refl _) (.cons (Sub.of_eq (congrArg (D.rs 106 0) ((M.len_markCategory hv2).2.1 : a0.Target.From.length = v2.2.From.length))) (.cons (.refl _) (.cons (.refl _) (.cons (.refl _) (.cons (.refl _) (.cons (.refl _) (.cons (.refl _) .nil))))))))))))) (by kernel_rfl) (by kernel_rfl) (by kernel_rfl)) ?_
  refine Tr.by (imp_cvB (r := 1002) (sz := 1) (cells := [iv a0.Source.Objects, .rs 101 0 v1.2.From.length, .rs 102 0 v1.2.To.length, .rs 103 0 v1.2.Identity.length, .rs 104 0 v1.2.Composites.length, iv a0.Target.Objects, .rs 106 0 v2.2.From.length, .rs 107 0 a0.Target.To.length, .rs 108 0 a0.Target.Identity.length, .rs 109 0 a0.Target.Composites.length, .rs 110 0 a0.Sizes.length, .rs 111 0 a0.Before.length, .rs 112 0 a0.Behind.length]) (cells' := [iv a0.Source.Objects, .rs 101 0 v1.2.From.length, .rs 102 0 v1.2.To.length, .rs 103 0 v1.2.Identity.length, .rs 104 0 v1.2.Composites.length, iv a0.Target.Objects, .rs 106 0 v2.2.From.length, .rs 107 0 v2.2.To.length, .rs 108 0 a0.Target.Identity.length, .rs 109 0 a0.Target.Composites.length, .rs 110 0 a0.Sizes.length, .rs 111 0 a0.Before.length, .rs 112 0 a0.Behind.length]) (refs := [101, 102, 103, 104, 106, 107, 108, 109, 110, 111, 112]) (refs' := [101, 102, 103, 104, 106, 107, 108, 109, 110, 111, 112]) (.cons (.refl _) (.cons (.refl _) (.cons (.refl _) (.cons (.refl _) (.cons (.refl _) (.cons (.refl _) (.cons (.refl _) (.cons (Sub.of_eq (congrArg (D.rs 107 0) ((M.len_markCategory hv2).2.2.1 : a0.Target.To.length = v2.2.To.length))) (.cons (.refl _) (.cons (.refl _) (.cons (.refl _) (.cons (.refl _) (.cons (.refl _) .nil))))))))))))) (by kernel_rfl) (by kernel_rfl) (by kernel_rfl)) ?_
  refine Tr.by (imp_cvB (r := 1002) (sz := 1) (cells := [iv a0.Source.Objects, .rs 101 0 v1.2.From.length, .rs 102 0 v1.2.To.length, .rs 103 0 v1.2.Identity.length, .rs 104 0 v1.2.Composites.length, iv a0.Target.Objects, .rs 106 0 v2.2.From.length, .rs 107 0 v2.2.To.length, .rs 108 0 a0.Target.Identity.length, .rs 109 0 a0.Target.Composites.length, .rs 110 0 a0.Sizes.length, .rs 111 0 a0.Before.length, .rs 112 0 a0.Behind.length]) (cells' := [iv a0.Source.Objects, .rs 101 0 v1.2.From.length, .rs 102 0 v1.2.To.length, .rs 103 0 v1.2.Identity.length, .rs 104 0 v1.2.Composites.length, iv a0.Target.Objects, .rs 106 0 v2.2.From.length, .rs 107 0 v2.2.To.length, .rs 108 0 v2.2.Identity.length, .rs 109 0 a0.Target.Composites.length, .rs 110 0 a0.Sizes.length, .rs 111 0 a0.Before.length, .rs 112 0 a0.Behind.length]) (refs := [101, 102, 103, 104, 106, 107, 108, 109, 110, 111, 112]) (refs' := [101, 102, 103, 104, 106, 107, 108, 109, 110, 111, 112]) (.cons (.refl _) (.cons (.refl _) (.cons (.refl _) (.cons (.refl _) (.cons (.refl _) (.cons (.refl _) (.cons (.refl _) (.cons (.refl _) (.cons (Sub.of_eq (congrArg (D.rs 108 0) ((M.len_markCategory hv2).2.2.2.1 : a0.Target.Identity.length = v2.2.Identity.length))) (.cons (.refl _) (.cons (.refl _) (.cons (.refl _) (.cons (.refl _) .nil))))))))))))) (by kernel_rfl) (by kernel_rfl) (by kernel_rfl)) ?_
  refine Tr.by (imp_cvB (r := 1002) (sz := 1) (cells := [iv a0.Source.Objects, .rs 101 0 v1.2.From.length, .rs 102 0 v1.2.To.length, .rs 103 0 v1.2.Identity.length, .rs 104 0 v1.2.Composites.length, iv a0.Target.Objects, .rs 106 0 v2.2.From.length, .rs 107 0 v2.2.To.length, .rs 108 0 v2.2.Identity.length, .rs 109 0 a0.Target.Composites.length, .rs 110 0 a0.Sizes.length, .rs 111 0 a0.Before.length, .rs 112 0 a0.Behind.length]) (cells' := [iv a0.Source.Objects, .rs 101 0 v1.2.From.length, .rs 102 0 v1.2.To.length, .rs 103 0 v1.2.Identity.length, .rs 104 0 v1.2.Composites.length, iv a0.Target.Objects, .rs 106 0 v2.2.From.length, .rs 107 0 v2.2.To.length, .rs 108 0 v2.2.Identity.length, .rs 109 0 v2.2.Composites.length, .rs 110 0 a0.Sizes.length, .rs 111 0 a0.Before.length, .rs 112 0 a0.Behind.length]) (refs := [101, 102, 103, 104, 106, 107, 108, 109, 110, 111, 112]) (refs' := [101, 102, 103, 104, 106, 107, 108, 109, 110, 111, 112]) (.cons (.refl _) (.cons (.refl _) (.cons (.refl _) (.cons (.refl _) (.cons (.refl _) (.cons (.refl _) (.cons (.refl _) (.cons (.refl _) (.cons (.refl _) (.cons (Sub.of_eq (congrArg (D.rs 109 0) ((M.len_markCategory hv2).2.2.2.2 : a0.Target.Composites.length = v2.2.Composites.length))) (.cons (.refl _) (.cons (.refl _) (.cons (.refl _) .nil))))))))))))) (by kernel_rfl) (by kernel_rfl) (by kernel_rfl)) ?_
  obtain ⟨v3, hv3, hM⟩ := bind_some' hM
  refine tr_sr hT hm [(3, .call [] [(0, 110)] [.rs 0 0 a0.Sizes.length, iv v2.1] [(0, .arr 1 (v3.2.flatMap (eS eI).o) [])] (iv v3.1))] [2, 4, 203, 205, 207, 209, 213, 215, 217, 219, 221, 223, 225, 2005] [(2, .d (iv v3.1)), (4, .d (.rp 1002 0)), (203, .r (.arr 1 (v1.2.From.flatMap eI.o) [])), (205, .r (.arr 1 (v1.2.To.flatMap eI.o) [])), (207, .r (.arr 1 (v1.2.Identity.flatMap eI.o) [])), (209, .r (.arr 1 (v1.2.Composites.flatMap (eS eI).o) [])), (213, .r (.arr 1 (v2.2.From.flatMap eI.o) [])), (215, .r (.arr 1 (v2.2.To.flatMap eI.o) [])), (217, .r (.arr 1 (v2.2.Identity.flatMap eI.o) [])), (219, .r (.arr 1 (v2.2.Composites.flatMap (eS eI).o) [])), (221, .r (.arr 1 (v3.2.flatMap (eS eI).o) [])), (223, .r (.arr 1 (a0.Before.flatMap (eS (eS eI)).o) [])), (225, .r (.arr 1 (a0.Behind.flatMap (eS (eS eI)).o) [])), (2005, .r (.arr 1 [iv a0.Source.Objects, .rs 101 0 v1.2.From.length, .rs 102 0 v1.2.To.length, .rs 103 0 v1.2.Identity.length, .rs 104 0 v1.2.Composites.length, iv a0.Target.Objects, .rs 106 0 v2.2.From.length, .rs 107 0 v2.2.To.length, .rs 108 0 v2.2.Identity.length, .rs 109 0 v2.2.Composites.length, .rs 110 0 a0.Sizes.length, .rs 111 0 a0.Before.length, .rs 112 0 a0.Behind.length] [101, 102, 103, 104, 106, 107, 108, 109, 110, 111, 112]))] (cc (B := []) (ρ := [(0, 110)]) (rB := []) ok42 (laws_markInt64SS_c a0.Sizes v2.1 _ hv3) (.cons (.pass (.rs rfl)) (.cons (.same rfl) .nil)) (.inl rfl) .nil) (by kernel_rfl) (by kernel_rfl) ?_
  refine Tr.by (imp_cvB (r := 1002) (sz := 1) (cells := [iv a0.Source.Objects, .rs 101 0 v1.2.From.length, .rs 102 0 v1.2.To.length, .rs 103 0 v1.2.Identity.length, .rs 104 0 v1.2.Composites.length, iv a0.Target.Objects, .rs 106 0 v2.2.From.length, .rs 107 0 v2.2.To.length, .rs 108 0 v2.2.Identity.length, .rs 109 0 v2.2.Composites.length, .rs 110 0 a0.Sizes.length, .rs 111 0 a0.Before.length, .rs 112 0 a0.Behind.length]) (cells' := [iv a0.Source.Objects, .rs 101 0 v1.2.From.length, .rs 102 0 v1.2.To.length, .rs 103 0 v1.2.Identity.length, .rs 104 0 v1.2.Composites.length, iv a0.Target.Objects, .rs 106 0 v2.2.From.length, .rs 107 0 v2.2.To.length, .rs 108 0 v2.2.Identity.length, .rs 109 0 v2.2.Composites.length, .rs 110 0 v3.2.length, .rs 111 0 a0.Before.length, .rs 112 0 a0.Behind.length]) (refs := [101, 102, 103, 104, 106, 107, 108, 109, 110, 111, 112]) (refs' := [101, 102, 103, 104, 106, 107, 108, 109, 110, 111, 112]) (.cons (.refl _) (.cons (.refl _) (.cons (.refl _) (.cons (.refl _) (.cons (.refl _) (.cons (.refl _) (.cons (.refl _) (.cons (.refl _) (.cons (.refl _) (.cons (.refl _) (.cons (Sub.of_eq (congrArg (D.rs 110 0) ((M.len_markInt64SS hv3) : a0.Sizes.length = v3.2.length))) (.cons (.refl _) (.cons (.refl _) .nil))))))))))))) (by kernel_rfl) (by kernel_rfl) (by kernel_rfl)) ?_
  obtain ⟨v4, hv4, hM⟩ := bind_some' hM
  refine tr_sr hT hm [(3, .call [] [(0, 111)] [.rs 0 0 a0.Before.length, iv v3.1] [(0, .arr 1 (v4.2.flatMap (eS (eS eI)).o) [])] (iv v4.1))] [2, 4, 203, 205, 207, 209, 213, 215, 217, 219, 221, 223, 225, 2005] [(2, .d (iv v4.1)), (4, .d (.rp 1002 0)), (203, .r (.arr 1 (v1.2.From.flatMap eI.o) [])), (205, .r (.arr 1 (v1.2.To.flatMap eI.o) [])), (207, .r (.arr 1 (v1.2.Identity.flatMap eI.o) [])), (209, .r (.arr 1 (v1.2.Composites.flatMap (eS eI).o) [])), (213, .r (.arr 1 (v2.2.From.flatMap eI.o) [])), (215, .r (.arr 1 (v2.2.To.flatMap eI.o) [])), (217, .r (.arr 1 (v2.2.Identity.flatMap eI.o) [])), (219, .r (.arr 1 (v2.2.Composites.flatMap (eS eI).o) [])), (221, .r (.arr 1 (v3.2.flatMap (eS eI).o) [])), (223, .r (.arr 1 (v4.2.flatMap (eS (eS eI)).o) [])), (225, .r (.arr 1 (a0.Behind.flatMap (eS (eS eI)).o) [])), (2005, .r (.arr 1 [iv a0.Source.Objects, .rs 101 0 v1.2.From.length, .rs 102 0 v1.2.To.length, .rs 103 0 v1.2.Identity.length, .rs 104 0 v1.2.Composites.length, iv a0.Target.Objects, .rs 106 0 v2.2.From.length, .rs 107 0 v2.2.To.length, .rs 108 0 v2.2.Identity.length, .rs 109 0 v2.2.Composites.length, .rs 110 0 v3.2.length, .rs 111 0 a0.Before.length, .rs 112 0 a0.Behind.length] [101, 102, 103, 104, 106, 107, 108, 109, 110, 111, 112]))] (cc (B := []) (ρ := [(0, 111)]) (rB := []) ok86 (laws_markInt64SSS_c a0.Before v3.1 _ hv4) (.cons (.pass (.rs rfl)) (.cons (.same rfl) .nil)) (.inl rfl) .nil) (by kernel_rfl) (by kernel_rfl) ?_
  refine Tr.by (imp_cvB (r := 1002) (sz := 1) (cells := [iv a0.Source.Objects, .rs 101 0 v1.2.From.length, .rs 102 0 v1.2.To.length, .rs 103 0 v1.2.Identity.length, .rs 104 0 v1.2.Composites.length, iv a0.Target.Objects, .rs 106 0 v2.2.From.length, .rs 107 0 v2.2.To.length, .rs 108 0 v2.2.Identity.length, .rs 109 0 v2.2.Composites.length, .rs 110 0 v3.2.length, .rs 111 0 a0.Before.length, .rs 112 0 a0.Behind.length]) (cells' := [iv a0.Source.Objects, .rs 101 0 v1.2.From.length, .rs 102 0 v1.2.To.length, .rs 103 0 v1.2.Identity.length, .rs 104 0 v1.2.Composites.length, iv a0.Target.Objects, .rs 106 0 v2.2.From.length, .rs 107 0 v2.2.To.length, .rs 108 0 v2.2.Identity.length, .rs 109 0 v2.2.Composites.length, .rs 110 0 v3.2.length, .rs 111 0 v4.2.length, .rs 112 0 a0.Behind.length]) (refs := [101, 102, 103, 104, 106, 107, 108, 109, 110, 111, 112]) (refs' := [101, 102, 103, 104, 106, 107, 108, 109, 110, 111, 112]) (.cons (.refl _) (.cons (.refl _) (.cons (.refl _) (.cons (.refl _) (.cons (.refl _) (.cons (.refl _) (.cons (.refl _) (.cons (.refl _) (.cons (.refl _) (.cons (.refl _) (.cons (.refl _) (.cons (Sub.of_eq (congrArg (D.rs 111 0) ((M.len_markInt64SSS hv4) : a0.Before.length = v4.2.length))) (.cons (.refl _) .nil))))))))))))) (by kernel_rfl) (by kernel_rfl) (by kernel_rfl)) ?_
  obtain ⟨v5, hv5, hM⟩ := bind_some' hM
  refine tr_sr hT hm [(3, .call [] [(0, 112)] [.rs 0 0 a0.Behind.length, iv v4.1] [(0, .arr 1 (v5.2.flatMap (eS (eS eI)).o) [])] (iv v5.1))] [2, 203, 205, 207, 209, 213, 215, 217, 219, 221, 223, 225] [(2, .d (iv v5.1)), (203, .r (.arr 1 (v1.2.From.flatMap eI.o) [])), (205, .r (.arr 1 (v1.2.To.flatMap eI.o) [])), (207, .r (.arr 1 (v1.2.Identity.flatMap eI.o) [])), (209, .r (.arr 1 (v1.2.Composites.flatMap (eS eI).o) [])), (213, .r (.arr 1 (v2.2.From.flatMap eI.o) [])), (215, .r (.arr 1 (v2.2.To.flatMap eI.o) [])), (217, .r (.arr 1 (v2.2.Identity.flatMap eI.o) [])), (219, .r (.arr 1 (v2.2.Composites.flatMap (eS eI).o) [])), (221, .r (.arr 1 (v3.2.flatMap (eS eI).o) [])), (223, .r (.arr 1 (v4.2.flatMap (eS (eS eI)).o) [])), (225, .r (.arr 1 (v5.2.flatMap (eS (eS eI)).o) []))] (cc (B := []) (ρ := [(0, 112)]) (rB := []) ok86 (laws_markInt64SSS_c a0.Behind v4.1 _ hv5) (.cons (.pass (.rs rfl)) (.cons (.same rfl) .nil)) (.inl rfl) .nil) (by kernel_rfl) (by kernel_rfl) ?_
  refine tr_sr hT hm [] [8, 203, 205, 207, 209, 213, 215, 217, 219, 221, 223, 225] [(8, .d (iv v5.1)), (203, .r (.arr 1 (v1.2.From.flatMap eI.o) [])), (205, .r (.arr 1 (v1.2.To.flatMap eI.o) [])), (207, .r (.arr 1 (v1.2.Identity.flatMap eI.o) [])), (209, .r (.arr 1 (v1.2.Composites.flatMap (eS eI).o) [])), (213, .r (.arr 1 (v2.2.From.flatMap eI.o) [])), (215, .r (.arr 1 (v2.2.To.flatMap eI.o) [])), (217, .r (.arr 1 (v2.2.Identity.flatMap eI.o) [])), (219, .r (.arr 1 (v2.2.Composites.flatMap (eS eI).o) [])), (221, .r (.arr 1 (v3.2.flatMap (eS eI).o) [])), (223, .r (.arr 1 (v4.2.flatMap (eS (eS eI)).o) [])), (225, .r (.arr 1 (v5.2.flatMap (eS (eS eI)).o) []))] .nil (by kernel_rfl) (by kernel_rfl) ?_
  refine tr_ret (rg_r ?_)
  obtain rfl := Option.some.inj hM
  exact retg (names := [101, 102, 103, 104, 106, 107, 108, 109, 110, 111, 112]) .nil (by kernel_rfl)

theorem ok87 : CallOk Try.prog 87 := callOk_of Try.func87 (by kernel_rfl) (by kernel_rfl)
theorem laws_heldInt64SSS_c (a0 : List (List (List Int))) (a1 : Int) (r : Int) (hM : M.laws_heldInt64SSS a0 a1 = some r) :
    FnC Try.prog 87 [] [.sl a0.length 0 (a0.flatMap (eS (eS eI)).b), iv a1] [] (iv r) := by
  refine fnc_startG (N := 21) (np := 500) hT Try.func87 rfl rfl (by kernel_rfl) ?_
  unfold M.laws_heldInt64SSS at hM
  refine tr_start (ks := [0, 2]) (st' := [(0, .d (.sl a0.length 0 (a0.flatMap (eS (eS eI)).b))), (2, .d (iv a1))]) (by kernel_rfl) ?_
  refine tr_sr hT hm [] [0, 2] [(0, .d (.sl a0.length 0 (a0.flatMap (eS (eS eI)).b))), (2, .d (iv a1))] .nil (by kernel_rfl) (by kernel_rfl) ?_
  refine tr_seq ?_
  refine tr_sr hT hm [] [0, 2, 10] [(0, .d (.sl a0.length 0 (a0.flatMap (eS (eS eI)).b))), (2, .d (iv a1)), (10, .d (iv 0))] .nil (by kernel_rfl) (by kernel_rfl) ?_
  refine tr_block ?_
  refine tr_iterS (fun (s1 : Int × Int) => [(0, .d (.sl a0.length 0 (a0.flatMap (eS (eS eI)).b))), (2, .d (iv s1.1)), (10, .d (iv s1.2))]) (a1, 0) [0, 2, 10] (by kernel_rfl) hM ?_
  intro n4 next2 ih3 s1 hM
  refine tr_seq ?_
  refine tr_sr hT hm [] [0, 2, 10, 18] [(0, .d (.sl a0.length 0 (a0.flatMap (eS (eS eI)).b))), (2, .d (iv s1.1)), (10, .d (iv s1.2)), (18, .d (bv (decide (s1.2 < (a0.length : Int)))))] .nil (by kernel_rfl) (by kernel_rfl) ?_
  rcases Bool.eq_false_or_eq_true (decide (s1.2 < (a0.length : Int))) with h5 | h5
  · have hM := ite_true' hM h5
    refine tr_condTe (e := decide (s1.2 < (a0.length : Int))) h5 (by kernel_rfl) ?_
    refine tr_skip (q_n ?_)
    refine tr_seq ?_
    refine tr_block ?_
    obtain ⟨y6, hy6, hM⟩ := bind_some' hM
    have hy6' := idx_some hy6
    obtain ⟨v7, hv7, hM⟩ := bind_some' hM
    refine tr_sr hT hm [(3, .val (.sl y6.length 0 (y6.flatMap (eS eI).b))), (5, .call [] [] [.sl y6.length 0 (y6.flatMap (eS eI).b), iv s1.1] [] (iv v7))] [0, 2, 10] [(0, .d (.sl a0.length 0 (a0.flatMap (eS (eS eI)).b))), (2, .d (iv v7)), (10, .d (iv s1.2))] (.cons hy6'.1 (.cons hy6'.2.1 (.cons (at_b0 (eS_ok (eS_ok eI_ok)) hy6'.2.2 (d := .sl y6.length 0 (y6.flatMap (eS eI).b)) (by kernel_rfl)) (cc0 ok44 (laws_heldInt64SS_c y6 s1.1 _ hv7) (by kernel_rfl) .nil)))) (by kernel_rfl) (by kernel_rfl) ?_
    refine tr_sr hT hm [] [0, 2, 10, 38] [(0, .d (.sl a0.length 0 (a0.flatMap (eS (eS eI)).b))), (2, .d (iv v7)), (10, .d (iv s1.2)), (38, .d (bv (decide (v7 < 0))))] .nil (by kernel_rfl) (by kernel_rfl) ?_
    rcases Bool.eq_false_or_eq_true (decide (v7 < 0)) with h8 | h8
    · have hM := ite_true' hM h8
      refine tr_condTe (e := decide (v7 < 0)) h8 (by kernel_rfl) ?_
      refine tr_sr hT hm [] [8] [(8, .d (iv (-1)))] .nil (by kernel_rfl) (by kernel_rfl) ?_
      refine tr_ret (b_r (q_r (l_r (b_r (q_r (rg_r ?_))))))
      obtain rfl := Option.some.inj hM
      exact retg (names := []) .nil (by kernel_rfl)
    · have hM := ite_false' hM h8
      refine tr_condFe (e := decide (v7 < 0)) h8 (by kernel_rfl) ?_
      refine tr_skip (b_n (q_n ?_))
      refine tr_r hT hm [] [0, 2, 10] [(0, .d (.sl a0.length 0 (a0.flatMap (eS (eS eI)).b))), (2, .d (iv v7)), (10, .d (iv (IntKind.i64.wrap (s1.2 + 1))))] .nil (by kernel_rfl) (by kernel_rfl) (l_n ?_)
      exact trl_start (ks := [0, 2, 10]) (by kernel_rfl) (ih3 (v7, IntKind.i64.wrap (s1.2 + 1)) hM)
  · have hM := ite_false' hM h5
    refine tr_condFe (e := decide (s1.2 < (a0.length : Int))) h5 (by kernel_rfl) ?_
    refine tr_exit (q_x (l_x (b_h (q_n ?_))))
    refine tr_sr hT hm [] [8] [(8, .d (iv s1.1))] .nil (by kernel_rfl) (by kernel_rfl) ?_
    refine tr_ret (rg_r ?_)
    obtain rfl := Option.some.inj hM
    exact retg (names := []) .nil (by kernel_rfl)

theorem ok28 : CallOk Try.prog 28 := callOk_of Try.func28 (by kernel_rfl) (by kernel_rfl)
theorem laws_heldProfunctor_c (a0 : XProfunctor) (a1 : Int) (r : Int) (hM : M.laws_heldProfunctor a0 a1 = some r) :
    FnC Try.prog 28 [] [.agg (eXProfunctor.b a0), iv a1] [] (iv r) := by
  refine fnc_startG (N := 36) (np := 500) hT Try.func28 rfl rfl (by kernel_rfl) ?_
  unfold M.laws_heldProfunctor at hM
  refine tr_start (ks := [0, 2]) (st' := [(0, .d (.agg (eXProfunctor.b a0))), (2, .d (iv a1))]) (by kernel_rfl) ?_
  refine tr_sr hT hm [] [2, 4, 2005] [(2, .d (iv a1)), (4, .d (.rp 1002 0)), bxB 2005 (eXProfunctor.b a0)] .nil (by kernel_rfl) (by kernel_rfl) ?_
  obtain ⟨v1, hv1, hM⟩ := bind_some' hM
  refine tr_sr hT hm [(3, .call [] [] [.agg (eXCategory.b a0.Source), iv a1] [] (iv v1))] [2, 4, 2005] [(2, .d (iv v1)), (4, .d (.rp 1002 0)), bxB 2005 (eXProfunctor.b a0)] (cc0 ok74 (laws_heldCategory_c a0.Source a1 _ hv1) (by kernel_rfl) .nil) (by kernel_rfl) (by kernel_rfl) ?_
  refine tr_seq ?_
  refine tr_sr hT hm [] [2, 4, 20, 2005] [(2, .d (iv v1)), (4, .d (.rp 1002 0)), (20, .d (bv (decide (v1 < 0)))), bxB 2005 (eXProfunctor.b a0)] .nil (by kernel_rfl) (by kernel_rfl) ?_
  rcases Bool.eq_false_or_eq_true (decide (v1 < 0)) with h2 | h2
  · have hM := ite_true' hM h2
    refine tr_condTe (e := decide (v1 < 0)) h2 (by kernel_rfl) ?_
    refine tr_sr hT hm [] [8] [(8, .d (iv (-1)))] .nil (by kernel_rfl) (by kernel_rfl) ?_
    refine tr_ret (q_r (rg_r ?_))
    obtain rfl := Option.some.inj hM
    exact retg (names := []) .nil (by kernel_rfl)
  · have hM := ite_false' hM h2
    refine tr_condFe (e := decide (v1 < 0)) h2 (by kernel_rfl) ?_
    refine tr_skip (q_n ?_)
    obtain ⟨v3, hv3, hM⟩ := bind_some' hM
    refine tr_sr hT hm [(3, .call [] [] [.agg (eXCategory.b a0.Target), iv v1] [] (iv v3))] [2, 4, 2005] [(2, .d (iv v3)), (4, .d (.rp 1002 0)), bxB 2005 (eXProfunctor.b a0)] (cc0 ok74 (laws_heldCategory_c a0.Target v1 _ hv3) (by kernel_rfl) .nil) (by kernel_rfl) (by kernel_rfl) ?_
    refine tr_seq ?_
    refine tr_sr hT hm [] [2, 4, 32, 2005] [(2, .d (iv v3)), (4, .d (.rp 1002 0)), (32, .d (bv (decide (v3 < 0)))), bxB 2005 (eXProfunctor.b a0)] .nil (by kernel_rfl) (by kernel_rfl) ?_
    rcases Bool.eq_false_or_eq_true (decide (v3 < 0)) with h4 | h4
    · have hM := ite_true' hM h4
      refine tr_condTe (e := decide (v3 < 0)) h4 (by kernel_rfl) ?_
      refine tr_sr hT hm [] [8] [(8, .d (iv (-1)))] .nil (by kernel_rfl) (by kernel_rfl) ?_
      refine tr_ret (q_r (rg_r ?_))
      obtain rfl := Option.some.inj hM
      exact retg (names := []) .nil (by kernel_rfl)
    · have hM := ite_false' hM h4
      refine tr_condFe (e := decide (v3 < 0)) h4 (by kernel_rfl) ?_
      refine tr_skip (q_n ?_)
      obtain ⟨v5, hv5, hM⟩ := bind_some' hM
      refine tr_sr hT hm [(3, .call [] [] [.sl a0.Sizes.length 0 (a0.Sizes.flatMap (eS eI).b), iv v3] [] (iv v5))] [2, 4, 2005] [(2, .d (iv v5)), (4, .d (.rp 1002 0)), bxB 2005 (eXProfunctor.b a0)] (cc0 ok44 (laws_heldInt64SS_c a0.Sizes v3 _ hv5) (by kernel_rfl) .nil) (by kernel_rfl) (by kernel_rfl) ?_
      refine tr_seq ?_
      refine tr_sr hT hm [] [2, 4, 44, 2005] [(2, .d (iv v5)), (4, .d (.rp 1002 0)), (44, .d (bv (decide (v5 < 0)))), bxB 2005 (eXProfunctor.b a0)] .nil (by kernel_rfl) (by kernel_rfl) ?_
      rcases Bool.eq_false_or_eq_true (decide (v5 < 0)) with h6 | h6
      · have hM := ite_true' hM h6
        refine tr_condTe (e := decide (v5 < 0)) h6 (by kernel_rfl) ?_
        refine tr_sr hT hm [] [8] [(8, .d (iv (-1)))] .nil (by kernel_rfl) (by kernel_rfl) ?_
        refine tr_ret (q_r (rg_r ?_))
        obtain rfl := Option.some.inj hM
        exact retg (names := []) .nil (by kernel_rfl)
      · have hM := ite_false' hM h6
        refine tr_condFe (e := decide (v5 < 0)) h6 (by kernel_rfl) ?_
        refine tr_skip (q_n ?_)
        obtain ⟨v7, hv7, hM⟩ := bind_some' hM
        refine tr_sr hT hm [(3, .call [] [] [.sl a0.Before.length 0 (a0.Before.flatMap (eS (eS eI)).b), iv v5] [] (iv v7))] [2, 4, 2005] [(2, .d (iv v7)), (4, .d (.rp 1002 0)), bxB 2005 (eXProfunctor.b a0)] (cc0 ok87 (laws_heldInt64SSS_c a0.Before v5 _ hv7) (by kernel_rfl) .nil) (by kernel_rfl) (by kernel_rfl) ?_
        refine tr_seq ?_
        refine tr_sr hT hm [] [2, 4, 56, 2005] [(2, .d (iv v7)), (4, .d (.rp 1002 0)), (56, .d (bv (decide (v7 < 0)))), bxB 2005 (eXProfunctor.b a0)] .nil (by kernel_rfl) (by kernel_rfl) ?_
        rcases Bool.eq_false_or_eq_true (decide (v7 < 0)) with h8 | h8
        · have hM := ite_true' hM h8
          refine tr_condTe (e := decide (v7 < 0)) h8 (by kernel_rfl) ?_
          refine tr_sr hT hm [] [8] [(8, .d (iv (-1)))] .nil (by kernel_rfl) (by kernel_rfl) ?_
          refine tr_ret (q_r (rg_r ?_))
          obtain rfl := Option.some.inj hM
          exact retg (names := []) .nil (by kernel_rfl)
        · have hM := ite_false' hM h8
          refine tr_condFe (e := decide (v7 < 0)) h8 (by kernel_rfl) ?_
          refine tr_skip (q_n ?_)
          obtain ⟨v9, hv9, hM⟩ := bind_some' hM
          refine tr_sr hT hm [(3, .call [] [] [.sl a0.Behind.length 0 (a0.Behind.flatMap (eS (eS eI)).b), iv v7] [] (iv v9))] [2] [(2, .d (iv v9))] (cc0 ok87 (laws_heldInt64SSS_c a0.Behind v7 _ hv9) (by kernel_rfl) .nil) (by kernel_rfl) (by kernel_rfl) ?_
          refine tr_seq ?_
          refine tr_sr hT hm [] [2, 68] [(2, .d (iv v9)), (68, .d (bv (decide (v9 < 0))))] .nil (by kernel_rfl) (by kernel_rfl) ?_
          rcases Bool.eq_false_or_eq_true (decide (v9 < 0)) with h10 | h10
          · have hM := ite_true' hM h10
            refine tr_condTe (e := decide (v9 < 0)) h10 (by kernel_rfl) ?_
            refine tr_sr hT hm [] [8] [(8, .d (iv (-1)))] .nil (by kernel_rfl) (by kernel_rfl) ?_
            refine tr_ret (q_r (rg_r ?_))
            obtain rfl := Option.some.inj hM
            exact retg (names := []) .nil (by kernel_rfl)
          · have hM := ite_false' hM h10
            refine tr_condFe (e := decide (v9 < 0)) h10 (by kernel_rfl) ?_
            refine tr_skip (q_n ?_)
            refine tr_sr hT hm [] [8] [(8, .d (iv v9))] .nil (by kernel_rfl) (by kernel_rfl) ?_
            refine tr_ret (rg_r ?_)
            obtain rfl := Option.some.inj hM
            exact retg (names := []) .nil (by kernel_rfl)

end Go.Proofs.Ytaijkiepcaobiaa.WvN
