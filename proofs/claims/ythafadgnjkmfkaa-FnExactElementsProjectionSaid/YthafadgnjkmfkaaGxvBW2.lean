/- Walks. Printed by wip/gen. -/
import Derived.Test.YthafadgnjkmfkaaGxvBW1
namespace Go.Proofs.Ythafadgnjkmfkaa.WvB
open Go.Gx

theorem ok41 : CallOk Try.prog 41 := callOk_of Try.func41 (by kernel_rfl) (by kernel_rfl)
theorem laws_markInt64S_c (a0 : List Int) (a1 : Int) (r : Int × (List Int)) (hM : M.laws_markInt64S a0 a1 = some r) :
    FnC Try.prog 41 [(0, .arr 1 (a0.flatMap eI.o) [])] [.rs 0 0 a0.length, iv a1] [(0, .arr 1 (r.2.flatMap eI.o) [])] (iv r.1) := by
  refine fnc_startG (N := 19) (np := 500) hT Try.func41 rfl rfl (by kernel_rfl) ?_
  unfold M.laws_markInt64S at hM
  refine tr_start (ks := [0, 1, 2]) (st' := [(0, .d (.rs 0 0 a0.length)), (1, .r (.arr 1 (a0.flatMap eI.o) [])), (2, .d (iv a1))]) (by kernel_rfl) ?_
  refine tr_sr hT hm [] [0, 1, 2] [(0, .d (.rs 0 0 a0.length)), (1, .r (.arr 1 (a0.flatMap eI.o) [])), (2, .d (iv a1))] .nil (by kernel_rfl) (by kernel_rfl) ?_
  refine tr_seq ?_
  refine tr_sr hT hm [] [0, 1, 2, 10] [(0, .d (.rs 0 0 a0.length)), (1, .r (.arr 1 (a0.flatMap eI.o) [])), (2, .d (iv a1)), (10, .d (iv 0))] .nil (by kernel_rfl) (by kernel_rfl) ?_
  refine tr_block ?_
  refine tr_iterS (fun (s1 : (List Int) × Int × Int) => [(0, .d (.rs 0 0 s1.1.length)), (1, .r (.arr 1 (s1.1.flatMap eI.o) [])), (2, .d (iv s1.2.1)), (10, .d (iv s1.2.2))]) (a0, a1, 0) [0, 1, 2, 10] (by kernel_rfl) hM ?_
  intro n4 next2 ih3 s1 hM
  refine tr_seq ?_
  refine tr_sr hT hm [] [0, 1, 2, 10, 18] [(0, .d (.rs 0 0 s1.1.length)), (1, .r (.arr 1 (s1.1.flatMap eI.o) [])), (2, .d (iv s1.2.1)), (10, .d (iv s1.2.2)), (18, .d (bv (decide (s1.2.2 < (s1.1.length : Int)))))] .nil (by kernel_rfl) (by kernel_rfl) ?_
  rcases Bool.eq_false_or_eq_true (decide (s1.2.2 < (s1.1.length : Int))) with h5 | h5
  · have hM := ite_true' hM h5
    refine tr_condTe (e := decide (s1.2.2 < (s1.1.length : Int))) h5 (by kernel_rfl) ?_
    refine tr_skip (q_n ?_)
    refine tr_seq ?_
    refine tr_block ?_
    obtain ⟨y6, hy6, hM⟩ := bind_some' hM
    have hy6' := idx_some hy6
    refine tr_sr hT hm [] [0, 1, 2, 10] [(0, .d (.rs 0 0 s1.1.length)), (1, .r (.arr 1 ((s1.1.flatMap eI.o).take (0 + s1.2.2.toNat * 1) ++ [iv s1.2.1] ++ (s1.1.flatMap eI.o).drop (0 + s1.2.2.toNat * 1 + 1)) [])), (2, .d (iv s1.2.1)), (10, .d (iv s1.2.2))] (.cons hy6'.1 (.cons hy6'.2.1 (.cons (store_le eI_ok hy6'.2.2) .nil))) (by kernel_rfl) (by kernel_rfl) ?_
    refine Tr.by (imp_cvE (r := 0) (sz := 1) (refs := []) (set_flat eI_ok.lenO (y := s1.2.1) hy6'.2.2) (menO_flat eI_ok _) (by kernel_rfl)) ?_
    refine Tr.by (imp_cvD (k := 0) (congrArg (D.rs 0 0) (List.length_set.symm : s1.1.length = (s1.1.set s1.2.2.toNat s1.2.1).length)) (by kernel_rfl)) ?_
    refine tr_r hT hm [] [0, 1, 2, 10] [(0, .d (.rs 0 0 ((s1.1.set s1.2.2.toNat s1.2.1).length))), (1, .r (.arr 1 ((s1.1.set s1.2.2.toNat s1.2.1).flatMap eI.o) [])), (2, .d (iv (IntKind.i64.wrap (s1.2.1 + 1)))), (10, .d (iv s1.2.2))] .nil (by kernel_rfl) (by kernel_rfl) (b_n (q_n ?_))
    refine tr_r hT hm [] [0, 1, 2, 10] [(0, .d (.rs 0 0 ((s1.1.set s1.2.2.toNat s1.2.1).length))), (1, .r (.arr 1 ((s1.1.set s1.2.2.toNat s1.2.1).flatMap eI.o) [])), (2, .d (iv (IntKind.i64.wrap (s1.2.1 + 1)))), (10, .d (iv (IntKind.i64.wrap (s1.2.2 + 1))))] .nil (by kernel_rfl) (by kernel_rfl) (l_n ?_)
    exact trl_start (ks := [0, 1, 2, 10]) (by kernel_rfl) (ih3 (s1.1.set s1.2.2.toNat s1.2.1, IntKind.i64.wrap (s1.2.1 + 1), IntKind.i64.wrap (s1.2.2 + 1)) hM)
  · have hM := ite_false' hM h5
    refine tr_condFe (e := decide (s1.2.2 < (s1.1.length : Int))) h5 (by kernel_rfl) ?_
    refine tr_exit (q_x (l_x (b_h (q_n ?_))))
    refine tr_sr hT hm [] [1, 8] [(1, .r (.arr 1 (s1.1.flatMap eI.o) [])), (8, .d (iv s1.2.1))] .nil (by kernel_rfl) (by kernel_rfl) ?_
    refine tr_ret (rg_r ?_)
    obtain rfl := Option.some.inj hM
    exact retg (names := [0]) .nil (by kernel_rfl)

theorem ok42 : CallOk Try.prog 42 := callOk_of Try.func42 (by kernel_rfl) (by kernel_rfl)
theorem laws_markInt64SS_c (a0 : List (List Int)) (a1 : Int) (r : Int × (List (List Int))) (hM : M.laws_markInt64SS a0 a1 = some r) :
    FnC Try.prog 42 [(0, .arr 1 (a0.flatMap (eS eI).o) [])] [.rs 0 0 a0.length, iv a1] [(0, .arr 1 (r.2.flatMap (eS eI).o) [])] (iv r.1) := by
  refine fnc_startG (N := 19) (np := 500) hT Try.func42 rfl rfl (by kernel_rfl) ?_
  unfold M.laws_markInt64SS at hM
  refine tr_start (ks := [0, 1, 2]) (st' := [(0, .d (.rs 0 0 a0.length)), (1, .r (.arr 1 (a0.flatMap (eS eI).o) [])), (2, .d (iv a1))]) (by kernel_rfl) ?_
  refine tr_sr hT hm [] [0, 1, 2] [(0, .d (.rs 0 0 a0.length)), (1, .r (.arr 1 (a0.flatMap (eS eI).o) [])), (2, .d (iv a1))] .nil (by kernel_rfl) (by kernel_rfl) ?_
  refine tr_seq ?_
  refine tr_sr hT hm [] [0, 1, 2, 10] [(0, .d (.rs 0 0 a0.length)), (1, .r (.arr 1 (a0.flatMap (eS eI).o) [])), (2, .d (iv a1)), (10, .d (iv 0))] .nil (by kernel_rfl) (by kernel_rfl) ?_
  refine tr_block ?_
  refine tr_iterS (fun (s1 : (List (List Int)) × Int × Int) => [(0, .d (.rs 0 0 s1.1.length)), (1, .r (.arr 1 (s1.1.flatMap (eS eI).o) [])), (2, .d (iv s1.2.1)), (10, .d (iv s1.2.2))]) (a0, a1, 0) [0, 1, 2, 10] (by kernel_rfl) hM ?_
  intro n4 next2 ih3 s1 hM
  refine tr_seq ?_
  refine tr_sr hT hm [] [0, 1, 2, 10, 18] [(0, .d (.rs 0 0 s1.1.length)), (1, .r (.arr 1 (s1.1.flatMap (eS eI).o) [])), (2, .d (iv s1.2.1)), (10, .d (iv s1.2.2)), (18, .d (bv (decide (s1.2.2 < (s1.1.length : Int)))))] .nil (by kernel_rfl) (by kernel_rfl) ?_
  rcases Bool.eq_false_or_eq_true (decide (s1.2.2 < (s1.1.length : Int))) with h5 | h5
  · have hM := ite_true' hM h5
    refine tr_condTe (e := decide (s1.2.2 < (s1.1.length : Int))) h5 (by kernel_rfl) ?_
    refine tr_skip (q_n ?_)
    refine tr_seq ?_
    refine tr_block ?_
    obtain ⟨y6, hy6, hM⟩ := bind_some' hM
    have hy6' := idx_some hy6
    refine Tr.by (imp_rowOut (r := 0) (q := 700012) (i := s1.2.2) (xs := s1.1) (e := eI) (eS_ok eI_ok) hy6'.2.2 (by kernel_rfl) (by kernel_rfl)) ?_
    obtain ⟨v7, hv7, hM⟩ := bind_some' hM
    refine tr_r hT hm [(3, .val (.rs 700012 0 y6.length)), (5, .call [] [(0, 700012)] [.rs 0 0 y6.length, iv s1.2.1] [(0, .arr 1 (v7.2.flatMap eI.o) [])] (iv v7.1))] [0, 1, 2, 10, 1400025] [(0, .d (.rs 0 0 s1.1.length)), (1, .r (.arr 1 ((s1.1.flatMap (eS eI).o).set (0 + s1.2.2.toNat * 1) (.rs 700012 0 y6.length)) [700012])), (2, .d (iv v7.1)), (10, .d (iv s1.2.2)), (1400025, .r (.arr 1 (v7.2.flatMap eI.o) []))] (.cons hy6'.1 (.cons hy6'.2.1 (.cons (set_at (d := .rs 700012 0 y6.length) (lt_flat (eS_ok eI_ok) (by kernel_rfl) hy6'.2.2)) (cc (B := []) (ρ := [(0, 700012)]) (rB := []) ok41 (laws_markInt64S_c y6 s1.2.1 _ hv7) (.cons (.pass (.rs rfl)) (.cons (.same rfl) .nil)) (.inl rfl) .nil)))) (by kernel_rfl) (by kernel_rfl) (b_n (q_n ?_))
    refine Tr.by (imp_rowBack (r := 0) (q := 700012) (n := y6.length) (i := s1.2.2) (xs := s1.1) (e := eI) (x' := v7.2) eI_ok hy6'.2.2 (M.len_markInt64S hv7) (by kernel_rfl) (by kernel_rfl) (by kernel_rfl)) ?_
    refine Tr.by (imp_cvD (k := 0) (congrArg (D.rs 0 0) (List.length_set.symm : s1.1.length = (s1.1.set s1.2.2.toNat v7.2).length)) (by kernel_rfl)) ?_
    refine tr_r hT hm [] [0, 1, 2, 10] [(0, .d (.rs 0 0 ((s1.1.set s1.2.2.toNat v7.2).length))), (1, .r (.arr 1 ((s1.1.set s1.2.2.toNat v7.2).flatMap (eS eI).o) [])), (2, .d (iv v7.1)), (10, .d (iv (IntKind.i64.wrap (s1.2.2 + 1))))] .nil (by kernel_rfl) (by kernel_rfl) (l_n ?_)
    exact trl_start (ks := [0, 1, 2, 10]) (by kernel_rfl) (ih3 (s1.1.set s1.2.2.toNat v7.2, v7.1, IntKind.i64.wrap (s1.2.2 + 1)) hM)
  · have hM := ite_false' hM h5
    refine tr_condFe (e := decide (s1.2.2 < (s1.1.length : Int))) h5 (by kernel_rfl) ?_
    refine tr_exit (q_x (l_x (b_h (q_n ?_))))
    refine tr_sr hT hm [] [1, 8] [(1, .r (.arr 1 (s1.1.flatMap (eS eI).o) [])), (8, .d (iv s1.2.1))] .nil (by kernel_rfl) (by kernel_rfl) ?_
    refine tr_ret (rg_r ?_)
    obtain rfl := Option.some.inj hM
    exact retg (names := [0]) .nil (by kernel_rfl)

theorem ok26 : CallOk Try.prog 26 := callOk_of Try.func26 (by kernel_rfl) (by kernel_rfl)
theorem laws_markCategory_c (a0 : XCategory) (a1 : Int) (r : Int × XCategory) (hM : M.laws_markCategory a0 a1 = some r) :
    FnC Try.prog 26 [(101, .arr 1 (a0.From.flatMap eI.o) []), (102, .arr 1 (a0.To.flatMap eI.o) []), (103, .arr 1 (a0.Identity.flatMap eI.o) []), (104, .arr 1 (a0.Composites.flatMap (eS eI).o) [])] [.agg [iv a0.Objects, .rs 101 0 a0.From.length, .rs 102 0 a0.To.length, .rs 103 0 a0.Identity.length, .rs 104 0 a0.Composites.length], iv a1] [(101, .arr 1 (r.2.From.flatMap eI.o) []), (102, .arr 1 (r.2.To.flatMap eI.o) []), (103, .arr 1 (r.2.Identity.flatMap eI.o) []), (104, .arr 1 (r.2.Composites.flatMap (eS eI).o) [])] (iv r.1) := by
  refine fnc_startG (N := 22) (np := 500) hT Try.func26 rfl rfl (by kernel_rfl) ?_
  unfold M.laws_markCategory at hM
  refine tr_start (ks := [0, 2, 203, 205, 207, 209]) (st' := ([(0, .d (.agg (rsC 100 (eXCategory.o a0)))), (2, .d (iv a1))] ++ rsS 100 (eXCategory.o a0))) (by kernel_rfl) ?_
  refine tr_sr hT hm [] [2, 4, 203, 205, 207, 209, 2005] ([(2, .d (iv a1)), (4, .d (.rp 1002 0))] ++ rsS 100 (eXCategory.o a0) ++ [bxO 2005 100 (eXCategory.o a0)]) .nil (by kernel_rfl) (by kernel_rfl) ?_
  obtain ⟨v1, hv1, hM⟩ := bind_some' hM
  refine tr_sr hT hm [(3, .call [] [(0, 101)] [.rs 0 0 a0.From.length, iv a1] [(0, .arr 1 (v1.2.flatMap eI.o) [])] (iv v1.1))] [2, 4, 203, 205, 207, 209, 2005] [(2, .d (iv v1.1)), (4, .d (.rp 1002 0)), (203, .r (.arr 1 (v1.2.flatMap eI.o) [])), (205, .r (.arr 1 (a0.To.flatMap eI.o) [])), (207, .r (.arr 1 (a0.Identity.flatMap eI.o) [])), (209, .r (.arr 1 (a0.Composites.flatMap (eS eI).o) [])), bxO 2005 100 (eXCategory.o a0)] (cc (B := []) (ρ := [(0, 101)]) (rB := []) ok41 (laws_markInt64S_c a0.From a1 _ hv1) (.cons (.pass (.rs rfl)) (.cons (.same rfl) .nil)) (.inl rfl) .nil) (by kernel_rfl) (by kernel_rfl) ?_
  refine Tr.by (imp_cvB (r := 1002) (sz := 1) (cells := [iv a0.Objects, .rs 101 0 a0.From.length, .rs 102 0 a0.To.length, .rs 103 0 a0.Identity.length, .rs 104 0 a0.Composites.length]) (cells' := [iv a0.Objects, .rs 101 0 v1.2.length, .rs 102 0 a0.To.length, .rs 103 0 a0.Identity.length, .rs 104 0 a0.Composites.length]) (refs := [101, 102, 103, 104]) (refs' := [101, 102, 103, 104]) (.cons (.refl _) (.cons (Sub.of_eq (congrArg (D.rs 101 0) ((M.len_markInt64S hv1) : a0.From.length = v1.2.length))) (.cons (.refl _) (.cons (.refl _) (.cons (.refl _) .nil))))) (by kernel_rfl) (by kernel_rfl) (by kernel_rfl)) ?_
  obtain ⟨v2, hv2, hM⟩ := bind_some' hM
  refine tr_sr hT hm [(3, .call [] [(0, 102)] [.rs 0 0 a0.To.length, iv v1.1] [(0, .arr 1 (v2.2.flatMap eI.o) [])] (iv v2.1))] [2, 4, 203, 205, 207, 209, 2005] [(2, .d (iv v2.1)), (4, .d (.rp 1002 0)), (203, .r (.arr 1 (v1.2.flatMap eI.o) [])), (205, .r (.arr 1 (v2.2.flatMap eI.o) [])), (207, .r (.arr 1 (a0.Identity.flatMap eI.o) [])), (209, .r (.arr 1 (a0.Composites.flatMap (eS eI).o) [])), (2005, .r (.arr 1 [iv a0.Objects, .rs 101 0 v1.2.length, .rs 102 0 a0.To.length, .rs 103 0 a0.Identity.length, .rs 104 0 a0.Composites.length] [101, 102, 103, 104]))] (cc (B := []) (ρ := [(0, 102)]) (rB := []) ok41 (laws_markInt64S_c a0.To v1.1 _ hv2) (.cons (.pass (.rs rfl)) (.cons (.same rfl) .nil)) (.inl rfl) .nil) (by kernel_rfl) (by kernel_rfl) ?_
  refine Tr.by (imp_cvB (r := 1002) (sz := 1) (cells := [iv a0.Objects, .rs 101 0 v1.2.length, .rs 102 0 a0.To.length, .rs 103 0 a0.Identity.length, .rs 104 0 a0.Composites.length]) (cells' := [iv a0.Objects, .rs 101 0 v1.2.length, .rs 102 0 v2.2.length, .rs 103 0 a0.Identity.length, .rs 104 0 a0.Composites.length]) (refs := [101, 102, 103, 104]) (refs' := [101, 102, 103, 104]) (.cons (.refl _) (.cons (.refl _) (.cons (Sub.of_eq (congrArg (D.rs 102 0) ((M.len_markInt64S hv2) : a0.To.length = v2.2.length))) (.cons (.refl _) (.cons (.refl _) .nil))))) (by kernel_rfl) (by kernel_rfl) (by kernel_rfl)) ?_
  obtain ⟨v3, hv3, hM⟩ := bind_some' hM
  refine tr_sr hT hm [(3, .call [] [(0, 103)] [.rs 0 0 a0.Identity.length, iv v2.1] [(0, .arr 1 (v3.2.flatMap eI.o) [])] (iv v3.1))] [2, 4, 203, 205, 207, 209, 2005] [(2, .d (iv v3.1)), (4, .d (.rp 1002 0)), (203, .r (.arr 1 (v1.2.flatMap eI.o) [])), (205, .r (.arr 1 (v2.2.flatMap eI.o) [])), (207, .r (.arr 1 (v3.2.flatMap eI.o) [])), (209, .r (.arr 1 (a0.Composites.flatMap (eS eI).o) [])), (2005, .r (.arr 1 [iv a0.Objects, .rs 101 0 v1.2.length, .rs 102 0 v2.2.length, .rs 103 0 a0.Identity.length, .rs 104 0 a0.Composites.length] [101, 102, 103, 104]))] (cc (B := []) (ρ := [(0, 103)]) (rB := []) ok41 (laws_markInt64S_c a0.Identity v2.1 _ hv3) (.cons (.pass (.rs rfl)) (.cons (.same rfl) .nil)) (.inl rfl) .nil) (by kernel_rfl) (by kernel_rfl) ?_
  refine Tr.by (imp_cvB (r := 1002) (sz := 1) (cells := [iv a0.Objects, .rs 101 0 v1.2.length, .rs 102 0 v2.2.length, .rs 103 0 a0.Identity.length, .rs 104 0 a0.Composites.length]) (cells' := [iv a0.Objects, .rs 101 0 v1.2.length, .rs 102 0 v2.2.length, .rs 103 0 v3.2.length, .rs 104 0 a0.Composites.length]) (refs := [101, 102, 103, 104]) (refs' := [101, 102, 103, 104]) (.cons (.refl _) (.cons (.refl _) (.cons (.refl _) (.cons (Sub.of_eq (congrArg (D.rs 103 0) ((M.len_markInt64S hv3) : a0.Identity.length = v3.2.length))) (.cons (.refl _) .nil))))) (by kernel_rfl) (by kernel_rfl) (by kernel_rfl)) ?_
  obtain ⟨v4, hv4, hM⟩ := bind_some' hM
  refine tr_sr hT hm [(3, .call [] [(0, 104)] [.rs 0 0 a0.Composites.length, iv v3.1] [(0, .arr 1 (v4.2.flatMap (eS eI).o) [])] (iv v4.1))] [2, 203, 205, 207, 209] [(2, .d (iv v4.1)), (203, .r (.arr 1 (v1.2.flatMap eI.o) [])), (205, .r (.arr 1 (v2.2.flatMap eI.o) [])), (207, .r (.arr 1 (v3.2.flatMap eI.o) [])), (209, .r (.arr 1 (v4.2.flatMap (eS eI).o) []))] (cc (B := []) (ρ := [(0, 104)]) (rB := []) ok42 (laws_markInt64SS_c a0.Composites v3.1 _ hv4) (.cons (.pass (.rs rfl)) (.cons (.same rfl) .nil)) (.inl rfl) .nil) (by kernel_rfl) (by kernel_rfl) ?_
  refine tr_sr hT hm [] [8, 203, 205, 207, 209] [(8, .d (iv v4.1)), (203, .r (.arr 1 (v1.2.flatMap eI.o) [])), (205, .r (.arr 1 (v2.2.flatMap eI.o) [])), (207, .r (.arr 1 (v3.2.flatMap eI.o) [])), (209, .r (.arr 1 (v4.2.flatMap (eS eI).o) []))] .nil (by kernel_rfl) (by kernel_rfl) ?_
  refine tr_ret (rg_r ?_)
  obtain rfl := Option.some.inj hM
  exact retg (names := [101, 102, 103, 104]) .nil (by kernel_rfl)

theorem ok13 : CallOk Try.prog 13 := callOk_of Try.func13 (by kernel_rfl) (by kernel_rfl)
theorem laws_markFunctor_c (a0 : XFunctor) (a1 : Int) (r : Int × XFunctor) (hM : M.laws_markFunctor a0 a1 = some r) :
    FnC Try.prog 13 [(101, .arr 1 (a0.Source.From.flatMap eI.o) []), (102, .arr 1 (a0.Source.To.flatMap eI.o) []), (103, .arr 1 (a0.Source.Identity.flatMap eI.o) []), (104, .arr 1 (a0.Source.Composites.flatMap (eS eI).o) []), (106, .arr 1 (a0.Target.From.flatMap eI.o) []), (107, .arr 1 (a0.Target.To.flatMap eI.o) []), (108, .arr 1 (a0.Target.Identity.flatMap eI.o) []), (109, .arr 1 (a0.Target.Composites.flatMap (eS eI).o) []), (110, .arr 1 (a0.Objects.flatMap eI.o) []), (111, .arr 1 (a0.Arrows.flatMap eI.o) [])] [.agg [iv a0.Source.Objects, .rs 101 0 a0.Source.From.length, .rs 102 0 a0.Source.To.length, .rs 103 0 a0.Source.Identity.length, .rs 104 0 a0.Source.Composites.length, iv a0.Target.Objects, .rs 106 0 a0.Target.From.length, .rs 107 0 a0.Target.To.length, .rs 108 0 a0.Target.Identity.length, .rs 109 0 a0.Target.Composites.length, .rs 110 0 a0.Objects.length, .rs 111 0 a0.Arrows.length], iv a1] [(101, .arr 1 (r.2.Source.From.flatMap eI.o) []), (102, .arr 1 (r.2.Source.To.flatMap eI.o) []), (103, .arr 1 (r.2.Source.Identity.flatMap eI.o) []), (104, .arr 1 (r.2.Source.Composites.flatMap (eS eI).o) []), (106, .arr 1 (r.2.Target.From.flatMap eI.o) []), (107, .arr 1 (r.2.Target.To.flatMap eI.o) []), (108, .arr 1 (r.2.Target.Identity.flatMap eI.o) []), (109, .arr 1 (r.2.Target.Composites.flatMap (eS eI).o) []), (110, .arr 1 (r.2.Objects.flatMap eI.o) []), (111, .arr 1 (r.2.Arrows.flatMap eI.o) [])] (iv r.1) := by
  refine fnc_startG (N := 22) (np := 500) hT Try.func13 rfl rfl (by kernel_rfl) ?_
  unfold M.laws_markFunctor at hM
  refine tr_start (ks := [0, 2, 203, 205, 207, 209, 213, 215, 217, 219, 221, 223]) (st' := ([(0, .d (.agg (rsC 100 (eXFunctor.o a0)))), (2, .d (iv a1))] ++ rsS 100 (eXFunctor.o a0))) (by kernel_rfl) ?_
  refine tr_sr hT hm [] [2, 4, 203, 205, 207, 209, 213, 215, 217, 219, 221, 223, 2005] ([(2, .d (iv a1)), (4, .d (.rp 1002 0))] ++ rsS 100 (eXFunctor.o a0) ++ [bxO 2005 100 (eXFunctor.o a0)]) .nil (by kernel_rfl) (by kernel_rfl) ?_
  obtain ⟨v1, hv1, hM⟩ := bind_some' hM
  refine tr_sr hT hm [(3, .call [] [(101, 101), (102, 102), (103, 103), (104, 104)] [.agg [iv a0.Source.Objects, .rs 101 0 a0.Source.From.length, .rs 102 0 a0.Source.To.length, .rs 103 0 a0.Source.Identity.length, .rs 104 0 a0.Source.Composites.length], iv a1] [(101, .arr 1 (v1.2.From.flatMap eI.o) []), (102, .arr 1 (v1.2.To.flatMap eI.o) []), (103, .arr 1 (v1.2.Identity.flatMap eI.o) []), (104, .arr 1 (v1.2.Composites.flatMap (eS eI).o) [])] (iv v1.1))] [2, 4, 203, 205, 207, 209, 213, 215, 217, 219, 221, 223, 2005] ([(2, .d (iv v1.1)), (4, .d (.rp 1002 0)), (203, .r (.arr 1 (v1.2.From.flatMap eI.o) [])), (205, .r (.arr 1 (v1.2.To.flatMap eI.o) [])), (207, .r (.arr 1 (v1.2.Identity.flatMap eI.o) [])), (209, .r (.arr 1 (v1.2.Composites.flatMap (eS eI).o) []))] ++ rsS 105 (eXCategory.o a0.Target) ++ [(221, .r (.arr 1 (a0.Objects.flatMap eI.o) [])), (223, .r (.arr 1 (a0.Arrows.flatMap eI.o) [])), bxO 2005 100 (eXFunctor.o a0)]) (cc (B := []) (ρ := [(101, 101), (102, 102), (103, 103), (104, 104)]) (rB := []) ok26 (laws_markCategory_c a0.Source a1 _ hv1) (.cons (.aggA (.cons (.same rfl) (.cons (.pass (.rs rfl)) (.cons (.pass (.rs rfl)) (.cons (.pass (.rs rfl)) (.cons (.pass (.rs rfl)) .nil)))))) (.cons (.same rfl) .nil)) (.inl rfl) .nil) (by kernel_rfl) (by kernel_rfl) ?_
  refine Tr.by (imp_cvB (r := 1002) (sz := 1) (cells := [iv a0.Source.Objects, .rs 101 0 a0.Source.From.length, .rs 102 0 a0.Source.To.length, .rs 103 0 a0.Source.Identity.length, .rs 104 0 a0.Source.Composites.length, iv a0.Target.Objects, .rs 106 0 a0.Target.From.length, .rs 107 0 a0.Target.To.length, .rs 108 0 a0.Target.Identity.length, .rs 109 0 a0.Target.Composites.length, .rs 110 0 a0.Objects.length, .rs 111 0 a0.Arrows.length]) (cells' := [iv a0.Source.Objects, .rs 101 0 v1.2.From.length, .rs 102 0 a0.Source.To.length, .rs 103 0 a0.Source.Identity.length, .rs 104 0 a0.Source.Composites.length, iv a0.Target.Objects, .rs 106 0 a0.Target.From.length, .rs 107 0 a0.Target.To.length, .rs 108 0 a0.Target.Identity.length, .rs 109 0 a0.Target.Composites.length, .rs 110 0 a0.Objects.length, .rs 111 0 a0.Arrows.length]) (refs := [101, 102, 103, 104, 106, 107, 108, 109, 110, 111]) (refs' := [101, 102, 103, 104, 106, 107, 108, 109, 110, 111]) (.cons (.refl _) (.cons (Sub.of_eq (congrArg (D.rs 101 0) ((M.len_markCategory hv1).2.1 : a0.Source.From.length = v1.2.From.length))) (.cons (.refl _) (.cons (.refl _) (.cons (.refl _) (.cons (.refl _) (.cons (.refl _) (.cons (.refl _) (.cons (.refl _) (.cons (.refl _) (.cons (.refl _) (.cons (.refl _) .nil)))))))))))) (by kernel_rfl) (by kernel_rfl) (by kernel_rfl)) ?_
  refine Tr.by (imp_cvB (r := 1002) (sz := 1) (cells := [iv a0.Source.Objects, .rs 101 0 v1.2.From.length, .rs 102 0 a0.Source.To.length, .rs 103 0 a0.Source.Identity.length, .rs 104 0 a0.Source.Composites.length, iv a0.Target.Objects, .rs 106 0 a0.Target.From.length, .rs 107 0 a0.Target.To.length, .rs 108 0 a0.Target.Identity.length, .rs 109 0 a0.Target.Composites.length, .rs 110 0 a0.Objects.length, .rs 111 0 a0.Arrows.length]) (cells' := [iv a0.Source.Objects, .rs 101 0 v1.2.From.length, .rs 102 0 v1.2.To.length, .rs 103 0 a0.Source.Identity.length, .rs 104 0 a0.Source.Composites.length, iv a0.Target.Objects, .rs 106 0 a0.Target.From.length, .rs 107 0 a0.Target.To.length, .rs 108 0 a0.Target.Identity.length, .rs 109 0 a0.Target.Composites.length, .rs 110 0 a0.Objects.length, .rs 111 0 a0.Arrows.length]) (refs := [101, 102, 103, 104, 106, 107, 108, 109, 110, 111]) (refs' := [101, 102, 103, 104, 106, 107, 108, 109, 110, 111]) (.cons (.refl _) (.cons (.refl _) (.cons (Sub.of_eq (congrArg (D.rs 102 0) ((M.len_markCategory hv1).2.2.1 : a0.Source.To.length = v1.2.To.length))) (.cons (.refl _) (.cons (.refl _) (.cons (.refl _) (.cons (.refl _) (.cons (.refl _) (.cons (.refl _) (.cons (.refl _) (.cons (.refl _) (.cons (.refl _) .nil)))))))))))) (by kernel_rfl) (by kernel_rfl) (by kernel_rfl)) ?_
  refine Tr.by (imp_cvB (r := 1002) (sz := 1) (cells := [iv a0.Source.Objects, .rs 101 0 v1.2.From.length, .rs 102 0 v1.2.To.length, .rs 103 0 a0.Source.Identity.length, .rs 104 0 a0.Source.Composites.length, iv a0.Target.Objects, .rs 106 0 a0.Target.From.length, .rs 107 0 a0.Target.To.length, .rs 108 0 a0.Target.Identity.length, .rs 109 0 a0.Target.Composites.length, .rs 110 0 a0.Objects.length, .rs 111 0 a0.Arrows.length]) (cells' := [iv a0.Source.Objects, .rs 101 0 v1.2.From.length, .rs 102 0 v1.2.To.length, .rs 103 0 v1.2.Identity.length, .rs 104 0 a0.Source.Composites.length, iv a0.Target.Objects, .rs 106 0 a0.Target.From.length, .rs 107 0 a0.Target.To.length, .rs 108 0 a0.Target.Identity.length, .rs 109 0 a0.Target.Composites.length, .rs 110 0 a0.Objects.length, .rs 111 0 a0.Arrows.length]) (refs := [101, 102, 103, 104, 106, 107, 108, 109, 110, 111]) (refs' := [101, 102, 103, 104, 106, 107, 108, 109, 110, 111]) (.cons (.refl _) (.cons (.refl _) (.cons (.refl _) (.cons (Sub.of_eq (congrArg (D.rs 103 0) ((M.len_markCategory hv1).2.2.2.1 : a0.Source.Identity.length = v1.2.Identity.length))) (.cons (.refl _) (.cons (.refl _) (.cons (.refl _) (.cons (.refl _) (.cons (.refl _) (.cons (.refl _) (.cons (.refl _) (.cons (.refl _) .nil)))))))))))) (by kernel_rfl) (by kernel_rfl) (by kernel_rfl)) ?_
  refine Tr.by (imp_cvB (r := 1002) (sz := 1) (cells := [iv a0.Source.Objects, .rs 101 0 v1.2.From.length, .rs 102 0 v1.2.To.length, .rs 103 0 v1.2.Identity.length, .rs 104 0 a0.Source.Composites.length, iv a0.Target.Objects, .rs 106 0 a0.Target.From.length, .rs 107 0 a0.Target.To.length, .rs 108 0 a0.Target.Identity.length, .rs 109 0 a0.Target.Composites.length, .rs 110 0 a0.Objects.length, .rs 111 0 a0.Arrows.length]) (cells' := [iv a0.Source.Objects, .rs 101 0 v1.2.From.length, .rs 102 0 v1.2.To.length, .rs 103 0 v1.2.Identity.length, .rs 104 0 v1.2.Composites.length, iv a0.Target.Objects, .rs 106 0 a0.Target.From.length, .rs 107 0 a0.Target.To.length, .rs 108 0 a0.Target.Identity.length, .rs 109 0 a0.Target.Composites.length, .rs 110 0 a0.Objects.length, .rs 111 0 a0.Arrows.length]) (refs := [101, 102, 103, 104, 106, 107, 108, 109, 110, 111]) (refs' := [101, 102, 103, 104, 106, 107, 108, 109, 110, 111]) (.cons (.refl _) (.cons (.refl _) (.cons (.refl _) (.cons (.refl _) (.cons (Sub.of_eq (congrArg (D.rs 104 0) ((M.len_markCategory hv1).2.2.2.2 : a0.Source.Composites.length = v1.2.Composites.length))) (.cons (.refl _) (.cons (.refl _) (.cons (.refl _) (.cons (.refl _) (.cons (.refl _) (.cons (.refl _) (.cons (.refl _) .nil)))))))))))) (by kernel_rfl) (by kernel_rfl) (by kernel_rfl)) ?_
  obtain ⟨v2, hv2, hM⟩ := bind_some' hM
  refine tr_sr hT hm [(3, .call [] [(101, 106), (102, 107), (103, 108), (104, 109)] [.agg [iv a0.Target.Objects, .rs 101 0 a0.Target.From.length, .rs 102 0 a0.Target.To.length, .rs 103 0 a0.Target.Identity.length, .rs 104 0 a0.Target.Composites.length], iv v1.1] [(101, .arr 1 (v2.2.From.flatMap eI.o) []), (102, .arr 1 (v2.2.To.flatMap eI.o) []), (103, .arr 1 (v2.2.Identity.flatMap eI.o) []), (104, .arr 1 (v2.2.Composites.flatMap (eS eI).o) [])] (iv v2.1))] [2, 4, 203, 205, 207, 209, 213, 215, 217, 219, 221, 223, 2005] [(2, .d (iv v2.1)), (4, .d (.rp 1002 0)), (203, .r (.arr 1 (v1.2.From.flatMap eI.o) [])), (205, .r (.arr 1 (v1.2.To.flatMap eI.o) [])), (207, .r (.arr 1 (v1.2.Identity.flatMap eI.o) [])), (209, .r (.arr 1 (v1.2.Composites.flatMap (eS eI).o) [])), (213, .r (.arr 1 (v2.2.From.flatMap eI.o) [])), (215, .r (.arr 1 (v2.2.To.flatMap eI.o) [])), (217, .r (.arr 1 (v2.2.Identity.flatMap eI.o) [])), (219, .r (.arr 1 (v2.2.Composites.flatMap (eS eI).o) [])), (221, .r (.arr 1 (a0.Objects.flatMap eI.o) [])), (223, .r (.arr 1 (a0.Arrows.flatMap eI.o) [])), (2005, .r (.arr 1 [iv a0.Source.Objects, .rs 101 0 v1.2.From.length, .rs 102 0 v1.2.To.length, .rs 103 0 v1.2.Identity.length, .rs 104 0 v1.2.Composites.length, iv a0.Target.Objects, .rs 106 0 a0.Target.From.length, .rs 107 0 a0.Target.To.length, .rs 108 0 a0.Target.Identity.length, .rs 109 0 a0.Target.Composites.length, .rs 110 0 a0.Objects.length, .rs 111 0 a0.Arrows.length] [101, 102, 103, 104, 106, 107, 108, 109, 110, 111]))] (cc (B := []) (ρ := [(101, 106), (102, 107), (103, 108), (104, 109)]) (rB := []) ok26 (laws_markCategory_c a0.Target v1.1 _ hv2) (.cons (.aggA (.cons (.same rfl) (.cons (.pass (.rs rfl)) (.cons (.pass (.rs rfl)) (.cons (.pass (.rs rfl)) (.cons (.pass (.rs rfl)) .nil)))))) (.cons (.same rfl) .nil)) (.inl rfl) .nil) (by kernel_rfl) (by kernel_rfl) ?_
  refine Tr.by (imp_cvB (r := 1002) (sz := 1) (cells := [iv a0.Source.Objects, .rs 101 0 v1.2.From.length, .rs 102 0 v1.2.To.length, .rs 103 0 v1.2.Identity.length, .rs 104 0 v1.2.Composites.length, iv a0.Target.Objects, .rs 106 0 a0.Target.From.length, .rs 107 0 a0.Target.To.length, .rs 108 0 a0.Target.Identity.length, .rs 109 0 a0.Target.Composites.length, .rs 110 0 a0.Objects.length, .rs 111 0 a0.Arrows.length]) (cells' := [iv a0.Source.Objects, .rs 101 0 v1.2.From.length, .rs 102 0 v1.2.To.length, .rs 103 0 v1.2.Identity.length, .rs 104 0 v1.2.Composites.length, iv a0.Target.Objects, .rs 106 0 v2.2.From.length, .rs 107 0 a0.Target.To.length, .rs 108 0 a0.Target.Identity.length, .rs 109 0 a0.Target.Composites.length, .rs 110 0 a0.Objects.length, .rs 111 0 a0.Arrows.length]) (refs := [101, 102, 103, 104, 106, 107, 108, 109, 110, 111]) (refs' := [101, 102, 103, 104, 106, 107, 108, 109, 110, 111]) (.cons (.refl _) (.cons (.refl _) (.cons (.refl _) (.cons (.refl _) (.cons (.refl _) (.cons (.refl _) (.cons (Sub.of_eq (congrArg (D.rs 106 0) ((M.len_markCategory hv2).2.1 : a0.Target.From.length = v2.2.From.length))) (.cons (.refl _) (.cons (.refl _) (.cons (.refl _) (.cons (.refl _) (.cons (.refl _) .nil)))))))))))) (by kernel_rfl) (by kernel_rfl) (by kernel_rfl)) ?_
  refine Tr.by (imp_cvB (r := 1002) (sz := 1) (cells := [iv a0.Source.Objects, .rs 101 0 v1.2.From.length, .rs 102 0 v1.2.To.length, .rs 103 0 v1.2.Identity.length, .rs 104 0 v1.2.Composites.length, iv a0.Target.Objects, .rs 106 0 v2.2.From.length, .rs 107 0 a0.Target.To.length, .rs 108 0 a0.Target.Identity.length, .rs 109 0 a0.Target.Composites.length, .rs 110 0 a0.Objects.length, .rs 111 0 a0.Arrows.length]) (cells' := [iv a0.Source.Objects, .rs 101 0 v1.2.From.length, .rs 102 0 v1.2.To.length, .rs 103 0 v1.2.Identity.length, .rs 104 0 v1.2.Composites.length, iv a0.Target.Objects, .rs 106 0 v2.2.From.length, .rs 107 0 v2.2.To.length, .rs 108 0 a0.Target.Identity.length, .rs 109 0 a0.Target.Composites.length, .rs 110 0 a0.Objects.length, .rs 111 0 a0.Arrows.length]) (refs := [101, 102, 103, 104, 106, 107, 108, 109, 110, 111]) (refs' := [101, 102, 103, 104, 106, 107, 108, 109, 110, 111]) (.cons (.refl _) (.cons (.refl _) (.cons (.refl _) (.cons (.refl _) (.cons (.refl _) (.cons (.refl _) (.cons (.refl _) (.cons (Sub.of_eq (congrArg (D.rs 107 0) ((M.len_markCategory hv2).2.2.1 : a0.Target.To.length = v2.2.To.length))) (.cons (.refl _) (.cons (.refl _) (.cons (.refl _) (.cons (.refl _) .nil)))))))))))) (by kernel_rfl) (by kernel_rfl) (by kernel_rfl)) ?_
  refine Tr.by (imp_cvB (r := 1002) (sz := 1) (cells := [iv a0.Source.Objects, .rs 101 0 v1.2.From.length, .rs 102 0 v1.2.To.length, .rs 103 0 v1.2.Identity.length, .rs 104 0 v1.2.Composites.length, iv a0.Target.Objects, .rs 106 0 v2.2.From.length, .rs 107 0 v2.2.To.length, .rs 108 0 a0.Target.Identity.length, .rs 109 0 a0.Target.Composites.length, .rs 110 0 a0.Objects.length, .rs 111 0 a0.Arrows.length]) (cells' := [iv a0.Source.Objects, .rs 101 0 v1.2.From.length, .rs 102 0 v1.2.To.length, .rs 103 0 v1.2.Identity.length, .rs 104 0 v1.2.Composites.length, iv a0.Target.Objects, .rs 106 0 v2.2.From.length, .rs 107 0 v2.2.To.length, .rs 108 0 v2.2.Identity.length, .rs 109 0 a0.Target.Composites.length, .rs 110 0 a0.Objects.length, .rs 111 0 a0.Arrows.length]) (refs := [101, 102, 103, 104, 106, 107, 108, 109, 110, 111]) (refs' := [101, 102, 103, 104, 106, 107, 108, 109, 110, 111]) (.cons (.refl _) (.cons (.refl _) (.cons (.refl _) (.cons (.refl _) (.cons (.refl _) (.cons (.refl _) (.cons (.refl _) (.cons (.refl _) (.cons (Sub.of_eq (congrArg (D.rs 108 0) ((M.len_markCategory hv2).2.2.2.1 : a0.Target.Identity.length = v2.2.Identity.length))) (.cons (.refl _) (.cons (.refl _) (.cons (.refl _) .nil)))))))))))) (by kernel_rfl) (by kernel_rfl) (by kernel_rfl)) ?_
  refine Tr.by (imp_cvB (r := 1002) (sz := 1) (cells := [iv a0.Source.Objects, .rs 101 0 v1.2.From.length, .rs 102 0 v1.2.To.length, .rs 103 0 v1.2.Identity.length, .rs 104 0 v1.2.Composites.length, iv a0.Target.Objects, .rs 106 0 v2.2.From.length, .rs 107 0 v2.2.To.length, .rs 108 0 v2.2.Identity.length, .rs 109 0 a0.Target.Composites.length, .rs 110 0 a0.Objects.length, .rs 111 0 a0.Arrows.length]) (cells' := [iv a0.Source.Objects, .rs 101 0 v1.2.From.length, .rs 102 0 v1.2.To.length, .rs 103 0 v1.2.Identity.length, .rs 104 0 v1.2.Composites.length, iv a0.Target.Objects, .rs 106 0 v2.2.From.length, .rs 107 0 v2.2.To.length, .rs 108 0 v2.2.Identity.length, .rs 109 0 v2.2.Composites.length, .rs 110 0 a0.Objects.length, .rs 111 0 a0.Arrows.length]) (refs := [101, 102, 103, 104, 106, 107, 108, 109, 110, 111]) (refs' := [101, 102, 103, 104, 106, 107, 108, 109, 110, 111]) (.cons (.refl _) (.cons (.refl _) (.cons (.refl _) (.cons (.refl _) (.cons (.refl _) (.cons (.refl _) (.cons (.refl _) (.cons (.refl _) (.cons (.refl _) (.cons (Sub.of_eq (congrArg (D.rs 109 0) ((M.len_markCategory hv2).2.2.2.2 : a0.Target.Composites.length = v2.2.Composites.length))) (.cons (.refl _) (.cons (.refl _) .nil)))))))))))) (by kernel_rfl) (by kernel_rfl) (by kernel_rfl)) ?_
  obtain ⟨v3, hv3, hM⟩ := bind_some' hM
  refine tr_sr hT hm [(3, .call [] [(0, 110)] [.rs 0 0 a0.Objects.length, iv v2.1] [(0, .arr 1 (v3.2.flatMap eI.o) [])] (iv v3.1))] [2, 4, 203, 205, 207, 209, 213, 215, 217, 219, 221, 223, 2005] [(2, .d (iv v3.1)), (4, .d (.rp 1002 0)), (203, .r (.arr 1 (v1.2.From.flatMap eI.o) [])), (205, .r (.arr 1 (v1.2.To.flatMap eI.o) [])), (207, .r (.arr 1 (v1.2.Identity.flatMap eI.o) [])), (209, .r (.arr 1 (v1.2.Composites.flatMap (eS eI).o) [])), (213, .r (.arr 1 (v2.2.From.flatMap eI.o) [])), (215, .r (.arr 1 (v2.2.To.flatMap eI.o) [])), (217, .r (.arr 1 (v2.2.Identity.flatMap eI.o) [])), (219, .r (.arr 1 (v2.2.Composites.flatMap (eS eI).o) [])), (221, .r (.arr 1 (v3.2.flatMap eI.o) [])), (223, .r (.arr 1 (a0.Arrows.flatMap eI.o) [])), (2005, .r (.arr 1 [iv a0.Source.Objects, .rs 101 0 v1.2.From.length, .rs 102 0 v1.2.To.length, .rs 103 0 v1.2.Identity.length, .rs 104 0 v1.2.Composites.length, iv a0.Target.Objects, .rs 106 0 v2.2.From.length, .rs 107 0 v2.2.To.length, .rs 108 0 v2.2.Identity.length, .rs 109 0 v2.2.Composites.length, .rs 110 0 a0.Objects.length, .rs 111 0 a0.Arrows.length] [101, 102, 103, 104, 106, 107, 108, 109, 110, 111]))] (cc (B := []) (ρ := [(0, 110)]) (rB := []) ok41 (laws_markInt64S_c a0.Objects v2.1 _ hv3) (.cons (.pass (.rs rfl)) (.cons (.same rfl) .nil)) (.inl rfl) .nil) (by kernel_rfl) (by kernel_rfl) ?_
  refine Tr.by (imp_cvB (r := 1002) (sz := 1) (cells := [iv a0.Source.Objects, .rs 101 0 v1.2.From.length, .rs 102 0 v1.2.To.length, .rs 103 0 v1.2.Identity.length, .rs 104 0 v1.2.Composites.length, iv a0.Target.Objects, .rs 106 0 v2.2.From.length, .rs 107 0 v2.2.To.length, .rs 108 0 v2.2.Identity.length, .rs 109 0 v2.2.Composites.length, .rs 110 0 a0.Objects.length, .rs 111 0 a0.Arrows.length]) (cells' := [iv a0.Source.Objects, .rs 101 0 v1.2.From.length, .rs 102 0 v1.2.To.length, .rs 103 0 v1.2.Identity.length, .rs 104 0 v1.2.Composites.length, iv a0.Target.Objects, .rs 106 0 v2.2.From.length, .rs 107 0 v2.2.To.length, .rs 108 0 v2.2.Identity.length, .rs 109 0 v2.2.Composites.length, .rs 110 0 v3.2.length, .rs 111 0 a0.Arrows.length]) (refs := [101, 102, 103, 104, 106, 107, 108, 109, 110, 111]) (refs' := [101, 102, 103, 104, 106, 107, 108, 109, 110, 111]) (.cons (.refl _) (.cons (.refl _) (.cons (.refl _) (.cons (.refl _) (.cons (.refl _) (.cons (.refl _) (.cons (.refl _) (.cons (.refl _) (.cons (.refl _) (.cons (.refl _) (.cons (Sub.of_eq (congrArg (D.rs 110 0) ((M.len_markInt64S hv3) : a0.Objects.length = v3.2.length))) (.cons (.refl _) .nil)))))))))))) (by kernel_rfl) (by kernel_rfl) (by kernel_rfl)) ?_
  obtain ⟨v4, hv4, hM⟩ := bind_some' hM
  refine tr_sr hT hm [(3, .call [] [(0, 111)] [.rs 0 0 a0.Arrows.length, iv v3.1] [(0, .arr 1 (v4.2.flatMap eI.o) [])] (iv v4.1))] [2, 203, 205, 207, 209, 213, 215, 217, 219, 221, 223] [(2, .d (iv v4.1)), (203, .r (.arr 1 (v1.2.From.flatMap eI.o) [])), (205, .r (.arr 1 (v1.2.To.flatMap eI.o) [])), (207, .r (.arr 1 (v1.2.Identity.flatMap eI.o) [])), (209, .r (.arr 1 (v1.2.Composites.flatMap (eS eI).o) [])), (213, .r (.arr 1 (v2.2.From.flatMap eI.o) [])), (215, .r (.arr 1 (v2.2.To.flatMap eI.o) [])), (217, .r (.arr 1 (v2.2.Identity.flatMap eI.o) [])), (219, .r (.arr 1 (v2.2.Composites.flatMap (eS eI).o) [])), (221, .r (.arr 1 (v3.2.flatMap eI.o) [])), (223, .r (.arr 1 (v4.2.flatMap eI.o) []))] (cc (B := []) (ρ := [(0, 111)]) (rB := []) ok41 (laws_markInt64S_c a0.Arrows v3.1 _ hv4) (.cons (.pass (.rs rfl)) (.cons (.same rfl) .nil)) (.inl rfl) .nil) (by kernel_rfl) (by kernel_rfl) ?_
  refine tr_sr hT hm [] [8, 203, 205, 207, 209, 213, 215, 217, 219, 221, 223] [(8, .d (iv v4.1)), (203, .r (.arr 1 (v1.2.From.flatMap eI.o) [])), (205, .r (.arr 1 (v1.2.To.flatMap eI.o) [])), (207, .r (.arr 1 (v1.2.Identity.flatMap eI.o) [])), (209, .r (.arr 1 (v1.2.Composites.flatMap (eS eI).o) [])), (213, .r (.arr 1 (v2.2.From.flatMap eI.o) [])), (215, .r (.arr 1 (v2.2.To.flatMap eI.o) [])), (217, .r (.arr 1 (v2.2.Identity.flatMap eI.o) [])), (219, .r (.arr 1 (v2.2.Composites.flatMap (eS eI).o) [])), (221, .r (.arr 1 (v3.2.flatMap eI.o) [])), (223, .r (.arr 1 (v4.2.flatMap eI.o) []))] .nil (by kernel_rfl) (by kernel_rfl) ?_
  refine tr_ret (rg_r ?_)
  obtain rfl := Option.some.inj hM
  exact retg (names := [101, 102, 103, 104, 106, 107, 108, 109, 110, 111]) .nil (by kernel_rfl)

theorem ok43 : CallOk Try.prog 43 := callOk_of Try.func43 (by kernel_rfl) (by kernel_rfl)
theorem laws_heldInt64S_c (a0 : List Int) (a1 : Int) (r : Int) (hM : M.laws_heldInt64S a0 a1 = some r) :
    FnC Try.prog 43 [] [.sl a0.length 0 (a0.flatMap eI.b), iv a1] [] (iv r) := by
  refine fnc_startG (N := 21) (np := 500) hT Try.func43 rfl rfl (by kernel_rfl) ?_
  unfold M.laws_heldInt64S at hM
  refine tr_start (ks := [0, 2]) (st' := [(0, .d (.sl a0.length 0 (a0.flatMap eI.b))), (2, .d (iv a1))]) (by kernel_rfl) ?_
  refine tr_sr hT hm [] [0, 2] [(0, .d (.sl a0.length 0 (a0.flatMap eI.b))), (2, .d (iv a1))] .nil (by kernel_rfl) (by kernel_rfl) ?_
  refine tr_seq ?_
  refine tr_sr hT hm [] [0, 2, 10] [(0, .d (.sl a0.length 0 (a0.flatMap eI.b))), (2, .d (iv a1)), (10, .d (iv 0))] .nil (by kernel_rfl) (by kernel_rfl) ?_
  refine tr_block ?_
  refine tr_iterS (fun (s1 : Int × Int) => [(0, .d (.sl a0.length 0 (a0.flatMap eI.b))), (2, .d (iv s1.1)), (10, .d (iv s1.2))]) (a1, 0) [0, 2, 10] (by kernel_rfl) hM ?_
  intro n4 next2 ih3 s1 hM
  refine tr_seq ?_
  refine tr_sr hT hm [] [0, 2, 10, 18] [(0, .d (.sl a0.length 0 (a0.flatMap eI.b))), (2, .d (iv s1.1)), (10, .d (iv s1.2)), (18, .d (bv (decide (s1.2 < (a0.length : Int)))))] .nil (by kernel_rfl) (by kernel_rfl) ?_
  rcases Bool.eq_false_or_eq_true (decide (s1.2 < (a0.length : Int))) with h5 | h5
  · have hM := ite_true' hM h5
    refine tr_condTe (e := decide (s1.2 < (a0.length : Int))) h5 (by kernel_rfl) ?_
    refine tr_skip (q_n ?_)
    refine tr_seq ?_
    refine tr_block ?_
    refine tr_seq ?_
    obtain ⟨y6, hy6, hM⟩ := bind_some' hM
    have hy6' := idx_some hy6
    refine tr_sr hT hm [(3, .val (iv y6))] [0, 2, 10, 34] [(0, .d (.sl a0.length 0 (a0.flatMap eI.b))), (2, .d (iv s1.1)), (10, .d (iv s1.2)), (34, .d (bv (y6 != s1.1)))] (.cons hy6'.1 (.cons hy6'.2.1 (.cons (at_b0 eI_ok hy6'.2.2 (d := iv y6) (by kernel_rfl)) .nil))) (by kernel_rfl) (by kernel_rfl) ?_
    rcases Bool.eq_false_or_eq_true (y6 != s1.1) with h7 | h7
    · have hM := ite_true' hM h7
      refine tr_condTe (e := y6 != s1.1) h7 (by kernel_rfl) ?_
      refine tr_sr hT hm [] [8] [(8, .d (iv (-1)))] .nil (by kernel_rfl) (by kernel_rfl) ?_
      refine tr_ret (q_r (b_r (q_r (l_r (b_r (q_r (rg_r ?_)))))))
      obtain rfl := Option.some.inj hM
      exact retg (names := []) .nil (by kernel_rfl)
    · have hM := ite_false' hM h7
      refine tr_condFe (e := y6 != s1.1) h7 (by kernel_rfl) ?_
      refine tr_skip (q_n ?_)
      refine tr_r hT hm [] [0, 2, 10] [(0, .d (.sl a0.length 0 (a0.flatMap eI.b))), (2, .d (iv (IntKind.i64.wrap (s1.1 + 1)))), (10, .d (iv s1.2))] .nil (by kernel_rfl) (by kernel_rfl) (b_n (q_n ?_))
      refine tr_r hT hm [] [0, 2, 10] [(0, .d (.sl a0.length 0 (a0.flatMap eI.b))), (2, .d (iv (IntKind.i64.wrap (s1.1 + 1)))), (10, .d (iv (IntKind.i64.wrap (s1.2 + 1))))] .nil (by kernel_rfl) (by kernel_rfl) (l_n ?_)
      exact trl_start (ks := [0, 2, 10]) (by kernel_rfl) (ih3 (IntKind.i64.wrap (s1.1 + 1), IntKind.i64.wrap (s1.2 + 1)) hM)
  · have hM := ite_false' hM h5
    refine tr_condFe (e := decide (s1.2 < (a0.length : Int))) h5 (by kernel_rfl) ?_
    refine tr_exit (q_x (l_x (b_h (q_n ?_))))
    refine tr_sr hT hm [] [8] [(8, .d (iv s1.1))] .nil (by kernel_rfl) (by kernel_rfl) ?_
    refine tr_ret (rg_r ?_)
    obtain rfl := Option.some.inj hM
    exact retg (names := []) .nil (by kernel_rfl)

theorem ok59 : CallOk Try.prog 59 := callOk_of Try.func59 (by kernel_rfl) (by kernel_rfl)
theorem laws_heldInt64SS_c (a0 : List (List Int)) (a1 : Int) (r : Int) (hM : M.laws_heldInt64SS a0 a1 = some r) :
    FnC Try.prog 59 [] [.sl a0.length 0 (a0.flatMap (eS eI).b), iv a1] [] (iv r) := by
  refine fnc_startG (N := 21) (np := 500) hT Try.func59 rfl rfl (by kernel_rfl) ?_
  unfold M.laws_heldInt64SS at hM
  refine tr_start (ks := [0, 2]) (st' := [(0, .d (.sl a0.length 0 (a0.flatMap (eS eI).b))), (2, .d (iv a1))]) (by kernel_rfl) ?_
  refine tr_sr hT hm [] [0, 2] [(0, .d (.sl a0.length 0 (a0.flatMap (eS eI).b))), (2, .d (iv a1))] .nil (by kernel_rfl) (by kernel_rfl) ?_
  refine tr_seq ?_
  refine tr_sr hT hm [] [0, 2, 10] [(0, .d (.sl a0.length 0 (a0.flatMap (eS eI).b))), (2, .d (iv a1)), (10, .d (iv 0))] .nil (by kernel_rfl) (by kernel_rfl) ?_
  refine tr_block ?_
  refine tr_iterS (fun (s1 : Int × Int) => [(0, .d (.sl a0.length 0 (a0.flatMap (eS eI).b))), (2, .d (iv s1.1)), (10, .d (iv s1.2))]) (a1, 0) [0, 2, 10] (by kernel_rfl) hM ?_
  intro n4 next2 ih3 s1 hM
  refine tr_seq ?_
  refine tr_sr hT hm [] [0, 2, 10, 18] [(0, .d (.sl a0.length 0 (a0.flatMap (eS eI).b))), (2, .d (iv s1.1)), (10, .d (iv s1.2)), (18, .d (bv (decide (s1.2 < (a0.length : Int)))))] .nil (by kernel_rfl) (by kernel_rfl) ?_
  rcases Bool.eq_false_or_eq_true (decide (s1.2 < (a0.length : Int))) with h5 | h5
  · have hM := ite_true' hM h5
    refine tr_condTe (e := decide (s1.2 < (a0.length : Int))) h5 (by kernel_rfl) ?_
    refine tr_skip (q_n ?_)
    refine tr_seq ?_
    refine tr_block ?_
    obtain ⟨y6, hy6, hM⟩ := bind_some' hM
    have hy6' := idx_some hy6
    obtain ⟨v7, hv7, hM⟩ := bind_some' hM
    refine tr_sr hT hm [(3, .val (.sl y6.length 0 (y6.flatMap eI.b))), (5, .call [] [] [.sl y6.length 0 (y6.flatMap eI.b), iv s1.1] [] (iv v7))] [0, 2, 10] [(0, .d (.sl a0.length 0 (a0.flatMap (eS eI).b))), (2, .d (iv v7)), (10, .d (iv s1.2))] (.cons hy6'.1 (.cons hy6'.2.1 (.cons (at_b0 (eS_ok eI_ok) hy6'.2.2 (d := .sl y6.length 0 (y6.flatMap eI.b)) (by kernel_rfl)) (cc0 ok43 (laws_heldInt64S_c y6 s1.1 _ hv7) (by kernel_rfl) .nil)))) (by kernel_rfl) (by kernel_rfl) ?_
    refine tr_sr hT hm [] [0, 2, 10, 38] [(0, .d (.sl a0.length 0 (a0.flatMap (eS eI).b))), (2, .d (iv v7)), (10, .d (iv s1.2)), (38, .d (bv (decide (v7 < 0))))] .nil (by kernel_rfl) (by kernel_rfl) ?_
    rcases Bool.eq_false_or_eq_true (decide (v7 < 0)) with h8 | h8
    · have hM := ite_true' hM h8
      refine tr_condTe (e := decide (v7 < 0)) h8 (by kernel_rfl) ?_
      refine tr_sr hT hm [] [8] [(8, .d (iv (-1)))] .nil (by kernel_rfl) (by kernel_rfl) ?_
      refine tr_ret (b_r (q_r (l_r (b_r (q_r (rg_r ?_))))))
      obtain rfl := Option.some.inj hM
      exact retg (names := []) .nil (by kernel_rfl)
    · have hM := ite_false' hM h8
      refine tr_condFe (e := decide (v7 < 0)) h8 (by kernel_rfl) ?_
      refine tr_skip (b_n (q_n ?_))
      refine tr_r hT hm [] [0, 2, 10] [(0, .d (.sl a0.length 0 (a0.flatMap (eS eI).b))), (2, .d (iv v7)), (10, .d (iv (IntKind.i64.wrap (s1.2 + 1))))] .nil (by kernel_rfl) (by kernel_rfl) (l_n ?_)
      exact trl_start (ks := [0, 2, 10]) (by kernel_rfl) (ih3 (v7, IntKind.i64.wrap (s1.2 + 1)) hM)
  · have hM := ite_false' hM h5
    refine tr_condFe (e := decide (s1.2 < (a0.length : Int))) h5 (by kernel_rfl) ?_
    refine tr_exit (q_x (l_x (b_h (q_n ?_))))
    refine tr_sr hT hm [] [8] [(8, .d (iv s1.1))] .nil (by kernel_rfl) (by kernel_rfl) ?_
    refine tr_ret (rg_r ?_)
    obtain rfl := Option.some.inj hM
    exact retg (names := []) .nil (by kernel_rfl)

theorem ok27 : CallOk Try.prog 27 := callOk_of Try.func27 (by kernel_rfl) (by kernel_rfl)
theorem laws_heldCategory_c (a0 : XCategory) (a1 : Int) (r : Int) (hM : M.laws_heldCategory a0 a1 = some r) :
    FnC Try.prog 27 [] [.agg (eXCategory.b a0), iv a1] [] (iv r) := by
  refine fnc_startG (N := 30) (np := 500) hT Try.func27 rfl rfl (by kernel_rfl) ?_
  unfold M.laws_heldCategory at hM
  refine tr_start (ks := [0, 2]) (st' := [(0, .d (.agg (eXCategory.b a0))), (2, .d (iv a1))]) (by kernel_rfl) ?_
  refine tr_sr hT hm [] [2, 4, 2005] [(2, .d (iv a1)), (4, .d (.rp 1002 0)), bxB 2005 (eXCategory.b a0)] .nil (by kernel_rfl) (by kernel_rfl) ?_
  obtain ⟨v1, hv1, hM⟩ := bind_some' hM
  refine tr_sr hT hm [(3, .call [] [] [.sl a0.From.length 0 (a0.From.flatMap eI.b), iv a1] [] (iv v1))] [2, 4, 2005] [(2, .d (iv v1)), (4, .d (.rp 1002 0)), bxB 2005 (eXCategory.b a0)] (cc0 ok43 (laws_heldInt64S_c a0.From a1 _ hv1) (by kernel_rfl) .nil) (by kernel_rfl) (by kernel_rfl) ?_
  refine tr_seq ?_
  refine tr_sr hT hm [] [2, 4, 20, 2005] [(2, .d (iv v1)), (4, .d (.rp 1002 0)), (20, .d (bv (decide (v1 < 0)))), bxB 2005 (eXCategory.b a0)] .nil (by kernel_rfl) (by kernel_rfl) ?_
  rcases Bool.eq_false_or_eq_true (decide (v1 < 0)) with h2 | h2
  · have hM := ite_true' hM h2
    refine tr_condTe (e := decide (v1 < 0)) h2 (by kernel_rfl) ?_
    refine tr_sr hT hm [] [8] [(8, .d (iv (-1)))] .nil (by kernel_rfl) (by kernel_rfl) ?_
    refine tr_ret (q_r (rg_r ?_))
    obtain rfl := Option.some.inj hM
    exact retg (names := []) .nil (by kernel_rfl)
  · have hM := ite_false' hM h2
    refine tr_condFe (e := decide (v1 < 0)) h2 (by kernel_rfl) ?_
    refine tr_skip (q_n ?_)
    obtain ⟨v3, hv3, hM⟩ := bind_some' hM
    refine tr_sr hT hm [(3, .call [] [] [.sl a0.To.length 0 (a0.To.flatMap eI.b), iv v1] [] (iv v3))] [2, 4, 2005] [(2, .d (iv v3)), (4, .d (.rp 1002 0)), bxB 2005 (eXCategory.b a0)] (cc0 ok43 (laws_heldInt64S_c a0.To v1 _ hv3) (by kernel_rfl) .nil) (by kernel_rfl) (by kernel_rfl) ?_
    refine tr_seq ?_
    refine tr_sr hT hm [] [2, 4, 32, 2005] [(2, .d (iv v3)), (4, .d (.rp 1002 0)), (32, .d (bv (decide (v3 < 0)))), bxB 2005 (eXCategory.b a0)] .nil (by kernel_rfl) (by kernel_rfl) ?_
    rcases Bool.eq_false_or_eq_true (decide (v3 < 0)) with h4 | h4
    · have hM := ite_true' hM h4
      refine tr_condTe (e := decide (v3 < 0)) h4 (by kernel_rfl) ?_
      refine tr_sr hT hm [] [8] [(8, .d (iv (-1)))] .nil (by kernel_rfl) (by kernel_rfl) ?_
      refine tr_ret (q_r (rg_r ?_))
      obtain rfl := Option.some.inj hM
      exact retg (names := []) .nil (by kernel_rfl)
    · have hM := ite_false' hM h4
      refine tr_condFe (e := decide (v3 < 0)) h4 (by kernel_rfl) ?_
      refine tr_skip (q_n ?_)
      obtain ⟨v5, hv5, hM⟩ := bind_some' hM
      refine tr_sr hT hm [(3, .call [] [] [.sl a0.Identity.length 0 (a0.Identity.flatMap eI.b), iv v3] [] (iv v5))] [2, 4, 2005] [(2, .d (iv v5)), (4, .d (.rp 1002 0)), bxB 2005 (eXCategory.b a0)] (cc0 ok43 (laws_heldInt64S_c a0.Identity v3 _ hv5) (by kernel_rfl) .nil) (by kernel_rfl) (by kernel_rfl) ?_
      refine tr_seq ?_
      refine tr_sr hT hm [] [2, 4, 44, 2005] [(2, .d (iv v5)), (4, .d (.rp 1002 0)), (44, .d (bv (decide (v5 < 0)))), bxB 2005 (eXCategory.b a0)] .nil (by kernel_rfl) (by kernel_rfl) ?_
      rcases Bool.eq_false_or_eq_true (decide (v5 < 0)) with h6 | h6
      · have hM := ite_true' hM h6
        refine tr_condTe (e := decide (v5 < 0)) h6 (by kernel_rfl) ?_
        refine tr_sr hT hm [] [8] [(8, .d (iv (-1)))] .nil (by kernel_rfl) (by kernel_rfl) ?_
        refine tr_ret (q_r (rg_r ?_))
        obtain rfl := Option.some.inj hM
        exact retg (names := []) .nil (by kernel_rfl)
      · have hM := ite_false' hM h6
        refine tr_condFe (e := decide (v5 < 0)) h6 (by kernel_rfl) ?_
        refine tr_skip (q_n ?_)
        obtain ⟨v7, hv7, hM⟩ := bind_some' hM
        refine tr_sr hT hm [(3, .call [] [] [.sl a0.Composites.length 0 (a0.Composites.flatMap (eS eI).b), iv v5] [] (iv v7))] [2] [(2, .d (iv v7))] (cc0 ok59 (laws_heldInt64SS_c a0.Composites v5 _ hv7) (by kernel_rfl) .nil) (by kernel_rfl) (by kernel_rfl) ?_
        refine tr_seq ?_
        refine tr_sr hT hm [] [2, 56] [(2, .d (iv v7)), (56, .d (bv (decide (v7 < 0))))] .nil (by kernel_rfl) (by kernel_rfl) ?_
        rcases Bool.eq_false_or_eq_true (decide (v7 < 0)) with h8 | h8
        · have hM := ite_true' hM h8
          refine tr_condTe (e := decide (v7 < 0)) h8 (by kernel_rfl) ?_
          refine tr_sr hT hm [] [8] [(8, .d (iv (-1)))] .nil (by kernel_rfl) (by kernel_rfl) ?_
          refine tr_ret (q_r (rg_r ?_))
          obtain rfl := Option.some.inj hM
          exact retg (names := []) .nil (by kernel_rfl)
        · have hM := ite_false' hM h8
          refine tr_condFe (e := decide (v7 < 0)) h8 (by kernel_rfl) ?_
          refine tr_skip (q_n ?_)
          refine tr_sr hT hm [] [8] [(8, .d (iv v7))] .nil (by kernel_rfl) (by kernel_rfl) ?_
          refine tr_ret (rg_r ?_)
          obtain rfl := Option.some.inj hM
          exact retg (names := []) .nil (by kernel_rfl)

theorem ok14 : CallOk Try.prog 14 := callOk_of Try.func14 (by kernel_rfl) (by kernel_rfl)
theorem laws_heldFunctor_c (a0 : XFunctor) (a1 : Int) (r : Int) (hM : M.laws_heldFunctor a0 a1 = some r) :
    FnC Try.prog 14 [] [.agg (eXFunctor.b a0), iv a1] [] (iv r) := by
  refine fnc_startG (N := 30) (np := 500) hT Try.func14 rfl rfl (by kernel_rfl) ?_
  unfold M.laws_heldFunctor at hM
  refine tr_start (ks := [0, 2]) (st' := [(0, .d (.agg (eXFunctor.b a0))), (2, .d (iv a1))]) (by kernel_rfl) ?_
  refine tr_sr hT hm [] [2, 4, 2005] [(2, .d (iv a1)), (4, .d (.rp 1002 0)), bxB 2005 (eXFunctor.b a0)] .nil (by kernel_rfl) (by kernel_rfl) ?_
  obtain ⟨v1, hv1, hM⟩ := bind_some' hM
  refine tr_sr hT hm [(3, .call [] [] [.agg (eXCategory.b a0.Source), iv a1] [] (iv v1))] [2, 4, 2005] [(2, .d (iv v1)), (4, .d (.rp 1002 0)), bxB 2005 (eXFunctor.b a0)] (cc0 ok27 (laws_heldCategory_c a0.Source a1 _ hv1) (by kernel_rfl) .nil) (by kernel_rfl) (by kernel_rfl) ?_
  refine tr_seq ?_
  refine tr_sr hT hm [] [2, 4, 20, 2005] [(2, .d (iv v1)), (4, .d (.rp 1002 0)), (20, .d (bv (decide (v1 < 0)))), bxB 2005 (eXFunctor.b a0)] .nil (by kernel_rfl) (by kernel_rfl) ?_
  rcases Bool.eq_false_or_eq_true (decide (v1 < 0)) with h2 | h2
  · have hM := ite_true' hM h2
    refine tr_condTe (e := decide (v1 < 0)) h2 (by kernel_rfl) ?_
    refine tr_sr hT hm [] [8] [(8, .d (iv (-1)))] .nil (by kernel_rfl) (by kernel_rfl) ?_
    refine tr_ret (q_r (rg_r ?_))
    obtain rfl := Option.some.inj hM
    exact retg (names := []) .nil (by kernel_rfl)
  · have hM := ite_false' hM h2
    refine tr_condFe (e := decide (v1 < 0)) h2 (by kernel_rfl) ?_
    refine tr_skip (q_n ?_)
    obtain ⟨v3, hv3, hM⟩ := bind_some' hM
    refine tr_sr hT hm [(3, .call [] [] [.agg (eXCategory.b a0.Target), iv v1] [] (iv v3))] [2, 4, 2005] [(2, .d (iv v3)), (4, .d (.rp 1002 0)), bxB 2005 (eXFunctor.b a0)] (cc0 ok27 (laws_heldCategory_c a0.Target v1 _ hv3) (by kernel_rfl) .nil) (by kernel_rfl) (by kernel_rfl) ?_
    refine tr_seq ?_
    refine tr_sr hT hm [] [2, 4, 32, 2005] [(2, .d (iv v3)), (4, .d (.rp 1002 0)), (32, .d (bv (decide (v3 < 0)))), bxB 2005 (eXFunctor.b a0)] .nil (by kernel_rfl) (by kernel_rfl) ?_
    rcases Bool.eq_false_or_eq_true (decide (v3 < 0)) with h4 | h4
    · have hM := ite_true' hM h4
      refine tr_condTe (e := decide (v3 < 0)) h4 (by kernel_rfl) ?_
      refine tr_sr hT hm [] [8] [(8, .d (iv (-1)))] .nil (by kernel_rfl) (by kernel_rfl) ?_
      refine tr_ret (q_r (rg_r ?_))
      obtain rfl := Option.some.inj hM
      exact retg (names := []) .nil (by kernel_rfl)
    · have hM := ite_false' hM h4
      refine tr_condFe (e := decide (v3 < 0)) h4 (by kernel_rfl) ?_
      refine tr_skip (q_n ?_)
      obtain ⟨v5, hv5, hM⟩ := bind_some' hM
      refine tr_sr hT hm [(3, .call [] [] [.sl a0.Objects.length 0 (a0.Objects.flatMap eI.b), iv v3] [] (iv v5))] [2, 4, 2005] [(2, .d (iv v5)), (4, .d (.rp 1002 0)), bxB 2005 (eXFunctor.b a0)] (cc0 ok43 (laws_heldInt64S_c a0.Objects v3 _ hv5) (by kernel_rfl) .nil) (by kernel_rfl) (by kernel_rfl) ?_
      refine tr_seq ?_
      refine tr_sr hT hm [] [2, 4, 44, 2005] [(2, .d (iv v5)), (4, .d (.rp 1002 0)), (44, .d (bv (decide (v5 < 0)))), bxB 2005 (eXFunctor.b a0)] .nil (by kernel_rfl) (by kernel_rfl) ?_
      rcases Bool.eq_false_or_eq_true (decide (v5 < 0)) with h6 | h6
      · have hM := ite_true' hM h6
        refine tr_condTe (e := decide (v5 < 0)) h6 (by kernel_rfl) ?_
        refine tr_sr hT hm [] [8] [(8, .d (iv (-1)))] .nil (by kernel_rfl) (by kernel_rfl) ?_
        refine tr_ret (q_r (rg_r ?_))
        obtain rfl := Option.some.inj hM
        exact retg (names := []) .nil (by kernel_rfl)
      · have hM := ite_false' hM h6
        refine tr_condFe (e := decide (v5 < 0)) h6 (by kernel_rfl) ?_
        refine tr_skip (q_n ?_)
        obtain ⟨v7, hv7, hM⟩ := bind_some' hM
        refine tr_sr hT hm [(3, .call [] [] [.sl a0.Arrows.length 0 (a0.Arrows.flatMap eI.b), iv v5] [] (iv v7))] [2] [(2, .d (iv v7))] (cc0 ok43 (laws_heldInt64S_c a0.Arrows v5 _ hv7) (by kernel_rfl) .nil) (by kernel_rfl) (by kernel_rfl) ?_
        refine tr_seq ?_
        refine tr_sr hT hm [] [2, 56] [(2, .d (iv v7)), (56, .d (bv (decide (v7 < 0))))] .nil (by kernel_rfl) (by kernel_rfl) ?_
        rcases Bool.eq_false_or_eq_true (decide (v7 < 0)) with h8 | h8
        · have hM := ite_true' hM h8
          refine tr_condTe (e := decide (v7 < 0)) h8 (by kernel_rfl) ?_
          refine tr_sr hT hm [] [8] [(8, .d (iv (-1)))] .nil (by kernel_rfl) (by kernel_rfl) ?_
          refine tr_ret (q_r (rg_r ?_))
          obtain rfl := Option.some.inj hM
          exact retg (names := []) .nil (by kernel_rfl)
        · have hM := ite_false' hM h8
          refine tr_condFe (e := decide (v7 < 0)) h8 (by kernel_rfl) ?_
          refine tr_skip (q_n ?_)
          refine tr_sr hT hm [] [8] [(8, .d (iv v7))] .nil (by kernel_rfl) (by kernel_rfl) ?_
          refine tr_ret (rg_r ?_)
          obtain rfl := Option.some.inj hM
          exact retg (names := []) .nil (by kernel_rfl)

end Go.Proofs.Ythafadgnjkmfkaa.WvB
