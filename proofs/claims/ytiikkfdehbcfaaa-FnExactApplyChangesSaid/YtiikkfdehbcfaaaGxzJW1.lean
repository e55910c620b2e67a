/- Walks. Printed by wip/gen. -/
import Derived.Test.YtiikkfdehbcfaaaGxzJW0
namespace Go.Proofs.Ytiikkfdehbcfaaa.WzJ
open Go.Gx Go.Proofs.Ytiikkfdehbcfaaa.WvB Go.Proofs.Ytiikkfdehbcfaaa.WyN Go.Proofs.Ytiikkfdehbcfaaa.WzS

theorem ok99 : CallOk Try.prog 99 := callOk_of Try.func99 (by kernel_rfl) (by kernel_rfl)
theorem laws_markPathS_c (a0 : List XPath) (a1 : Int) (r : Int × (List XPath)) (hM : M.laws_markPathS a0 a1 = some r) :
    FnC Try.prog 99 [(0, .arr 2 (a0.flatMap eXPath.o) [])] [.rs 0 0 a0.length, iv a1] [(0, .arr 2 (r.2.flatMap eXPath.o) [])] (iv r.1) := by
  refine fnc_startG (N := 27) (np := 500) hT Try.func99 rfl rfl (by kernel_rfl) ?_
  unfold M.laws_markPathS at hM
  refine tr_start (ks := [0, 1, 2]) (st' := [(0, .d (.rs 0 0 a0.length)), (1, .r (.arr 2 (a0.flatMap eXPath.o) [])), (2, .d (iv a1))]) (by kernel_rfl) ?_
  refine tr_sr hT hm [] [0, 1, 2] [(0, .d (.rs 0 0 a0.length)), (1, .r (.arr 2 (a0.flatMap eXPath.o) [])), (2, .d (iv a1))] .nil (by kernel_rfl) (by kernel_rfl) ?_
  refine tr_seq ?_
  refine tr_sr hT hm [] [0, 1, 2, 10] [(0, .d (.rs 0 0 a0.length)), (1, .r (.arr 2 (a0.flatMap eXPath.o) [])), (2, .d (iv a1)), (10, .d (iv 0))] .nil (by kernel_rfl) (by kernel_rfl) ?_
  refine tr_block ?_
  refine tr_iterS (fun (s1 : (List XPath) × Int × Int) => [(0, .d (.rs 0 0 s1.1.length)), (1, .r (.arr 2 (s1.1.flatMap eXPath.o) [])), (2, .d (iv s1.2.1)), (10, .d (iv s1.2.2))]) (a0, a1, 0) [0, 1, 2, 10] (by kernel_rfl) hM ?_
  intro n4 next2 ih3 s1 hM
  refine tr_seq ?_
  refine tr_sr hT hm [] [0, 1, 2, 10, 18] [(0, .d (.rs 0 0 s1.1.length)), (1, .r (.arr 2 (s1.1.flatMap eXPath.o) [])), (2, .d (iv s1.2.1)), (10, .d (iv s1.2.2)), (18, .d (bv (decide (s1.2.2 < (s1.1.length : Int)))))] .nil (by kernel_rfl) (by kernel_rfl) ?_
  rcases Bool.eq_false_or_eq_true (decide (s1.2.2 < (s1.1.length : Int))) with h5 | h5
  · have hM := ite_true' hM h5
    refine tr_condTe (e := decide (s1.2.2 < (s1.1.length : Int))) h5 (by kernel_rfl) ?_
    refine tr_skip (q_n ?_)
    refine tr_seq ?_
    refine tr_block ?_
    obtain ⟨y6, hy6, hM⟩ := bind_some' hM
    have hy6' := idx_some hy6
    refine tr_sr hT hm [] [0, 1, 2, 10] [(0, .d (.rs 0 0 s1.1.length)), (1, .r (.arr 2 ((s1.1.flatMap eXPath.o).take (0 + s1.2.2.toNat * 2) ++ [iv s1.2.1] ++ (s1.1.flatMap eXPath.o).drop (0 + s1.2.2.toNat * 2 + 1)) [])), (2, .d (iv s1.2.1)), (10, .d (iv s1.2.2))] (.cons hy6'.1 (.cons hy6'.2.1 (.cons (store_le_f (j := 0) (n := 1) eXPath_ok hy6'.2.2 (by kernel_rfl)) .nil))) (by kernel_rfl) (by kernel_rfl) ?_
    refine Tr.by (imp_cvE (r := 0) (sz := 2) (refs := []) (set_fldE (j := 0) (v := iv s1.2.1) (y := (⟨s1.2.1, y6.Edges⟩ : XPath)) eXPath_ok hy6'.2.2 (by kernel_rfl) (by kernel_rfl)) (menO_flat eXPath_ok _) (by kernel_rfl)) ?_
    refine Tr.by (imp_cvD (k := 0) (congrArg (D.rs 0 0) (List.length_set.symm : s1.1.length = (s1.1.set s1.2.2.toNat (⟨s1.2.1, y6.Edges⟩ : XPath)).length)) (by kernel_rfl)) ?_
    refine tr_sr hT hm [] [0, 1, 2, 10] [(0, .d (.rs 0 0 ((s1.1.set s1.2.2.toNat (⟨s1.2.1, y6.Edges⟩ : XPath)).length))), (1, .r (.arr 2 ((s1.1.set s1.2.2.toNat (⟨s1.2.1, y6.Edges⟩ : XPath)).flatMap eXPath.o) [])), (2, .d (iv (IntKind.i64.wrap (s1.2.1 + 1)))), (10, .d (iv s1.2.2))] .nil (by kernel_rfl) (by kernel_rfl) ?_
    obtain ⟨y7, hy7, hM⟩ := bind_some' hM
    have hy7' := idx_some hy7
    refine Tr.by (imp_fldOut (e' := eI) (r := 0) (q := 700012) (i := s1.2.2) (xs := (s1.1.set s1.2.2.toNat (⟨s1.2.1, y6.Edges⟩ : XPath))) (e := eXPath) (l := y7.Edges) (j := 1) eXPath_ok hy7'.2.2 (by kernel_rfl) (by kernel_rfl) (by kernel_rfl)) ?_
    obtain ⟨v8, hv8, hM⟩ := bind_some' hM
    refine tr_r hT hm [(4, .val (.rs 700012 0 y7.Edges.length)), (6, .call [] [(0, 700012)] [.rs 0 0 y7.Edges.length, iv (IntKind.i64.wrap (s1.2.1 + 1))] [(0, .arr 1 (v8.2.flatMap eI.o) [])] (iv v8.1))] [0, 1, 2, 10, 1400025] [(0, .d (.rs 0 0 ((s1.1.set s1.2.2.toNat (⟨s1.2.1, y6.Edges⟩ : XPath)).length))), (1, .r (.arr 2 (((s1.1.set s1.2.2.toNat (⟨s1.2.1, y6.Edges⟩ : XPath)).flatMap eXPath.o).set (0 + s1.2.2.toNat * 2 + 1) (.rs 700012 0 y7.Edges.length)) [700012])), (2, .d (iv v8.1)), (10, .d (iv s1.2.2)), (1400025, .r (.arr 1 (v8.2.flatMap eI.o) []))] (.cons hy7'.1 (.cons hy7'.2.1 (.cons (set_at (d := .rs 700012 0 y7.Edges.length) (store_le_f (j := 1) (n := 1) eXPath_ok hy7'.2.2 (by kernel_rfl))) (cc (B := []) (ρ := [(0, 700012)]) (rB := []) ok37 (laws_markInt64S_c y7.Edges (IntKind.i64.wrap (s1.2.1 + 1)) _ hv8) (.cons (.pass (.rs rfl)) (.cons (.same rfl) .nil)) (.inl rfl) .nil)))) (by kernel_rfl) (by kernel_rfl) (b_n (q_n ?_))
    refine Tr.by (imp_fldBack (e' := eI) (r := 0) (q := 700012) (n := y7.Edges.length) (i := s1.2.2) (xs := (s1.1.set s1.2.2.toNat (⟨s1.2.1, y6.Edges⟩ : XPath))) (e := eXPath) (l := v8.2) (y := (⟨y7.Start, v8.2⟩ : XPath)) (j := 1) eXPath_ok eI_ok hy7'.2.2 (by kernel_rfl) (by kernel_rfl) (M.len_markInt64S hv8) (by kernel_rfl) (by kernel_rfl) (by kernel_rfl)) ?_
    refine Tr.by (imp_cvD (k := 0) (congrArg (D.rs 0 0) (List.length_set.symm : (s1.1.set s1.2.2.toNat (⟨s1.2.1, y6.Edges⟩ : XPath)).length = ((s1.1.set s1.2.2.toNat (⟨s1.2.1, y6.Edges⟩ : XPath)).set s1.2.2.toNat (⟨y7.Start, v8.2⟩ : XPath)).length)) (by kernel_rfl)) ?_
    refine tr_r hT hm [] [0, 1, 2, 10] [(0, .d (.rs 0 0 (((s1.1.set s1.2.2.toNat (⟨s1.2.1, y6.Edges⟩ : XPath)).set s1.2.2.toNat (⟨y7.Start, v8.2⟩ : XPath)).length))), (1, .r (.arr 2 (((s1.1.set s1.2.2.toNat (⟨s1.2.1, y6.Edges⟩ : XPath)).set s1.2.2.toNat (⟨y7.Start, v8.2⟩ : XPath)).flatMap eXPath.o) [])), (2, .d (iv v8.1)), (10, .d (iv (IntKind.i64.wrap (s1.2.2 + 1))))] .nil (by kernel_rfl) (by kernel_rfl) (l_n ?_)
    exact trl_start (ks := [0, 1, 2, 10]) (by kernel_rfl) (ih3 ((s1.1.set s1.2.2.toNat (⟨s1.2.1, y6.Edges⟩ : XPath)).set s1.2.2.toNat (⟨y7.Start, v8.2⟩ : XPath), v8.1, IntKind.i64.wrap (s1.2.2 + 1)) hM)
  · have hM := ite_false' hM h5
    refine tr_condFe (e := decide (s1.2.2 < (s1.1.length : Int))) h5 (by kernel_rfl) ?_
    refine tr_exit (q_x (l_x (b_h (q_n ?_))))
    refine tr_sr hT hm [] [1, 8] [(1, .r (.arr 2 (s1.1.flatMap eXPath.o) [])), (8, .d (iv s1.2.1))] .nil (by kernel_rfl) (by kernel_rfl) ?_
    refine tr_ret (rg_r ?_)
    obtain rfl := Option.some.inj hM
    exact retg (names := [0]) .nil (by kernel_rfl)

theorem ok36 : CallOk Try.prog 36 := callOk_of Try.func36 (by kernel_rfl) (by kernel_rfl)
theorem laws_markSchema_c (a0 : XSchema) (a1 : Int) (r : Int × XSchema) (hM : M.laws_markSchema a0 a1 = some r) :
    FnC Try.prog 36 [(101, .arr 1 (a0.From.flatMap eI.o) []), (102, .arr 1 (a0.To.flatMap eI.o) []), (103, .arr 2 (a0.Left.flatMap eXPath.o) []), (104, .arr 2 (a0.Right.flatMap eXPath.o) [])] [.agg [iv a0.Nodes, .rs 101 0 a0.From.length, .rs 102 0 a0.To.length, .rs 103 0 a0.Left.length, .rs 104 0 a0.Right.length], iv a1] [(101, .arr 1 (r.2.From.flatMap eI.o) []), (102, .arr 1 (r.2.To.flatMap eI.o) []), (103, .arr 2 (r.2.Left.flatMap eXPath.o) []), (104, .arr 2 (r.2.Right.flatMap eXPath.o) [])] (iv r.1) := by
  refine fnc_startG (N := 22) (np := 500) hT Try.func36 rfl rfl (by kernel_rfl) ?_
  unfold M.laws_markSchema at hM
  refine tr_start (ks := [0, 2, 203, 205, 207, 209]) (st' := ([(0, .d (.agg (rsC 100 (eXSchema.o a0)))), (2, .d (iv a1))] ++ rsS 100 (eXSchema.o a0))) (by kernel_rfl) ?_
  refine tr_sr hT hm [] [2, 4, 203, 205, 207, 209, 2005] ([(2, .d (iv a1)), (4, .d (.rp 1002 0))] ++ rsS 100 (eXSchema.o a0) ++ [bxO 2005 100 (eXSchema.o a0)]) .nil (by kernel_rfl) (by kernel_rfl) ?_
  obtain ⟨v1, hv1, hM⟩ := bind_some' hM
  refine tr_sr hT hm [(3, .call [] [(0, 101)] [.rs 0 0 a0.From.length, iv a1] [(0, .arr 1 (v1.2.flatMap eI.o) [])] (iv v1.1))] [2, 4, 203, 205, 207, 209, 2005] [(2, .d (iv v1.1)), (4, .d (.rp 1002 0)), (203, .r (.arr 1 (v1.2.flatMap eI.o) [])), (205, .r (.arr 1 (a0.To.flatMap eI.o) [])), (207, .r (.arr 2 (a0.Left.flatMap eXPath.o) [])), (209, .r (.arr 2 (a0.Right.flatMap eXPath.o) [])), bxO 2005 100 (eXSchema.o a0)] (cc (B := []) (ρ := [(0, 101)]) (rB := []) ok37 (laws_markInt64S_c a0.From a1 _ hv1) (.cons (.pass (.rs rfl)) (.cons (.same rfl) .nil)) (.inl rfl) .nil) (by kernel_rfl) (by kernel_rfl) ?_
  refine Tr.by (imp_cvB (r := 1002) (sz := 1) (cells := [iv a0.Nodes, .rs 101 0 a0.From.length, .rs 102 0 a0.To.length, .rs 103 0 a0.Left.length, .rs 104 0 a0.Right.length]) (cells' := [iv a0.Nodes, .rs 101 0 v1.2.length, .rs 102 0 a0.To.length, .rs 103 0 a0.Left.length, .rs 104 0 a0.Right.length]) (refs := [101, 102, 103, 104]) (refs' := [101, 102, 103, 104]) (.cons (.refl _) (.cons (Sub.of_eq (congrArg (D.rs 101 0) ((M.len_markInt64S hv1) : a0.From.length = v1.2.length))) (.cons (.refl _) (.cons (.refl _) (.cons (.refl _) .nil))))) (by kernel_rfl) (by kernel_rfl) (by kernel_rfl)) ?_
  obtain ⟨v2, hv2, hM⟩ := bind_some' hM
  refine tr_sr hT hm [(3, .call [] [(0, 102)] [.rs 0 0 a0.To.length, iv v1.1] [(0, .arr 1 (v2.2.flatMap eI.o) [])] (iv v2.1))] [2, 4, 203, 205, 207, 209, 2005] [(2, .d (iv v2.1)), (4, .d (.rp 1002 0)), (203, .r (.arr 1 (v1.2.flatMap eI.o) [])), (205, .r (.arr 1 (v2.2.flatMap eI.o) [])), (207, .r (.arr 2 (a0.Left.flatMap eXPath.o) [])), (209, .r (.arr 2 (a0.Right.flatMap eXPath.o) [])), (2005, .r (.arr 1 [iv a0.Nodes, .rs 101 0 v1.2.length, .rs 102 0 a0.To.length, .rs 103 0 a0.Left.length, .rs 104 0 a0.Right.length] [101, 102, 103, 104]))] (cc (B := []) (ρ := [(0, 102)]) (rB := []) ok37 (laws_markInt64S_c a0.To v1.1 _ hv2) (.cons (.pass (.rs rfl)) (.cons (.same rfl) .nil)) (.inl rfl) .nil) (by kernel_rfl) (by kernel_rfl) ?_
  refine Tr.by (imp_cvB (r := 1002) (sz := 1) (cells := [iv a0.Nodes, .rs 101 0 v1.2.length, .rs 102 0 a0.To.length, .rs 103 0 a0.Left.length, .rs 104 0 a0.Right.length]) (cells' := [iv a0.Nodes, .rs 101 0 v1.2.length, .rs 102 0 v2.2.length, .rs 103 0 a0.Left.length, .rs 104 0 a0.Right.length]) (refs := [101, 102, 103, 104]) (refs' := [101, 102, 103, 104]) (.cons (.refl _) (.cons (.refl _) (.cons (Sub.of_eq (congrArg (D.rs 102 0) ((M.len_markInt64S hv2) : a0.To.length = v2.2.length))) (.cons (.refl _) (.cons (.refl _) .nil))))) (by kernel_rfl) (by kernel_rfl) (by kernel_rfl)) ?_
  obtain ⟨v3, hv3, hM⟩ := bind_some' hM
  refine tr_sr hT hm [(3, .call [] [(0, 103)] [.rs 0 0 a0.Left.length, iv v2.1] [(0, .arr 2 (v3.2.flatMap eXPath.o) [])] (iv v3.1))] [2, 4, 203, 205, 207, 209, 2005] [(2, .d (iv v3.1)), (4, .d (.rp 1002 0)), (203, .r (.arr 1 (v1.2.flatMap eI.o) [])), (205, .r (.arr 1 (v2.2.flatMap eI.o) [])), (207, .r (.arr 2 (v3.2.flatMap eXPath.o) [])), (209, .r (.arr 2 (a0.Right.flatMap eXPath.o) [])), (2005, .r (.arr 1 [iv a0.Nodes, .rs 101 0 v1.2.length, .rs 102 0 v2.2.length, .rs 103 0 a0.Left.length, .rs 104 0 a0.Right.length] [101, 102, 103, 104]))] (cc (B := []) (ρ := [(0, 103)]) (rB := []) ok99 (laws_markPathS_c a0.Left v2.1 _ hv3) (.cons (.pass (.rs rfl)) (.cons (.same rfl) .nil)) (.inl rfl) .nil) (by kernel_rfl) (by kernel_rfl) ?_
  refine Tr.by (imp_cvB (r := 1002) (sz := 1) (cells := [iv a0.Nodes, .rs 101 0 v1.2.length, .rs 102 0 v2.2.length, .rs 103 0 a0.Left.length, .rs 104 0 a0.Right.length]) (cells' := [iv a0.Nodes, .rs 101 0 v1.2.length, .rs 102 0 v2.2.length, .rs 103 0 v3.2.length, .rs 104 0 a0.Right.length]) (refs := [101, 102, 103, 104]) (refs' := [101, 102, 103, 104]) (.cons (.refl _) (.cons (.refl _) (.cons (.refl _) (.cons (Sub.of_eq (congrArg (D.rs 103 0) ((M.len_markPathS hv3) : a0.Left.length = v3.2.length))) (.cons (.refl _) .nil))))) (by kernel_rfl) (by kernel_rfl) (by kernel_rfl)) ?_
  obtain ⟨v4, hv4, hM⟩ := bind_some' hM
  refine tr_sr hT hm [(3, .call [] [(0, 104)] [.rs 0 0 a0.Right.length, iv v3.1] [(0, .arr 2 (v4.2.flatMap eXPath.o) [])] (iv v4.1))] [2, 203, 205, 207, 209] [(2, .d (iv v4.1)), (203, .r (.arr 1 (v1.2.flatMap eI.o) [])), (205, .r (.arr 1 (v2.2.flatMap eI.o) [])), (207, .r (.arr 2 (v3.2.flatMap eXPath.o) [])), (209, .r (.arr 2 (v4.2.flatMap eXPath.o) []))] (cc (B := []) (ρ := [(0, 104)]) (rB := []) ok99 (laws_markPathS_c a0.Right v3.1 _ hv4) (.cons (.pass (.rs rfl)) (.cons (.same rfl) .nil)) (.inl rfl) .nil) (by kernel_rfl) (by kernel_rfl) ?_
  refine tr_sr hT hm [] [8, 203, 205, 207, 209] [(8, .d (iv v4.1)), (203, .r (.arr 1 (v1.2.flatMap eI.o) [])), (205, .r (.arr 1 (v2.2.flatMap eI.o) [])), (207, .r (.arr 2 (v3.2.flatMap eXPath.o) [])), (209, .r (.arr 2 (v4.2.flatMap eXPath.o) []))] .nil (by kernel_rfl) (by kernel_rfl) ?_
  refine tr_ret (rg_r ?_)
  obtain rfl := Option.some.inj hM
  exact retg (names := [101, 102, 103, 104]) .nil (by kernel_rfl)

theorem ok173 : CallOk Try.prog 173 := callOk_of Try.func173 (by kernel_rfl) (by kernel_rfl)
theorem impl_isMapOf_c (a0 : List Int) (a1 : Int) (a2 : Int) (r : Bool) (hM : M.impl_isMapOf a0 a1 a2 = some r) :
    FnC Try.prog 173 [] [.sl a0.length 0 (a0.flatMap eI.b), iv a1, iv a2] [] (bv r) := by
  refine fnc_startG (N := 16) (np := 500) hT Try.func173 rfl rfl (by kernel_rfl) ?_
  unfold M.impl_isMapOf at hM
  refine tr_start (ks := [0, 2, 4]) (st' := [(0, .d (.sl a0.length 0 (a0.flatMap eI.b))), (2, .d (iv a1)), (4, .d (iv a2))]) (by kernel_rfl) ?_
  refine tr_sr hT hm [] [0, 2, 4] [(0, .d (.sl a0.length 0 (a0.flatMap eI.b))), (2, .d (iv a1)), (4, .d (iv a2))] .nil (by kernel_rfl) (by kernel_rfl) ?_
  rcases Bool.eq_false_or_eq_true ((a0.length : Int) == a1) with h1 | h1
  · have hM := ite_true' hM h1
    obtain ⟨v2, hv2, hM⟩ := bind_some' hM
    refine tr_sr hT hm [(4, .val (bv true)), (7, .call [] [] [.sl a0.length 0 (a0.flatMap eI.b), iv a2] [] (bv v2))] [12] [(12, .d (bv v2))] (.cons (congrArg (fun b => bv b) h1) (cc0 ok160 (impl_within_c a0 a2 _ hv2) (by kernel_rfl) .nil)) (by kernel_rfl) (by kernel_rfl) ?_
    refine tr_ret (rg_r ?_)
    obtain rfl := Option.some.inj hM
    exact retg (names := []) .nil (by kernel_rfl)
  · have hM := ite_false' hM h1
    refine tr_sr hT hm [(4, .val (bv false))] [12] [(12, .d (bv false))] (.cons (congrArg (fun b => bv b) h1) .nil) (by kernel_rfl) (by kernel_rfl) ?_
    refine tr_ret (rg_r ?_)
    obtain rfl := Option.some.inj hM
    exact retg (names := []) .nil (by kernel_rfl)

end Go.Proofs.Ytiikkfdehbcfaaa.WzJ
