/- Walks. Printed by wip/gen. -/
import Derived.Test.YtaijkiepcaobiaaGxv08M
import Derived.Test.YtaijkiepcaobiaaGxvPW2
import Derived.Test.YtaijkiepcaobiaaGxvSW
import Derived.KernelRfl
namespace Go.Proofs.Ytaijkiepcaobiaa.Wv08
open Go.Gx Go.Proofs.Ytaijkiepcaobiaa.WvB Go.Proofs.Ytaijkiepcaobiaa.WvP Go.Proofs.Ytaijkiepcaobiaa.WvS

theorem eXCategory_r : EncR eXCategory := (eA_r (eC_r eI_r _) (eA_r (eC_r (eS_r eI_ok) _) (eA_r (eC_r (eS_r eI_ok) _) (eA_r (eC_r (eS_r eI_ok) _) (eC_r (eS_r (eS_ok eI_ok)) _)))))
theorem eXFunctor_r : EncR eXFunctor := (eA_r (eC_r eXCategory_r _) (eA_r (eC_r eXCategory_r _) (eA_r (eC_r (eS_r eI_ok) _) (eC_r (eS_r eI_ok) _))))
theorem eXends_r : EncR eXends := (eA_r (eC_r eI_r _) (eC_r eI_r _))
theorem eXTransformation_r : EncR eXTransformation := (eA_r (eC_r eXFunctor_r _) (eA_r (eC_r eXFunctor_r _) (eC_r (eS_r eI_ok) _)))
def T : Tab := [(2, ⟨.int .i64, 1, 8, [.int .i64 0]⟩),
  (22, ⟨.slice 2, 1, 24, [.slice .none 0 0]⟩),
  (23, ⟨.slice 22, 1, 24, [.slice .none 0 0]⟩),
  (29, ⟨.struct #[⟨"Objects", 2, 0, false, "", "", 0⟩, ⟨"From", 22, 1, false, "", "", 8⟩, ⟨"To", 22, 2, false, "", "", 32⟩, ⟨"Identity", 22, 3, false, "", "", 56⟩, ⟨"Composites", 23, 4, false, "", "", 80⟩], 5, 104, [.int .i64 0, .slice .none 0 0, .slice .none 0 0, .slice .none 0 0, .slice .none 0 0]⟩),
  (31, ⟨.struct #[⟨"Source", 29, 0, false, "", "", 0⟩, ⟨"Target", 29, 5, false, "", "", 104⟩, ⟨"Objects", 22, 10, false, "", "", 208⟩, ⟨"Arrows", 22, 11, false, "", "", 232⟩], 12, 256, [.int .i64 0, .slice .none 0 0, .slice .none 0 0, .slice .none 0 0, .slice .none 0 0, .int .i64 0, .slice .none 0 0, .slice .none 0 0, .slice .none 0 0, .slice .none 0 0, .slice .none 0 0, .slice .none 0 0]⟩),
  (88, ⟨.pointer 29, 1, 8, [.pointer .none]⟩),
  (162, ⟨.slice 88, 1, 24, [.slice .none 0 0]⟩)]
theorem hT : TabOk Try.prog T := ⟨tiok (by kernel_rfl) (by kernel_rfl), tiok (by kernel_rfl) (by kernel_rfl), tiok (by kernel_rfl) (by kernel_rfl), tiok (by kernel_rfl) (by kernel_rfl), tiok (by kernel_rfl) (by kernel_rfl), tiok (by kernel_rfl) (by kernel_rfl), tiok (by kernel_rfl) (by kernel_rfl), trivial⟩
theorem hm : Try.prog.follows .mixedOrders = true := by kernel_rfl

theorem ok90 : CallOk Try.prog 90 := callOk_of Try.func90 (by kernel_rfl) (by kernel_rfl)
theorem spec_l02Object_c (a0 : XCategory) (a1 : Int) (r : Bool) (hM : M.spec_l02Object a0 a1 = some r) :
    FnC Try.prog 90 [] [.agg (eXCategory.b a0), iv a1] [] (bv r) := by
  refine fnc_startG (N := 13) (np := 500) hT Try.func90 rfl rfl (by kernel_rfl) ?_
  unfold M.spec_l02Object at hM
  refine tr_start (ks := [0, 2]) (st' := [(0, .d (.agg (eXCategory.b a0))), (2, .d (iv a1))]) (by kernel_rfl) ?_
  refine tr_sr hT hm [] [2, 4, 2005] [(2, .d (iv a1)), (4, .d (.rp 1002 0)), bxB 2005 (eXCategory.b a0)] .nil (by kernel_rfl) (by kernel_rfl) ?_
  rcases Bool.eq_false_or_eq_true (decide (a1 ≥ 0)) with h1 | h1
  · have hM := ite_true' hM h1
    refine tr_sr hT hm [(2, .val (bv true))] [8] [(8, .d (bv (decide (a1 < a0.Objects))))] (.cons (congrArg (fun b => bv b) h1) .nil) (by kernel_rfl) (by kernel_rfl) ?_
    refine tr_ret (rg_r ?_)
    obtain rfl := Option.some.inj hM
    exact retg (names := []) .nil (by kernel_rfl)
  · have hM := ite_false' hM h1
    refine tr_sr hT hm [(2, .val (bv false))] [8] [(8, .d (bv false))] (.cons (congrArg (fun b => bv b) h1) .nil) (by kernel_rfl) (by kernel_rfl) ?_
    refine tr_ret (rg_r ?_)
    obtain rfl := Option.some.inj hM
    exact retg (names := []) .nil (by kernel_rfl)

theorem ok89 : CallOk Try.prog 89 := callOk_of Try.func89 (by kernel_rfl) (by kernel_rfl)
theorem spec_l08Two_c (a0 : XCategory) (a1 : XCategory) (a2 : XFunctor) (a3 : Bool) (r : Int) (hM : M.spec_l08Two a0 a1 a2 a3 = some r) :
    FnC Try.prog 89 [] [.agg (eXCategory.b a0), .agg (eXCategory.b a1), .agg (eXFunctor.b a2), bv a3] [] (iv r) := by
  refine fnc_startG (N := 34) (np := 500) hT Try.func89 rfl rfl (by kernel_rfl) ?_
  unfold M.spec_l08Two at hM
  refine tr_start (ks := [0, 2, 4, 6]) (st' := [(0, .d (.agg (eXCategory.b a0))), (2, .d (.agg (eXCategory.b a1))), (4, .d (.agg (eXFunctor.b a2))), (6, .d (bv a3))]) (by kernel_rfl) ?_
  refine tr_sr hT hm [] [6, 8, 10, 12, 2009, 2011, 2013] [(6, .d (bv a3)), (8, .d (.rp 1004 0)), (10, .d (.rp 1005 0)), (12, .d (.rp 1006 0)), bxB 2009 (eXCategory.b a0), bxB 2011 (eXCategory.b a1), bxB 2013 (eXFunctor.b a2)] .nil (by kernel_rfl) (by kernel_rfl) ?_
  refine tr_seq ?_
  refine tr_block ?_
  obtain ⟨v1, hv1, hM⟩ := bind_some' hM
  rcases Bool.eq_false_or_eq_true v1 with h2 | h2
  · have hM := ite_true' hM h2
    obtain ⟨v3, hv3, hM⟩ := bind_some' hM
    rcases Bool.eq_false_or_eq_true v3 with h4 | h4
    · have hM := ite_true' hM h4
      obtain ⟨v5, hv5, hM⟩ := bind_some' hM
      refine tr_sr hT hm [(1, .call [] [] [.agg (eXCategory.b a0)] [] (bv v1)), (3, .val (bv false)), (5, .call [] [] [.agg (eXCategory.b a1)] [] (bv v3)), (8, .val (bv false)), (10, .call [] [] [.agg (eXFunctor.b a2)] [] (bv v5))] [6, 8, 10, 12, 18, 2009, 2011, 2013] [(6, .d (bv a3)), (8, .d (.rp 1004 0)), (10, .d (.rp 1005 0)), (12, .d (.rp 1006 0)), (18, .d (bv (!v5))), bxB 2009 (eXCategory.b a0), bxB 2011 (eXCategory.b a1), bxB 2013 (eXFunctor.b a2)] (cc0 ok142 (spec_l02Is_c a0 _ hv1) (by kernel_rfl) (.cons (congrArg (fun b => bv b) (congrArg not h2)) (cc0 ok142 (spec_l02Is_c a1 _ hv3) (by kernel_rfl) (.cons (congrArg (fun b => bv b) (congrArg not h4)) (cc0 ok105 (spec_l06Is_c a2 _ hv5) (by kernel_rfl) .nil))))) (by kernel_rfl) (by kernel_rfl) ?_
      rcases Bool.eq_false_or_eq_true v5 with h6 | h6
      · have hM := ite_true' hM h6
        refine tr_condFe (e := !v5) (congrArg not h6) (by kernel_rfl) ?_
        refine tr_sr hT hm [] [8, 10, 12, 46, 2009, 2011, 2013] [(8, .d (.rp 1004 0)), (10, .d (.rp 1005 0)), (12, .d (.rp 1006 0)), (46, .d (bv (!a3))), bxB 2009 (eXCategory.b a0), bxB 2011 (eXCategory.b a1), bxB 2013 (eXFunctor.b a2)] .nil (by kernel_rfl) (by kernel_rfl) ?_
        rcases Bool.eq_false_or_eq_true a3 with h7 | h7
        · have hM := ite_true' hM h7
          refine tr_condFe (e := !a3) (congrArg not h7) (by kernel_rfl) ?_
          obtain ⟨v8, hv8, hM⟩ := bind_some' hM
          obtain ⟨v9, hv9, hM⟩ := bind_some' hM
          refine tr_sr hT hm [(4, .call [] [] [.agg (eXCategory.b a0), .agg (eXCategory.b a1)] [] (.agg (eXCategory.o v8))), (5, .call (rsR 33000 (eXCategory.o v8)) [] [.agg (eXCategory.b a2.Source), .agg (eXCategory.b v8)] [] (bv v9))] [52] [(52, .d (bv (!v9)))] (cc0 ok76 (spec_l03Product_c a0 a1 _ hv8) (by kernel_rfl) (cc (B := (rsR 33000 (eXCategory.o v8))) (ρ := []) (rB := (rsP 33000 (eXCategory.o v8))) ok66 (spec_l02Same_c a2.Source v8 _ hv9) (.cons (.same rfl) (.cons (bor_rs eXCategory_r (q := 33000) (x := v8) (by kernel_rfl) (by kernel_rfl)) .nil)) (.inr ⟨.v, trivial⟩) .nil)) (by kernel_rfl) (by kernel_rfl) ?_
          rcases Bool.eq_false_or_eq_true v9 with h10 | h10
          · have hM := ite_true' hM h10
            refine tr_condFe (e := !v9) (congrArg not h10) (by kernel_rfl) ?_
            refine tr_skip (b_n (q_n ?_))
            refine tr_sr hT hm [] [16] [(16, .d (iv 0))] .nil (by kernel_rfl) (by kernel_rfl) ?_
            refine tr_ret (rg_r ?_)
            obtain rfl := Option.some.inj hM
            exact retg (names := []) .nil (by kernel_rfl)
          · have hM := ite_false' hM h10
            refine tr_condTe (e := !v9) (congrArg not h10) (by kernel_rfl) ?_
            refine tr_sr hT hm [] [16] [(16, .d (iv 5))] .nil (by kernel_rfl) (by kernel_rfl) ?_
            refine tr_ret (b_r (q_r (rg_r ?_)))
            obtain rfl := Option.some.inj hM
            exact retg (names := []) .nil (by kernel_rfl)
        · have hM := ite_false' hM h7
          refine tr_condTe (e := !a3) (congrArg not h7) (by kernel_rfl) ?_
          refine tr_sr hT hm [] [16] [(16, .d (iv 2))] .nil (by kernel_rfl) (by kernel_rfl) ?_
          refine tr_ret (b_r (q_r (rg_r ?_)))
          obtain rfl := Option.some.inj hM
          exact retg (names := []) .nil (by kernel_rfl)
      · have hM := ite_false' hM h6
        refine tr_condTe (e := !v5) (congrArg not h6) (by kernel_rfl) ?_
        refine tr_sr hT hm [] [16] [(16, .d (iv 1))] .nil (by kernel_rfl) (by kernel_rfl) ?_
        refine tr_ret (b_r (q_r (rg_r ?_)))
        obtain rfl := Option.some.inj hM
        exact retg (names := []) .nil (by kernel_rfl)
    · have hM := ite_false' hM h4
      refine tr_sr hT hm [(1, .call [] [] [.agg (eXCategory.b a0)] [] (bv v1)), (3, .val (bv false)), (5, .call [] [] [.agg (eXCategory.b a1)] [] (bv v3)), (8, .val (bv true))] [6, 8, 10, 12, 18, 2009, 2011, 2013] [(6, .d (bv a3)), (8, .d (.rp 1004 0)), (10, .d (.rp 1005 0)), (12, .d (.rp 1006 0)), (18, .d (bv true)), bxB 2009 (eXCategory.b a0), bxB 2011 (eXCategory.b a1), bxB 2013 (eXFunctor.b a2)] (cc0 ok142 (spec_l02Is_c a0 _ hv1) (by kernel_rfl) (.cons (congrArg (fun b => bv b) (congrArg not h2)) (cc0 ok142 (spec_l02Is_c a1 _ hv3) (by kernel_rfl) (.cons (congrArg (fun b => bv b) (congrArg not h4)) .nil)))) (by kernel_rfl) (by kernel_rfl) ?_
      refine tr_condT (by kernel_rfl) ?_
      refine tr_sr hT hm [] [16] [(16, .d (iv 1))] .nil (by kernel_rfl) (by kernel_rfl) ?_
      refine tr_ret (b_r (q_r (rg_r ?_)))
      obtain rfl := Option.some.inj hM
      exact retg (names := []) .nil (by kernel_rfl)
  · have hM := ite_false' hM h2
    refine tr_sr hT hm [(1, .call [] [] [.agg (eXCategory.b a0)] [] (bv v1)), (3, .val (bv true))] [6, 8, 10, 12, 18, 2009, 2011, 2013] [(6, .d (bv a3)), (8, .d (.rp 1004 0)), (10, .d (.rp 1005 0)), (12, .d (.rp 1006 0)), (18, .d (bv true)), bxB 2009 (eXCategory.b a0), bxB 2011 (eXCategory.b a1), bxB 2013 (eXFunctor.b a2)] (cc0 ok142 (spec_l02Is_c a0 _ hv1) (by kernel_rfl) (.cons (congrArg (fun b => bv b) (congrArg not h2)) .nil)) (by kernel_rfl) (by kernel_rfl) ?_
    refine tr_condT (by kernel_rfl) ?_
    refine tr_sr hT hm [] [16] [(16, .d (iv 1))] .nil (by kernel_rfl) (by kernel_rfl) ?_
    refine tr_ret (b_r (q_r (rg_r ?_)))
    obtain rfl := Option.some.inj hM
    exact retg (names := []) .nil (by kernel_rfl)

theorem ok92 : CallOk Try.prog 92 := callOk_of Try.func92 (by kernel_rfl) (by kernel_rfl)
theorem impl_twoVariables_c (a0 : XCategory) (a1 : XCategory) (a2 : XFunctor) (r : Int) (hM : M.impl_twoVariables a0 a1 a2 = some r) :
    FnC Try.prog 92 [] [.pt (eXCategory.b a0) 0, .pt (eXCategory.b a1) 0, .pt (eXFunctor.b a2) 0] [] (iv r) := by
  refine fnc_startG (N := 17) (np := 500) hT Try.func92 rfl rfl (by kernel_rfl) ?_
  unfold M.impl_twoVariables at hM
  refine tr_start (ks := [0, 2, 4]) (st' := [(0, .d (.pt (eXCategory.b a0) 0)), (2, .d (.pt (eXCategory.b a1) 0)), (4, .d (.pt (eXFunctor.b a2) 0))]) (by kernel_rfl) ?_
  refine tr_sr hT hm [] [0, 2, 4] [(0, .d (.pt (eXCategory.b a0) 0)), (2, .d (.pt (eXCategory.b a1) 0)), (4, .d (.pt (eXFunctor.b a2) 0))] .nil (by kernel_rfl) (by kernel_rfl) ?_
  refine tr_seq ?_
  obtain ⟨v1, hv1, hM⟩ := bind_some' hM
  rcases Bool.eq_false_or_eq_true v1 with h2 | h2
  · have hM := ite_true' hM h2
    obtain ⟨v3, hv3, hM⟩ := bind_some' hM
    refine tr_sr hT hm [(3, .call [1009] [] [.sl ([a0, a1] : List XCategory).length 0 (([a0, a1] : List XCategory).flatMap (eP eXCategory).b)] [] (bv v1)), (5, .val (bv false)), (7, .call [] [] [.pt (eXFunctor.b a2) 0] [] (bv v3))] [32] [(32, .d (bv (!v3)))] (cc (B := [1009]) (ρ := []) (rB := [(1009, .arr 1 [.pt (eXCategory.b a0) 0, .pt (eXCategory.b a1) 0] [])]) ok143 (impl_areCategories_c ([a0, a1] : List XCategory) _ hv1) (.cons (.of1 (.rs (r := 1009) (sz := 1) (cells := [.pt (eXCategory.b a0) 0, .pt (eXCategory.b a1) 0]) (refs := []) (memB (by kernel_rfl)) (by kernel_rfl) (.cons (.same rfl rfl) (.cons (.same rfl rfl) .nil)))) .nil) (.inr ⟨.v, trivial⟩) (.cons (congrArg (fun b => bv b) (congrArg not h2)) (cc0 ok107 (impl_Functor_isFunctor_c a2 _ hv3) (by kernel_rfl) .nil))) (by kernel_rfl) (by kernel_rfl) ?_
    rcases Bool.eq_false_or_eq_true v3 with h4 | h4
    · have hM := ite_true' hM h4
      refine tr_condFe (e := !v3) (congrArg not h4) (by kernel_rfl) ?_
      refine tr_skip (q_n ?_)
      refine tr_sr hT hm [] [12] [(12, .d (iv 0))] .nil (by kernel_rfl) (by kernel_rfl) ?_
      refine tr_ret (rg_r ?_)
      obtain rfl := Option.some.inj hM
      exact retg (names := []) .nil (by kernel_rfl)
    · have hM := ite_false' hM h4
      refine tr_condTe (e := !v3) (congrArg not h4) (by kernel_rfl) ?_
      refine tr_sr hT hm [] [12] [(12, .d (iv 1))] .nil (by kernel_rfl) (by kernel_rfl) ?_
      refine tr_ret (q_r (rg_r ?_))
      obtain rfl := Option.some.inj hM
      exact retg (names := []) .nil (by kernel_rfl)
  · have hM := ite_false' hM h2
    refine tr_sr hT hm [(3, .call [1009] [] [.sl ([a0, a1] : List XCategory).length 0 (([a0, a1] : List XCategory).flatMap (eP eXCategory).b)] [] (bv v1)), (5, .val (bv true))] [32] [(32, .d (bv true))] (cc (B := [1009]) (ρ := []) (rB := [(1009, .arr 1 [.pt (eXCategory.b a0) 0, .pt (eXCategory.b a1) 0] [])]) ok143 (impl_areCategories_c ([a0, a1] : List XCategory) _ hv1) (.cons (.of1 (.rs (r := 1009) (sz := 1) (cells := [.pt (eXCategory.b a0) 0, .pt (eXCategory.b a1) 0]) (refs := []) (memB (by kernel_rfl)) (by kernel_rfl) (.cons (.same rfl rfl) (.cons (.same rfl rfl) .nil)))) .nil) (.inr ⟨.v, trivial⟩) (.cons (congrArg (fun b => bv b) (congrArg not h2)) .nil)) (by kernel_rfl) (by kernel_rfl) ?_
    refine tr_condT (by kernel_rfl) ?_
    refine tr_sr hT hm [] [12] [(12, .d (iv 1))] .nil (by kernel_rfl) (by kernel_rfl) ?_
    refine tr_ret (q_r (rg_r ?_))
    obtain rfl := Option.some.inj hM
    exact retg (names := []) .nil (by kernel_rfl)

theorem ok94 : CallOk Try.prog 94 := callOk_of Try.func94 (by kernel_rfl) (by kernel_rfl)
theorem impl_fromProduct_c (a0 : XCategory) (a1 : XCategory) (a2 : XFunctor) (r : Bool) (hM : M.impl_fromProduct a0 a1 a2 = some r) :
    FnC Try.prog 94 [] [.pt (eXCategory.b a0) 0, .pt (eXCategory.b a1) 0, .pt (eXFunctor.b a2) 0] [] (bv r) := by
  refine fnc_startG (N := 22) (np := 500) hT Try.func94 rfl rfl (by kernel_rfl) ?_
  unfold M.impl_fromProduct at hM
  refine tr_start (ks := [0, 2, 4]) (st' := [(0, .d (.pt (eXCategory.b a0) 0)), (2, .d (.pt (eXCategory.b a1) 0)), (4, .d (.pt (eXFunctor.b a2) 0))]) (by kernel_rfl) ?_
  refine tr_sr hT hm [] [0, 2, 4] [(0, .d (.pt (eXCategory.b a0) 0)), (2, .d (.pt (eXCategory.b a1) 0)), (4, .d (.pt (eXFunctor.b a2) 0))] .nil (by kernel_rfl) (by kernel_rfl) ?_
  obtain ⟨v1, hv1, hM⟩ := bind_some' hM
  refine tr_sr hT hm [(2, .call [] [] [.pt (eXCategory.b a0) 0, .pt (eXCategory.b a1) 0] [] (.tup [.agg (eXCategory.o v1.1), bv v1.2]))] [4, 14, 16, 2015, 28003, 28005, 28007, 28009] ([(4, .d (.pt (eXFunctor.b a2) 0)), (14, .d (.rp 1007 0)), (16, .d (bv v1.2)), bxO 2015 14000 (eXCategory.o v1.1)] ++ rsS 14000 (eXCategory.o v1.1)) (cc0 ok80 (impl_product_c a0 a1 _ hv1) (by kernel_rfl) (.cons (Nat.le_of_ble_eq_true (n := 5) (m := 5) rfl) .nil)) (by kernel_rfl) (by kernel_rfl) ?_
  rcases Bool.eq_false_or_eq_true v1.2 with h2 | h2
  · have hM := ite_true' hM h2
    obtain ⟨v3, hv3, hM⟩ := bind_some' hM
    refine tr_sr hT hm [(1, .val (bv true)), (5, .call ([1007] ++ rsR 14000 (eXCategory.o v1.1)) [] [.pt (eXCategory.b v1.1) 0, .pt (eXCategory.b a2.Source) 0] [] (bv v3))] [12] [(12, .d (bv v3))] (.cons (congrArg (fun b => bv b) h2) (cc (B := ([1007] ++ rsR 14000 (eXCategory.o v1.1))) (ρ := []) (rB := ([(1007, .arr 1 [iv v1.1.Objects, .rs 14001 0 v1.1.From.length, .rs 14002 0 v1.1.To.length, .rs 14003 0 v1.1.Identity.length, .rs 14004 0 v1.1.Composites.length] [14001, 14002, 14003, 14004])] ++ rsP 14000 (eXCategory.o v1.1))) ok70 (impl_sameCategory_c v1.1 a2.Source _ hv3) (.cons (.of1 (.rp (r := 1007) (sz := 1) (cells := [iv v1.1.Objects, .rs 14001 0 v1.1.From.length, .rs 14002 0 v1.1.To.length, .rs 14003 0 v1.1.Identity.length, .rs 14004 0 v1.1.Composites.length]) (refs := [14001, 14002, 14003, 14004]) (memB (by kernel_rfl)) (by kernel_rfl) (.cons .v (.cons (.rs (r := 14001) (sz := 1) (refs := []) (memB (by kernel_rfl)) (by kernel_rfl) (bor_flat eI_ok _ _ _)) (.cons (.rs (r := 14002) (sz := 1) (refs := []) (memB (by kernel_rfl)) (by kernel_rfl) (bor_flat eI_ok _ _ _)) (.cons (.rs (r := 14003) (sz := 1) (refs := []) (memB (by kernel_rfl)) (by kernel_rfl) (bor_flat eI_ok _ _ _)) (.cons (.rs (r := 14004) (sz := 1) (refs := []) (memB (by kernel_rfl)) (by kernel_rfl) (bor_flat (eS_ok eI_ok) _ _ _)) .nil))))))) (.cons (.pass (.ptk (ds := eXFunctor.b a2) (ds' := eXCategory.b a2.Source) (off := 0) (n := 5) (by kernel_rfl) (by kernel_rfl) (by kernel_rfl))) .nil)) (.inr ⟨.v, trivial⟩) .nil)) (by kernel_rfl) (by kernel_rfl) ?_
    refine tr_ret (rg_r ?_)
    obtain rfl := Option.some.inj hM
    exact retg (names := []) .nil (by kernel_rfl)
  · have hM := ite_false' hM h2
    refine tr_sr hT hm [(1, .val (bv false))] [12] [(12, .d (bv false))] (.cons (congrArg (fun b => bv b) h2) .nil) (by kernel_rfl) (by kernel_rfl) ?_
    refine tr_ret (rg_r ?_)
    obtain rfl := Option.some.inj hM
    exact retg (names := []) .nil (by kernel_rfl)

end Go.Proofs.Ytaijkiepcaobiaa.Wv08
