/- Walks. Printed by wip/gen. -/
import Derived.Test.YtaijkiepcaobiaaGxL8M
import Derived.Test.YtaijkiepcaobiaaGxvTW1
import Derived.KernelRfl
namespace Go.Proofs.Ytaijkiepcaobiaa.WvU
open Go.Gx Go.Proofs.Ytaijkiepcaobiaa.WvB Go.Proofs.Ytaijkiepcaobiaa.WvS Go.Proofs.Ytaijkiepcaobiaa.WvF Go.Proofs.Ytaijkiepcaobiaa.WvH Go.Proofs.Ytaijkiepcaobiaa.WvT

theorem eXCategory_r : EncR eXCategory := (eA_r (eC_r eI_r _) (eA_r (eC_r (eS_r eI_ok) _) (eA_r (eC_r (eS_r eI_ok) _) (eA_r (eC_r (eS_r eI_ok) _) (eC_r (eS_r (eS_ok eI_ok)) _)))))
theorem eXFunctor_r : EncR eXFunctor := (eA_r (eC_r eXCategory_r _) (eA_r (eC_r eXCategory_r _) (eA_r (eC_r (eS_r eI_ok) _) (eC_r (eS_r eI_ok) _))))
theorem eXends_r : EncR eXends := (eA_r (eC_r eI_r _) (eC_r eI_r _))
theorem eXTransformation_r : EncR eXTransformation := (eA_r (eC_r eXFunctor_r _) (eA_r (eC_r eXFunctor_r _) (eC_r (eS_r eI_ok) _)))
def T : Tab := [(2, ⟨.int .i64, 1, 8, [.int .i64 0]⟩),
  (3, ⟨.int .i64, 1, 8, [.int .i64 0]⟩),
  (22, ⟨.slice 2, 1, 24, [.slice .none 0 0]⟩),
  (23, ⟨.slice 22, 1, 24, [.slice .none 0 0]⟩),
  (29, ⟨.struct #[⟨"Objects", 2, 0, false, "", "", 0⟩, ⟨"From", 22, 1, false, "", "", 8⟩, ⟨"To", 22, 2, false, "", "", 32⟩, ⟨"Identity", 22, 3, false, "", "", 56⟩, ⟨"Composites", 23, 4, false, "", "", 80⟩], 5, 104, [.int .i64 0, .slice .none 0 0, .slice .none 0 0, .slice .none 0 0, .slice .none 0 0]⟩),
  (131, ⟨.pointer 70, 1, 8, [.pointer .none]⟩),
  (157, ⟨.slice 131, 1, 24, [.slice .none 0 0]⟩)]
theorem hT : TabOk Try.prog T := ⟨tiok (by kernel_rfl) (by kernel_rfl), tiok (by kernel_rfl) (by kernel_rfl), tiok (by kernel_rfl) (by kernel_rfl), tiok (by kernel_rfl) (by kernel_rfl), tiok (by kernel_rfl) (by kernel_rfl), tiok (by kernel_rfl) (by kernel_rfl), tiok (by kernel_rfl) (by kernel_rfl), trivial⟩
theorem hm : Try.prog.follows .mixedOrders = true := by kernel_rfl

theorem ok119 : CallOk Try.prog 119 := callOk_of Try.func119 (by kernel_rfl) (by kernel_rfl)
theorem impl_areNatural_c (a0 : List XTransformation) (r : Bool) (hM : M.impl_areNatural a0 = some r) :
    FnC Try.prog 119 [] [.sl a0.length 0 (a0.flatMap (eP eXTransformation).b)] [] (bv r) := by
  refine fnc_startG (N := 15) (np := 500) hT Try.func119 rfl rfl (by kernel_rfl) ?_
  unfold M.impl_areNatural at hM
  refine tr_start (ks := [0]) (st' := [(0, .d (.sl a0.length 0 (a0.flatMap (eP eXTransformation).b)))]) (by kernel_rfl) ?_
  refine tr_sr hT hm [] [0] [(0, .d (.sl a0.length 0 (a0.flatMap (eP eXTransformation).b)))] .nil (by kernel_rfl) (by kernel_rfl) ?_
  refine tr_seq ?_
  refine tr_sr hT hm [] [10, 12, 14] [(10, .d (.sl a0.length 0 (a0.flatMap (eP eXTransformation).b))), (12, .d (iv (a0.length : Int))), (14, .d (iv 0))] .nil (by kernel_rfl) (by kernel_rfl) ?_
  refine tr_block ?_
  refine tr_iterS (fun (s1 : Int) => [(10, .d (.sl a0.length 0 (a0.flatMap (eP eXTransformation).b))), (12, .d (iv (a0.length : Int))), (14, .d (iv s1))]) 0 [10, 12, 14] (by kernel_rfl) hM ?_
  intro n4 next2 ih3 s1 hM
  refine tr_sr hT hm [] [10, 12, 14, 16] [(10, .d (.sl a0.length 0 (a0.flatMap (eP eXTransformation).b))), (12, .d (iv (a0.length : Int))), (14, .d (iv s1)), (16, .d (bv (decide (s1 < (a0.length : Int)))))] .nil (by kernel_rfl) (by kernel_rfl) ?_
  refine tr_seq ?_
  rcases Bool.eq_false_or_eq_true (decide (s1 < (a0.length : Int))) with h5 | h5
  · have hM := ite_true' hM h5
    refine tr_condTe (e := decide (s1 < (a0.length : Int))) h5 (by kernel_rfl) ?_
    refine tr_skip (q_n ?_)
    refine tr_seq ?_
    refine tr_block ?_
    obtain ⟨y6, hy6, hM⟩ := bind_some' hM
    have hy6' := idx_some hy6
    refine tr_sr hT hm [(1, .val (.pt (eXTransformation.b y6) 0))] [8, 10, 12, 14] [(8, .d (.pt (eXTransformation.b y6) 0)), (10, .d (.sl a0.length 0 (a0.flatMap (eP eXTransformation).b))), (12, .d (iv (a0.length : Int))), (14, .d (iv s1))] (.cons hy6'.1 (.cons hy6'.2.1 (.cons (at_b0 (eP_ok (e := eXTransformation)) hy6'.2.2 (d := .pt (eXTransformation.b y6) 0) (by kernel_rfl)) .nil))) (by kernel_rfl) (by kernel_rfl) ?_
    obtain ⟨v7, hv7, hM⟩ := bind_some' hM
    refine tr_sr hT hm [(1, .call [] [] [.pt (eXTransformation.b y6) 0] [] (bv v7))] [10, 12, 14, 26] [(10, .d (.sl a0.length 0 (a0.flatMap (eP eXTransformation).b))), (12, .d (iv (a0.length : Int))), (14, .d (iv s1)), (26, .d (bv (!v7)))] (cc0 ok112 (impl_Transformation_isNatural_c y6 _ hv7) (by kernel_rfl) .nil) (by kernel_rfl) (by kernel_rfl) ?_
    rcases Bool.eq_false_or_eq_true v7 with h8 | h8
    · have hM := ite_true' hM h8
      refine tr_condFe (e := !v7) (congrArg not h8) (by kernel_rfl) ?_
      refine tr_skip (b_n (q_n ?_))
      refine tr_r hT hm [] [10, 12, 14] [(10, .d (.sl a0.length 0 (a0.flatMap (eP eXTransformation).b))), (12, .d (iv (a0.length : Int))), (14, .d (iv (IntKind.i64.wrap (s1 + 1))))] .nil (by kernel_rfl) (by kernel_rfl) (l_n ?_)
      exact trl_start (ks := [10, 12, 14]) (by kernel_rfl) (ih3 (IntKind.i64.wrap (s1 + 1)) hM)
    · have hM := ite_false' hM h8
      refine tr_condTe (e := !v7) (congrArg not h8) (by kernel_rfl) ?_
      refine tr_sr hT hm [] [4] [(4, .d (bv false))] .nil (by kernel_rfl) (by kernel_rfl) ?_
      refine tr_ret (b_r (q_r (l_r (b_r (q_r (rg_r ?_))))))
      obtain rfl := Option.some.inj hM
      exact retg (names := []) .nil (by kernel_rfl)
  · have hM := ite_false' hM h5
    refine tr_condFe (e := decide (s1 < (a0.length : Int))) h5 (by kernel_rfl) ?_
    refine tr_exit (q_x (l_x (b_h (q_n ?_))))
    refine tr_sr hT hm [] [4] [(4, .d (bv true))] .nil (by kernel_rfl) (by kernel_rfl) ?_
    refine tr_ret (rg_r ?_)
    obtain rfl := Option.some.inj hM
    exact retg (names := []) .nil (by kernel_rfl)

theorem ok118 : CallOk Try.prog 118 := callOk_of Try.func118 (by kernel_rfl) (by kernel_rfl)
theorem spec_l07Then_c (a0 : XCategory) (a1 : List Int) (a2 : List Int) (r : (List Int)) (hM : M.spec_l07Then a0 a1 a2 = some r) :
    FnC Try.prog 118 [] [.agg (eXCategory.b a0), .sl a1.length 0 (a1.flatMap eI.b), .sl a2.length 0 (a2.flatMap eI.b)] [] (.fr 1 r.length (r.flatMap eI.o)) := by
  refine fnc_startG (N := 34) (np := 500) hT Try.func118 rfl rfl (by kernel_rfl) ?_
  unfold M.spec_l07Then at hM
  refine tr_start (ks := [0, 2, 4]) (st' := [(0, .d (.agg (eXCategory.b a0))), (2, .d (.sl a1.length 0 (a1.flatMap eI.b))), (4, .d (.sl a2.length 0 (a2.flatMap eI.b)))]) (by kernel_rfl) ?_
  refine tr_sr hT hm [] [2, 4, 6, 2007] [(2, .d (.sl a1.length 0 (a1.flatMap eI.b))), (4, .d (.sl a2.length 0 (a2.flatMap eI.b))), (6, .d (.rp 1003 0)), bxB 2007 (eXCategory.b a0)] .nil (by kernel_rfl) (by kernel_rfl) ?_
  refine tr_sr hT hm [] [2, 4, 6, 14, 2007, 2019] [(2, .d (.sl a1.length 0 (a1.flatMap eI.b))), (4, .d (.sl a2.length 0 (a2.flatMap eI.b))), (6, .d (.rp 1003 0)), (14, .d (.rs 1009 0 (([] : List Int).length))), bxB 2007 (eXCategory.b a0), (2019, .r (.arr 1 (([] : List Int).flatMap eI.o) []))] .nil (by kernel_rfl) (by kernel_rfl) ?_
  refine tr_seq ?_
  refine tr_sr hT hm [] [2, 4, 6, 14, 16, 2007, 2019] [(2, .d (.sl a1.length 0 (a1.flatMap eI.b))), (4, .d (.sl a2.length 0 (a2.flatMap eI.b))), (6, .d (.rp 1003 0)), (14, .d (.rs 1009 0 (([] : List Int).length))), (16, .d (iv 0)), bxB 2007 (eXCategory.b a0), (2019, .r (.arr 1 (([] : List Int).flatMap eI.o) []))] .nil (by kernel_rfl) (by kernel_rfl) ?_
  refine tr_block ?_
  refine tr_iterS (fun (s1 : (List Int) × Int) => [(2, .d (.sl a1.length 0 (a1.flatMap eI.b))), (4, .d (.sl a2.length 0 (a2.flatMap eI.b))), (6, .d (.rp 1003 0)), (14, .d (.rs 1009 0 s1.1.length)), (16, .d (iv s1.2)), bxB 2007 (eXCategory.b a0), (2019, .r (.arr 1 (s1.1.flatMap eI.o) []))]) (([] : List Int), 0) [2, 4, 6, 14, 16, 2007, 2019] (by kernel_rfl) hM ?_
  intro n4 next2 ih3 s1 hM
  refine tr_seq ?_
  refine tr_sr hT hm [] [2, 4, 6, 14, 16, 26, 2007, 2019] [(2, .d (.sl a1.length 0 (a1.flatMap eI.b))), (4, .d (.sl a2.length 0 (a2.flatMap eI.b))), (6, .d (.rp 1003 0)), (14, .d (.rs 1009 0 s1.1.length)), (16, .d (iv s1.2)), (26, .d (bv (decide (s1.2 < (a1.length : Int))))), bxB 2007 (eXCategory.b a0), (2019, .r (.arr 1 (s1.1.flatMap eI.o) []))] .nil (by kernel_rfl) (by kernel_rfl) ?_
  rcases Bool.eq_false_or_eq_true (decide (s1.2 < (a1.length : Int))) with h5 | h5
  · have hM := ite_true' hM h5
    refine tr_condTe (e := decide (s1.2 < (a1.length : Int))) h5 (by kernel_rfl) ?_
    refine tr_skip (q_n ?_)
    refine tr_seq ?_
    refine tr_block ?_
    obtain ⟨y6, hy6, hM⟩ := bind_some' hM
    have hy6' := idx_some hy6
    obtain ⟨y7, hy7, hM⟩ := bind_some' hM
    have hy7' := idx_some hy7
    obtain ⟨y8, hy8, hM⟩ := bind_some' hM
    have hy8' := idx_some hy8
    obtain ⟨y9, hy9, hM⟩ := bind_some' hM
    have hy9' := idx_some hy9
    obtain ⟨h10, hM⟩ := chk_some hM
    refine tr_r hT hm [(6, .val (iv y6)), (8, .val (.sl y7.length 0 (y7.flatMap eI.b))), (12, .val (iv y8)), (14, .val (iv y9)), (16, .app true)] [2, 4, 6, 14, 16, 2007, 2065] [(2, .d (.sl a1.length 0 (a1.flatMap eI.b))), (4, .d (.sl a2.length 0 (a2.flatMap eI.b))), (6, .d (.rp 1003 0)), (14, .d (.rs 1032 0 (s1.1.length + (([y9] : List Int).length)))), (16, .d (iv s1.2)), bxB 2007 (eXCategory.b a0), (2065, .r (.arr 1 (s1.1.flatMap eI.o ++ ([y9] : List Int).flatMap eI.o) []))] (.cons hy6'.1 (.cons hy6'.2.1 (.cons (at_b0 eI_ok hy6'.2.2 (d := iv y6) (by kernel_rfl)) (.cons hy7'.1 (.cons hy7'.2.1 (.cons (at_b0 (eS_ok eI_ok) hy7'.2.2 (d := .sl y7.length 0 (y7.flatMap eI.b)) (by kernel_rfl)) (.cons hy8'.1 (.cons hy8'.2.1 (.cons (at_b0 eI_ok hy8'.2.2 (d := iv y8) (by kernel_rfl)) (.cons hy9'.1 (.cons hy9'.2.1 (.cons (at_b0 eI_ok hy9'.2.2 (d := iv y9) (by kernel_rfl)) (.cons (lenO_flat eI_ok s1.1) (.cons (lenO_flat eI_ok ([y9] : List Int)) (.cons h10 .nil))))))))))))))) (by kernel_rfl) (by kernel_rfl) (b_n (q_n ?_))
    refine Tr.by (imp_cvE (r := 1032) (sz := 1) (refs := []) (flat_app eI.o s1.1 ([y9] : List Int)) (menO_flat eI_ok _) (by kernel_rfl)) ?_
    refine Tr.by (imp_cvD (k := 14) (congrArg (D.rs 1032 0) ((len_app s1.1 ([y9] : List Int)) : s1.1.length + (([y9] : List Int).length) = (s1.1 ++ ([y9] : List Int)).length)) (by kernel_rfl)) ?_
    refine tr_r hT hm [] [2, 4, 6, 14, 16, 2007, 2065] [(2, .d (.sl a1.length 0 (a1.flatMap eI.b))), (4, .d (.sl a2.length 0 (a2.flatMap eI.b))), (6, .d (.rp 1003 0)), (14, .d (.rs 1032 0 ((s1.1 ++ ([y9] : List Int)).length))), (16, .d (iv (IntKind.i64.wrap (s1.2 + 1)))), bxB 2007 (eXCategory.b a0), (2065, .r (.arr 1 ((s1.1 ++ ([y9] : List Int)).flatMap eI.o) []))] .nil (by kernel_rfl) (by kernel_rfl) (l_n ?_)
    refine TrL.by (imp_sel (ks := [2, 4, 6, 14, 16, 2007, 2065]) (st' := [(2, .d (.sl a1.length 0 (a1.flatMap eI.b))), (4, .d (.sl a2.length 0 (a2.flatMap eI.b))), (6, .d (.rp 1003 0)), (14, .d (.rs 1032 0 ((s1.1 ++ ([y9] : List Int)).length))), (16, .d (iv (IntKind.i64.wrap (s1.2 + 1)))), bxB 2007 (eXCategory.b a0), (2065, .r (.arr 1 ((s1.1 ++ ([y9] : List Int)).flatMap eI.o) []))]) (by kernel_rfl)) ?_
    refine TrL.by (imp_rename (r := 1032) (q := 1009) (by kernel_rfl) (Nat.le_of_ble_eq_true rfl)) ?_
    exact trl_start (ks := [2, 4, 6, 14, 16, 2007, 2019]) (by kernel_rfl) (ih3 (s1.1 ++ ([y9] : List Int), IntKind.i64.wrap (s1.2 + 1)) hM)
  · have hM := ite_false' hM h5
    refine tr_condFe (e := decide (s1.2 < (a1.length : Int))) h5 (by kernel_rfl) ?_
    refine tr_exit (q_x (l_x (b_h (q_n ?_))))
    refine tr_sr hT hm [] [12, 2019] [(12, .d (.rs 1009 0 s1.1.length)), (2019, .r (.arr 1 (s1.1.flatMap eI.o) []))] .nil (by kernel_rfl) (by kernel_rfl) ?_
    refine tr_ret (rg_r ?_)
    obtain rfl := Option.some.inj hM
    exact retg (names := []) (.cons (lenO_flat eI_ok s1.1) .nil) (by kernel_rfl)

theorem ok121 : CallOk Try.prog 121 := callOk_of Try.func121 (by kernel_rfl) (by kernel_rfl)
theorem impl_Category_composed_c (a0 : XCategory) (a1 : List Int) (a2 : List Int) (r : (List Int)) (hM : M.impl_Category_composed a0 a1 a2 = some r) :
    FnC Try.prog 121 [] [.pt (eXCategory.b a0) 0, .sl a1.length 0 (a1.flatMap eI.b), .sl a2.length 0 (a2.flatMap eI.b)] [] (.fr 1 r.length (r.flatMap eI.o)) := by
  refine fnc_startG (N := 32) (np := 500) hT Try.func121 rfl rfl (by kernel_rfl) ?_
  unfold M.impl_Category_composed at hM
  refine tr_start (ks := [0, 2, 4]) (st' := [(0, .d (.pt (eXCategory.b a0) 0)), (2, .d (.sl a1.length 0 (a1.flatMap eI.b))), (4, .d (.sl a2.length 0 (a2.flatMap eI.b)))]) (by kernel_rfl) ?_
  refine tr_sr hT hm [] [0, 2, 4] [(0, .d (.pt (eXCategory.b a0) 0)), (2, .d (.sl a1.length 0 (a1.flatMap eI.b))), (4, .d (.sl a2.length 0 (a2.flatMap eI.b)))] .nil (by kernel_rfl) (by kernel_rfl) ?_
  obtain ⟨h1, hM⟩ := chk_some hM
  refine tr_sr hT hm [] [0, 2, 4, 14, 2023] [(0, .d (.pt (eXCategory.b a0) 0)), (2, .d (.sl a1.length 0 (a1.flatMap eI.b))), (4, .d (.sl a2.length 0 (a2.flatMap eI.b))), (14, .d (.rs 1011 0 ((a1.length : Int).toNat))), (2023, .r (.arr 1 (repl (a1.length : Int).toNat [.int .i64 0]) []))] (.cons h1.1 (.cons (Int.le_refl (a1.length : Int)) (.cons h1.2 .nil))) (by kernel_rfl) (by kernel_rfl) ?_
  refine Tr.by (imp_cvE (r := 1011) (sz := 1) (refs := []) (repl_flat (f := eI.o) (zs := [.int .i64 0]) (z := (0 : Int)) rfl (a1.length : Int).toNat) (menO_flat eI_ok _) (by kernel_rfl)) ?_
  refine Tr.by (imp_cvD (k := 14) (congrArg (D.rs 1011 0) (List.length_replicate.symm : (a1.length : Int).toNat = (List.replicate (a1.length : Int).toNat (0 : Int)).length)) (by kernel_rfl)) ?_
  refine tr_seq ?_
  refine tr_sr hT hm [] [0, 2, 4, 14, 26, 28, 2023] [(0, .d (.pt (eXCategory.b a0) 0)), (2, .d (.sl a1.length 0 (a1.flatMap eI.b))), (4, .d (.sl a2.length 0 (a2.flatMap eI.b))), (14, .d (.rs 1011 0 ((List.replicate (a1.length : Int).toNat (0 : Int)).length))), (26, .d (iv (a1.length : Int))), (28, .d (iv 0)), (2023, .r (.arr 1 ((List.replicate (a1.length : Int).toNat (0 : Int)).flatMap eI.o) []))] .nil (by kernel_rfl) (by kernel_rfl) ?_
  refine tr_block ?_
  refine tr_iterS (fun (s2 : (List Int) × Int) => [(0, .d (.pt (eXCategory.b a0) 0)), (2, .d (.sl a1.length 0 (a1.flatMap eI.b))), (4, .d (.sl a2.length 0 (a2.flatMap eI.b))), (14, .d (.rs 1011 0 s2.1.length)), (26, .d (iv (a1.length : Int))), (28, .d (iv s2.2)), (2023, .r (.arr 1 (s2.1.flatMap eI.o) []))]) ((List.replicate (a1.length : Int).toNat (0 : Int)), 0) [0, 2, 4, 14, 26, 28, 2023] (by kernel_rfl) hM ?_
  intro n5 next3 ih4 s2 hM
  refine tr_sr hT hm [] [0, 2, 4, 14, 26, 28, 30, 2023] [(0, .d (.pt (eXCategory.b a0) 0)), (2, .d (.sl a1.length 0 (a1.flatMap eI.b))), (4, .d (.sl a2.length 0 (a2.flatMap eI.b))), (14, .d (.rs 1011 0 s2.1.length)), (26, .d (iv (a1.length : Int))), (28, .d (iv s2.2)), (30, .d (bv (decide (s2.2 < (a1.length : Int))))), (2023, .r (.arr 1 (s2.1.flatMap eI.o) []))] .nil (by kernel_rfl) (by kernel_rfl) ?_
  refine tr_seq ?_
  rcases Bool.eq_false_or_eq_true (decide (s2.2 < (a1.length : Int))) with h6 | h6
  · have hM := ite_true' hM h6
    refine tr_condTe (e := decide (s2.2 < (a1.length : Int))) h6 (by kernel_rfl) ?_
    refine tr_skip (q_n ?_)
    refine tr_seq ?_
    refine tr_block ?_
    refine tr_sr hT hm [] [0, 2, 4, 14, 16, 26, 28, 2023] [(0, .d (.pt (eXCategory.b a0) 0)), (2, .d (.sl a1.length 0 (a1.flatMap eI.b))), (4, .d (.sl a2.length 0 (a2.flatMap eI.b))), (14, .d (.rs 1011 0 s2.1.length)), (16, .d (iv s2.2)), (26, .d (iv (a1.length : Int))), (28, .d (iv s2.2)), (2023, .r (.arr 1 (s2.1.flatMap eI.o) []))] .nil (by kernel_rfl) (by kernel_rfl) ?_
    obtain ⟨y7, hy7, hM⟩ := bind_some' hM
    have hy7' := idx_some hy7
    obtain ⟨y8, hy8, hM⟩ := bind_some' hM
    have hy8' := idx_some hy8
    obtain ⟨v9, hv9, hM⟩ := bind_some' hM
    obtain ⟨y10, hy10, hM⟩ := bind_some' hM
    have hy10' := idx_some hy10
    refine tr_r hT hm [(6, .val (iv y7)), (10, .val (iv y8)), (11, .call [] [] [.pt (eXCategory.b a0) 0, iv y7, iv y8] [] (iv v9))] [0, 2, 4, 14, 26, 28, 2023] [(0, .d (.pt (eXCategory.b a0) 0)), (2, .d (.sl a1.length 0 (a1.flatMap eI.b))), (4, .d (.sl a2.length 0 (a2.flatMap eI.b))), (14, .d (.rs 1011 0 s2.1.length)), (26, .d (iv (a1.length : Int))), (28, .d (iv s2.2)), (2023, .r (.arr 1 ((s2.1.flatMap eI.o).take (0 + s2.2.toNat * 1) ++ [iv v9] ++ (s2.1.flatMap eI.o).drop (0 + s2.2.toNat * 1 + 1)) []))] (.cons hy7'.1 (.cons hy7'.2.1 (.cons (at_b0 eI_ok hy7'.2.2 (d := iv y7) (by kernel_rfl)) (.cons hy8'.1 (.cons hy8'.2.1 (.cons (at_b0 eI_ok hy8'.2.2 (d := iv y8) (by kernel_rfl)) (cc0 ok130 (impl_Category_then_c a0 y7 y8 _ hv9) (by kernel_rfl) (.cons hy10'.1 (.cons hy10'.2.1 (.cons (store_le eI_ok hy10'.2.2) .nil)))))))))) (by kernel_rfl) (by kernel_rfl) (b_n (q_n ?_))
    refine Tr.by (imp_cvE (r := 1011) (sz := 1) (refs := []) (set_flat eI_ok.lenO (y := v9) hy10'.2.2) (menO_flat eI_ok _) (by kernel_rfl)) ?_
    refine Tr.by (imp_cvD (k := 14) (congrArg (D.rs 1011 0) (List.length_set.symm : s2.1.length = (s2.1.set s2.2.toNat v9).length)) (by kernel_rfl)) ?_
    refine tr_r hT hm [] [0, 2, 4, 14, 26, 28, 2023] [(0, .d (.pt (eXCategory.b a0) 0)), (2, .d (.sl a1.length 0 (a1.flatMap eI.b))), (4, .d (.sl a2.length 0 (a2.flatMap eI.b))), (14, .d (.rs 1011 0 ((s2.1.set s2.2.toNat v9).length))), (26, .d (iv (a1.length : Int))), (28, .d (iv (IntKind.i64.wrap (s2.2 + 1)))), (2023, .r (.arr 1 ((s2.1.set s2.2.toNat v9).flatMap eI.o) []))] .nil (by kernel_rfl) (by kernel_rfl) (l_n ?_)
    exact trl_start (ks := [0, 2, 4, 14, 26, 28, 2023]) (by kernel_rfl) (ih4 (s2.1.set s2.2.toNat v9, IntKind.i64.wrap (s2.2 + 1)) hM)
  · have hM := ite_false' hM h6
    refine tr_condFe (e := decide (s2.2 < (a1.length : Int))) h6 (by kernel_rfl) ?_
    refine tr_exit (q_x (l_x (b_h (q_n ?_))))
    refine tr_sr hT hm [] [12, 2023] [(12, .d (.rs 1011 0 s2.1.length)), (2023, .r (.arr 1 (s2.1.flatMap eI.o) []))] .nil (by kernel_rfl) (by kernel_rfl) ?_
    refine tr_ret (rg_r ?_)
    obtain rfl := Option.some.inj hM
    exact retg (names := []) (.cons (lenO_flat eI_ok s2.1) .nil) (by kernel_rfl)

end Go.Proofs.Ytaijkiepcaobiaa.WvU
