/- Walks. Printed by wip/gen. -/
import Derived.Test.YtjmjhhhglbeacaaGxEM0
import Derived.Test.YtjmjhhhglbeacaaGxEO0
import Derived.Test.YtjmjhhhglbeacaaGxyNW
import Derived.KernelRfl
namespace Go.Proofs.Ytjmjhhhglbeacaa.WyU
open Go.Gx Go.Proofs.Ytjmjhhhglbeacaa.WvB Go.Proofs.Ytjmjhhhglbeacaa.WyN

theorem eXCategory_r : EncR eXCategory := (eA_r (eC_r eI_r _) (eA_r (eC_r (eS_r eI_ok) _) (eA_r (eC_r (eS_r eI_ok) _) (eA_r (eC_r (eS_r eI_ok) _) (eC_r (eS_r (eS_ok eI_ok)) _)))))
theorem eXFunctor_r : EncR eXFunctor := (eA_r (eC_r eXCategory_r _) (eA_r (eC_r eXCategory_r _) (eA_r (eC_r (eS_r eI_ok) _) (eC_r (eS_r eI_ok) _))))
def T : Tab := [(2, ⟨.int .i64, 1, 8, [.int .i64 0]⟩),
  (3, ⟨.int .i64, 1, 8, [.int .i64 0]⟩),
  (4, ⟨.bool, 1, 1, [.bool false]⟩),
  (22, ⟨.slice 2, 1, 24, [.slice .none 0 0]⟩),
  (23, ⟨.slice 22, 1, 24, [.slice .none 0 0]⟩),
  (31, ⟨.struct #[⟨"Objects", 2, 0, false, "", "", 0⟩, ⟨"From", 22, 1, false, "", "", 8⟩, ⟨"To", 22, 2, false, "", "", 32⟩, ⟨"Identity", 22, 3, false, "", "", 56⟩, ⟨"Composites", 23, 4, false, "", "", 80⟩], 5, 104, [.int .i64 0, .slice .none 0 0, .slice .none 0 0, .slice .none 0 0, .slice .none 0 0]⟩),
  (48, ⟨.struct #[⟨"Source", 31, 0, false, "", "", 0⟩, ⟨"Target", 31, 5, false, "", "", 104⟩, ⟨"Objects", 22, 10, false, "", "", 208⟩, ⟨"Arrows", 22, 11, false, "", "", 232⟩], 12, 256, [.int .i64 0, .slice .none 0 0, .slice .none 0 0, .slice .none 0 0, .slice .none 0 0, .int .i64 0, .slice .none 0 0, .slice .none 0 0, .slice .none 0 0, .slice .none 0 0, .slice .none 0 0, .slice .none 0 0]⟩),
  (210, ⟨.map 2 4, 1, 8, [.map .none]⟩)]
theorem hT : TabOk Try.prog T := ⟨tiok (by kernel_rfl) (by kernel_rfl), tiok (by kernel_rfl) (by kernel_rfl), tiok (by kernel_rfl) (by kernel_rfl), tiok (by kernel_rfl) (by kernel_rfl), tiok (by kernel_rfl) (by kernel_rfl), tiok (by kernel_rfl) (by kernel_rfl), tiok (by kernel_rfl) (by kernel_rfl), tiok (by kernel_rfl) (by kernel_rfl), trivial⟩
theorem hm : Try.prog.follows .mixedOrders = true := by kernel_rfl

theorem ok200 : CallOk Try.prog 200 := callOk_of Try.func200 (by kernel_rfl) (by kernel_rfl)
theorem spec_l15Lifts_c (a0 : XFunctor) (a1 : Int) (a2 : Int) (a3 : Int) (a4 : Int) (r : (List Int)) (hM : M.spec_l15Lifts a0 a1 a2 a3 a4 = some r) :
    FnC Try.prog 200 [] [.agg (eXFunctor.b a0), iv a1, iv a2, iv a3, iv a4] [] (.fr 1 r.length (r.flatMap eI.o)) := by
  refine fnc_startG (N := 48) (np := 500) hT Try.func200 rfl rfl (by kernel_rfl) ?_
  unfold M.spec_l15Lifts at hM
  refine tr_start (ks := [0, 2, 4, 6, 8]) (st' := [(0, .d (.agg (eXFunctor.b a0))), (2, .d (iv a1)), (4, .d (iv a2)), (6, .d (iv a3)), (8, .d (iv a4))]) (by kernel_rfl) ?_
  refine tr_sr hT hm [] [2, 4, 6, 8, 10, 2011] [(2, .d (iv a1)), (4, .d (iv a2)), (6, .d (iv a3)), (8, .d (iv a4)), (10, .d (.rp 1005 0)), bxB 2011 (eXFunctor.b a0)] .nil (by kernel_rfl) (by kernel_rfl) ?_
  obtain ⟨v1, hv1, hM⟩ := bind_some' hM
  refine tr_sr hT hm [(4, .call [] [] [.agg (eXCategory.b a0.Source), iv a1, iv a2] [] (.fr 1 v1.length (v1.flatMap eI.o)))] [6, 8, 10, 22, 2011, 40001] [(6, .d (iv a3)), (8, .d (iv a4)), (10, .d (.rp 1005 0)), (22, .d (.rs 20000 0 v1.length)), bxB 2011 (eXFunctor.b a0), (40001, .r (.arr 1 (v1.flatMap eI.o) []))] (cc0 ok170 (spec_l02Hom_c a0.Source a1 a2 _ hv1) (by kernel_rfl) .nil) (by kernel_rfl) (by kernel_rfl) ?_
  refine tr_sr hT hm [] [6, 8, 10, 22, 24, 2011, 2039, 40001] [(6, .d (iv a3)), (8, .d (iv a4)), (10, .d (.rp 1005 0)), (22, .d (.rs 20000 0 v1.length)), (24, .d (.rs 1019 0 (([] : List Int).length))), bxB 2011 (eXFunctor.b a0), (2039, .r (.arr 1 (([] : List Int).flatMap eI.o) [])), (40001, .r (.arr 1 (v1.flatMap eI.o) []))] .nil (by kernel_rfl) (by kernel_rfl) ?_
  refine tr_seq ?_
  refine tr_sr hT hm [] [6, 8, 10, 22, 24, 26, 2011, 2039, 40001] [(6, .d (iv a3)), (8, .d (iv a4)), (10, .d (.rp 1005 0)), (22, .d (.rs 20000 0 v1.length)), (24, .d (.rs 1019 0 (([] : List Int).length))), (26, .d (iv 0)), bxB 2011 (eXFunctor.b a0), (2039, .r (.arr 1 (([] : List Int).flatMap eI.o) [])), (40001, .r (.arr 1 (v1.flatMap eI.o) []))] .nil (by kernel_rfl) (by kernel_rfl) ?_
  refine tr_block ?_
  refine tr_iterS (fun (s2 : (List Int) × Int) => [(6, .d (iv a3)), (8, .d (iv a4)), (10, .d (.rp 1005 0)), (22, .d (.rs 20000 0 v1.length)), (24, .d (.rs 1019 0 s2.1.length)), (26, .d (iv s2.2)), bxB 2011 (eXFunctor.b a0), (2039, .r (.arr 1 (s2.1.flatMap eI.o) [])), (40001, .r (.arr 1 (v1.flatMap eI.o) []))]) (([] : List Int), 0) [6, 8, 10, 22, 24, 26, 2011, 2039, 40001] (by kernel_rfl) hM ?_
  intro n5 next3 ih4 s2 hM
  refine tr_seq ?_
  refine tr_sr hT hm [] [6, 8, 10, 22, 24, 26, 46, 2011, 2039, 40001] [(6, .d (iv a3)), (8, .d (iv a4)), (10, .d (.rp 1005 0)), (22, .d (.rs 20000 0 v1.length)), (24, .d (.rs 1019 0 s2.1.length)), (26, .d (iv s2.2)), (46, .d (bv (decide (s2.2 < (v1.length : Int))))), bxB 2011 (eXFunctor.b a0), (2039, .r (.arr 1 (s2.1.flatMap eI.o) [])), (40001, .r (.arr 1 (v1.flatMap eI.o) []))] .nil (by kernel_rfl) (by kernel_rfl) ?_
  rcases Bool.eq_false_or_eq_true (decide (s2.2 < (v1.length : Int))) with h6 | h6
  · have hM := ite_true' hM h6
    refine tr_condTe (e := decide (s2.2 < (v1.length : Int))) h6 (by kernel_rfl) ?_
    refine tr_skip (q_n ?_)
    refine tr_seq ?_
    refine tr_block ?_
    obtain ⟨y7, hy7, hM⟩ := bind_some' hM
    have hy7' := idx_some hy7
    obtain ⟨y8, hy8, hM⟩ := bind_some' hM
    have hy8' := idx_some hy8
    obtain ⟨v9, hv9, hM⟩ := bind_some' hM
    refine tr_sr hT hm [(7, .val (iv y7)), (9, .val (iv y8)), (11, .call [] [] [.agg (eXCategory.b a0.Target), iv y8, iv a3] [] (iv v9))] [6, 8, 10, 22, 24, 26, 78, 2011, 2039, 40001] [(6, .d (iv a3)), (8, .d (iv a4)), (10, .d (.rp 1005 0)), (22, .d (.rs 20000 0 v1.length)), (24, .d (.rs 1019 0 s2.1.length)), (26, .d (iv s2.2)), (78, .d (bv (v9 == a4))), bxB 2011 (eXFunctor.b a0), (2039, .r (.arr 1 (s2.1.flatMap eI.o) [])), (40001, .r (.arr 1 (v1.flatMap eI.o) []))] (.cons hy7'.1 (.cons hy7'.2.1 (.cons (at_o0 eI_ok hy7'.2.2 (d := iv y7) (by kernel_rfl)) (.cons hy8'.1 (.cons hy8'.2.1 (.cons (at_b0 eI_ok hy8'.2.2 (d := iv y8) (by kernel_rfl)) (cc0 ok201 (spec_l02Then_c a0.Target y8 a3 _ hv9) (by kernel_rfl) .nil))))))) (by kernel_rfl) (by kernel_rfl) ?_
    rcases Bool.eq_false_or_eq_true (v9 == a4) with h10 | h10
    · have hM := ite_true' hM h10
      refine tr_condTe (e := v9 == a4) h10 (by kernel_rfl) ?_
      obtain ⟨h11, hM⟩ := chk_some hM
      refine tr_r hT hm [(4, .val (iv y7)), (6, .app true)] [6, 8, 10, 22, 24, 26, 2011, 2093, 40001] [(6, .d (iv a3)), (8, .d (iv a4)), (10, .d (.rp 1005 0)), (22, .d (.rs 20000 0 v1.length)), (24, .d (.rs 1046 0 (s2.1.length + (([y7] : List Int).length)))), (26, .d (iv s2.2)), bxB 2011 (eXFunctor.b a0), (2093, .r (.arr 1 (s2.1.flatMap eI.o ++ ([y7] : List Int).flatMap eI.o) [])), (40001, .r (.arr 1 (v1.flatMap eI.o) []))] (.cons hy7'.1 (.cons hy7'.2.1 (.cons (at_o0 eI_ok hy7'.2.2 (d := iv y7) (by kernel_rfl)) (.cons (lenO_flat eI_ok s2.1) (.cons (lenO_flat eI_ok ([y7] : List Int)) (.cons h11 .nil)))))) (by kernel_rfl) (by kernel_rfl) (b_n (q_n ?_))
      refine Tr.by (imp_cvE (r := 1046) (sz := 1) (refs := []) (flat_app eI.o s2.1 ([y7] : List Int)) (menO_flat eI_ok _) (by kernel_rfl)) ?_
      refine Tr.by (imp_cvD (k := 24) (congrArg (D.rs 1046 0) ((len_app s2.1 ([y7] : List Int)) : s2.1.length + (([y7] : List Int).length) = (s2.1 ++ ([y7] : List Int)).length)) (by kernel_rfl)) ?_
      refine tr_r hT hm [] [6, 8, 10, 22, 24, 26, 2011, 2093, 40001] [(6, .d (iv a3)), (8, .d (iv a4)), (10, .d (.rp 1005 0)), (22, .d (.rs 20000 0 v1.length)), (24, .d (.rs 1046 0 ((s2.1 ++ ([y7] : List Int)).length))), (26, .d (iv (IntKind.i64.wrap (s2.2 + 1)))), bxB 2011 (eXFunctor.b a0), (2093, .r (.arr 1 ((s2.1 ++ ([y7] : List Int)).flatMap eI.o) [])), (40001, .r (.arr 1 (v1.flatMap eI.o) []))] .nil (by kernel_rfl) (by kernel_rfl) (l_n ?_)
      refine TrL.by (imp_sel (ks := [6, 8, 10, 22, 24, 26, 2011, 2093, 40001]) (st' := [(6, .d (iv a3)), (8, .d (iv a4)), (10, .d (.rp 1005 0)), (22, .d (.rs 20000 0 v1.length)), (24, .d (.rs 1046 0 ((s2.1 ++ ([y7] : List Int)).length))), (26, .d (iv (IntKind.i64.wrap (s2.2 + 1)))), bxB 2011 (eXFunctor.b a0), (2093, .r (.arr 1 ((s2.1 ++ ([y7] : List Int)).flatMap eI.o) [])), (40001, .r (.arr 1 (v1.flatMap eI.o) []))]) (by kernel_rfl)) ?_
      refine TrL.by (imp_rename (r := 1046) (q := 1019) (by kernel_rfl) (Nat.le_of_ble_eq_true rfl)) ?_
      exact trl_start (ks := [6, 8, 10, 22, 24, 26, 2011, 2039, 40001]) (by kernel_rfl) (ih4 (s2.1 ++ ([y7] : List Int), IntKind.i64.wrap (s2.2 + 1)) hM)
    · have hM := ite_false' hM h10
      refine tr_condFe (e := v9 == a4) h10 (by kernel_rfl) ?_
      refine tr_skip (b_n (q_n ?_))
      refine tr_r hT hm [] [6, 8, 10, 22, 24, 26, 2011, 2039, 40001] [(6, .d (iv a3)), (8, .d (iv a4)), (10, .d (.rp 1005 0)), (22, .d (.rs 20000 0 v1.length)), (24, .d (.rs 1019 0 s2.1.length)), (26, .d (iv (IntKind.i64.wrap (s2.2 + 1)))), bxB 2011 (eXFunctor.b a0), (2039, .r (.arr 1 (s2.1.flatMap eI.o) [])), (40001, .r (.arr 1 (v1.flatMap eI.o) []))] .nil (by kernel_rfl) (by kernel_rfl) (l_n ?_)
      exact trl_start (ks := [6, 8, 10, 22, 24, 26, 2011, 2039, 40001]) (by kernel_rfl) (ih4 (s2.1, IntKind.i64.wrap (s2.2 + 1)) hM)
  · have hM := ite_false' hM h6
    refine tr_condFe (e := decide (s2.2 < (v1.length : Int))) h6 (by kernel_rfl) ?_
    refine tr_exit (q_x (l_x (b_h (q_n ?_))))
    refine tr_sr hT hm [] [20, 2039] [(20, .d (.rs 1019 0 s2.1.length)), (2039, .r (.arr 1 (s2.1.flatMap eI.o) []))] .nil (by kernel_rfl) (by kernel_rfl) ?_
    refine tr_ret (rg_r ?_)
    obtain rfl := Option.some.inj hM
    exact retg (names := []) (.cons (lenO_flat eI_ok s2.1) .nil) (by kernel_rfl)

theorem ok171 : CallOk Try.prog 171 := callOk_of Try.func171 (by kernel_rfl) (by kernel_rfl)
theorem spec_l15Universal_c (a0 : XFunctor) (a1 : Int) (a2 : Int) (a3 : Int) (r : Bool) (hM : M.spec_l15Universal a0 a1 a2 a3 = some r) :
    FnC Try.prog 171 [] [.agg (eXFunctor.b a0), iv a1, iv a2, iv a3] [] (bv r) := by
  refine fnc_startG (N := 45) (np := 500) hT Try.func171 rfl rfl (by kernel_rfl) ?_
  unfold M.spec_l15Universal at hM
  refine tr_start (ks := [0, 2, 4, 6]) (st' := [(0, .d (.agg (eXFunctor.b a0))), (2, .d (iv a1)), (4, .d (iv a2)), (6, .d (iv a3))]) (by kernel_rfl) ?_
  refine tr_sr hT hm [] [2, 4, 6, 8, 2009] [(2, .d (iv a1)), (4, .d (iv a2)), (6, .d (iv a3)), (8, .d (.rp 1004 0)), bxB 2009 (eXFunctor.b a0)] .nil (by kernel_rfl) (by kernel_rfl) ?_
  refine tr_seq ?_
  refine tr_sr hT hm [] [2, 4, 6, 8, 18, 2009] [(2, .d (iv a1)), (4, .d (iv a2)), (6, .d (iv a3)), (8, .d (.rp 1004 0)), (18, .d (iv 0)), bxB 2009 (eXFunctor.b a0)] .nil (by kernel_rfl) (by kernel_rfl) ?_
  refine tr_block ?_
  refine tr_iterS (fun (s1 : Int) => [(2, .d (iv a1)), (4, .d (iv a2)), (6, .d (iv a3)), (8, .d (.rp 1004 0)), (18, .d (iv s1)), bxB 2009 (eXFunctor.b a0)]) 0 [2, 4, 6, 8, 18, 2009] (by kernel_rfl) hM ?_
  intro n4 next2 ih3 s1 hM
  refine tr_seq ?_
  refine tr_sr hT hm [] [2, 4, 6, 8, 18, 32, 2009] [(2, .d (iv a1)), (4, .d (iv a2)), (6, .d (iv a3)), (8, .d (.rp 1004 0)), (18, .d (iv s1)), (32, .d (bv (decide (s1 < a0.Source.Objects)))), bxB 2009 (eXFunctor.b a0)] .nil (by kernel_rfl) (by kernel_rfl) ?_
  rcases Bool.eq_false_or_eq_true (decide (s1 < a0.Source.Objects)) with h5 | h5
  · have hM := ite_true' hM h5
    refine tr_condTe (e := decide (s1 < a0.Source.Objects)) h5 (by kernel_rfl) ?_
    refine tr_skip (q_n ?_)
    refine tr_seq ?_
    refine tr_block ?_
    obtain ⟨y6, hy6, hM⟩ := bind_some' hM
    have hy6' := idx_some hy6
    obtain ⟨v7, hv7, hM⟩ := bind_some' hM
    refine tr_sr hT hm [(6, .val (iv y6)), (8, .call [] [] [.agg (eXCategory.b a0.Target), iv y6, iv a1] [] (.fr 1 v7.length (v7.flatMap eI.o)))] [2, 4, 6, 8, 18, 20, 2009, 58001] [(2, .d (iv a1)), (4, .d (iv a2)), (6, .d (iv a3)), (8, .d (.rp 1004 0)), (18, .d (iv s1)), (20, .d (.rs 29000 0 v7.length)), bxB 2009 (eXFunctor.b a0), (58001, .r (.arr 1 (v7.flatMap eI.o) []))] (.cons hy6'.1 (.cons hy6'.2.1 (.cons (at_b0 eI_ok hy6'.2.2 (d := iv y6) (by kernel_rfl)) (cc0 ok170 (spec_l02Hom_c a0.Target y6 a1 _ hv7) (by kernel_rfl) .nil)))) (by kernel_rfl) (by kernel_rfl) ?_
    refine tr_sr hT hm [] [2, 4, 6, 8, 18, 20, 22, 2009, 58001] [(2, .d (iv a1)), (4, .d (iv a2)), (6, .d (iv a3)), (8, .d (.rp 1004 0)), (18, .d (iv s1)), (20, .d (.rs 29000 0 v7.length)), (22, .d (iv 0)), bxB 2009 (eXFunctor.b a0), (58001, .r (.arr 1 (v7.flatMap eI.o) []))] .nil (by kernel_rfl) (by kernel_rfl) ?_
    refine tr_block ?_
    refine tr_iterS (fun (s8 : Int) => [(2, .d (iv a1)), (4, .d (iv a2)), (6, .d (iv a3)), (8, .d (.rp 1004 0)), (18, .d (iv s1)), (20, .d (.rs 29000 0 v7.length)), (22, .d (iv s8)), bxB 2009 (eXFunctor.b a0), (58001, .r (.arr 1 (v7.flatMap eI.o) []))]) 0 [2, 4, 6, 8, 18, 20, 22, 2009, 58001] (by kernel_rfl) hM ?_
    intro n11 next9 ih10 s8 hM
    refine tr_seq ?_
    refine tr_sr hT hm [] [2, 4, 6, 8, 18, 20, 22, 62, 2009, 58001] [(2, .d (iv a1)), (4, .d (iv a2)), (6, .d (iv a3)), (8, .d (.rp 1004 0)), (18, .d (iv s1)), (20, .d (.rs 29000 0 v7.length)), (22, .d (iv s8)), (62, .d (bv (decide (s8 < (v7.length : Int))))), bxB 2009 (eXFunctor.b a0), (58001, .r (.arr 1 (v7.flatMap eI.o) []))] .nil (by kernel_rfl) (by kernel_rfl) ?_
    rcases Bool.eq_false_or_eq_true (decide (s8 < (v7.length : Int))) with h12 | h12
    · have hM := ite_true' hM h12
      refine tr_condTe (e := decide (s8 < (v7.length : Int))) h12 (by kernel_rfl) ?_
      refine tr_skip (q_n ?_)
      refine tr_seq ?_
      refine tr_block ?_
      obtain ⟨y13, hy13, hM⟩ := bind_some' hM
      have hy13' := idx_some hy13
      obtain ⟨v14, hv14, hM⟩ := bind_some' hM
      refine tr_sr hT hm [(7, .val (iv y13)), (8, .call [] [] [.agg (eXFunctor.b a0), iv s1, iv a2, iv a3, iv y13] [] (.fr 1 v14.length (v14.flatMap eI.o)))] [2, 4, 6, 8, 18, 20, 22, 88, 2009, 58001] [(2, .d (iv a1)), (4, .d (iv a2)), (6, .d (iv a3)), (8, .d (.rp 1004 0)), (18, .d (iv s1)), (20, .d (.rs 29000 0 v7.length)), (22, .d (iv s8)), (88, .d (bv ((v14.length : Int) != 1))), bxB 2009 (eXFunctor.b a0), (58001, .r (.arr 1 (v7.flatMap eI.o) []))] (.cons hy13'.1 (.cons hy13'.2.1 (.cons (at_o0 eI_ok hy13'.2.2 (d := iv y13) (by kernel_rfl)) (cc0 ok200 (spec_l15Lifts_c a0 s1 a2 a3 y13 _ hv14) (by kernel_rfl) .nil)))) (by kernel_rfl) (by kernel_rfl) ?_
      rcases Bool.eq_false_or_eq_true ((v14.length : Int) != 1) with h15 | h15
      · have hM := ite_true' hM h15
        refine tr_condTe (e := (v14.length : Int) != 1) h15 (by kernel_rfl) ?_
        refine tr_sr hT hm [] [16] [(16, .d (bv false))] .nil (by kernel_rfl) (by kernel_rfl) ?_
        refine tr_ret (b_r (q_r (l_r (b_r (b_r (q_r (l_r (b_r (q_r (rg_r ?_))))))))))
        obtain rfl := Option.some.inj hM
        exact retg (names := []) .nil (by kernel_rfl)
      · have hM := ite_false' hM h15
        refine tr_condFe (e := (v14.length : Int) != 1) h15 (by kernel_rfl) ?_
        refine tr_skip (b_n (q_n ?_))
        refine tr_r hT hm [] [2, 4, 6, 8, 18, 20, 22, 2009, 58001] [(2, .d (iv a1)), (4, .d (iv a2)), (6, .d (iv a3)), (8, .d (.rp 1004 0)), (18, .d (iv s1)), (20, .d (.rs 29000 0 v7.length)), (22, .d (iv (IntKind.i64.wrap (s8 + 1)))), bxB 2009 (eXFunctor.b a0), (58001, .r (.arr 1 (v7.flatMap eI.o) []))] .nil (by kernel_rfl) (by kernel_rfl) (l_n ?_)
        exact trl_start (ks := [2, 4, 6, 8, 18, 20, 22, 2009, 58001]) (by kernel_rfl) (ih10 (IntKind.i64.wrap (s8 + 1)) hM)
    · have hM := ite_false' hM h12
      refine tr_condFe (e := decide (s8 < (v7.length : Int))) h12 (by kernel_rfl) ?_
      refine tr_exit (q_x (l_x (b_h (b_n (q_n ?_)))))
      refine tr_r hT hm [] [2, 4, 6, 8, 18, 2009] [(2, .d (iv a1)), (4, .d (iv a2)), (6, .d (iv a3)), (8, .d (.rp 1004 0)), (18, .d (iv (IntKind.i64.wrap (s1 + 1)))), bxB 2009 (eXFunctor.b a0)] .nil (by kernel_rfl) (by kernel_rfl) (l_n ?_)
      exact trl_start (ks := [2, 4, 6, 8, 18, 2009]) (by kernel_rfl) (ih3 (IntKind.i64.wrap (s1 + 1)) hM)
  · have hM := ite_false' hM h5
    refine tr_condFe (e := decide (s1 < a0.Source.Objects)) h5 (by kernel_rfl) ?_
    refine tr_exit (q_x (l_x (b_h (q_n ?_))))
    refine tr_sr hT hm [] [16] [(16, .d (bv true))] .nil (by kernel_rfl) (by kernel_rfl) ?_
    refine tr_ret (rg_r ?_)
    obtain rfl := Option.some.inj hM
    exact retg (names := []) .nil (by kernel_rfl)

theorem ok69 : CallOk Try.prog 69 := callOk_of Try.func69 (by kernel_rfl) (by kernel_rfl)
theorem spec_l15Find_c (a0 : XFunctor) (a1 : Int) (r : Int × Int × Bool) (hM : M.spec_l15Find a0 a1 = some r) :
    FnC Try.prog 69 [] [.agg (eXFunctor.b a0), iv a1] [] (.tup [iv r.1, iv r.2.1, bv r.2.2]) := by
  refine fnc_startG (N := 45) (np := 500) hT Try.func69 rfl rfl (by kernel_rfl) ?_
  unfold M.spec_l15Find at hM
  refine tr_start (ks := [0, 2]) (st' := [(0, .d (.agg (eXFunctor.b a0))), (2, .d (iv a1))]) (by kernel_rfl) ?_
  refine tr_sr hT hm [] [2, 4, 2005] [(2, .d (iv a1)), (4, .d (.rp 1002 0)), bxB 2005 (eXFunctor.b a0)] .nil (by kernel_rfl) (by kernel_rfl) ?_
  refine tr_seq ?_
  refine tr_sr hT hm [] [2, 4, 14, 2005] [(2, .d (iv a1)), (4, .d (.rp 1002 0)), (14, .d (iv 0)), bxB 2005 (eXFunctor.b a0)] .nil (by kernel_rfl) (by kernel_rfl) ?_
  refine tr_block ?_
  refine tr_iterS (fun (s1 : Int) => [(2, .d (iv a1)), (4, .d (.rp 1002 0)), (14, .d (iv s1)), bxB 2005 (eXFunctor.b a0)]) 0 [2, 4, 14, 2005] (by kernel_rfl) hM ?_
  intro n4 next2 ih3 s1 hM
  refine tr_seq ?_
  refine tr_sr hT hm [] [2, 4, 14, 28, 2005] [(2, .d (iv a1)), (4, .d (.rp 1002 0)), (14, .d (iv s1)), (28, .d (bv (decide (s1 < a0.Source.Objects)))), bxB 2005 (eXFunctor.b a0)] .nil (by kernel_rfl) (by kernel_rfl) ?_
  rcases Bool.eq_false_or_eq_true (decide (s1 < a0.Source.Objects)) with h5 | h5
  · have hM := ite_true' hM h5
    refine tr_condTe (e := decide (s1 < a0.Source.Objects)) h5 (by kernel_rfl) ?_
    refine tr_skip (q_n ?_)
    refine tr_seq ?_
    refine tr_block ?_
    obtain ⟨y6, hy6, hM⟩ := bind_some' hM
    have hy6' := idx_some hy6
    obtain ⟨v7, hv7, hM⟩ := bind_some' hM
    refine tr_sr hT hm [(6, .val (iv y6)), (8, .call [] [] [.agg (eXCategory.b a0.Target), iv y6, iv a1] [] (.fr 1 v7.length (v7.flatMap eI.o)))] [2, 4, 14, 16, 2005, 54001] [(2, .d (iv a1)), (4, .d (.rp 1002 0)), (14, .d (iv s1)), (16, .d (.rs 27000 0 v7.length)), bxB 2005 (eXFunctor.b a0), (54001, .r (.arr 1 (v7.flatMap eI.o) []))] (.cons hy6'.1 (.cons hy6'.2.1 (.cons (at_b0 eI_ok hy6'.2.2 (d := iv y6) (by kernel_rfl)) (cc0 ok170 (spec_l02Hom_c a0.Target y6 a1 _ hv7) (by kernel_rfl) .nil)))) (by kernel_rfl) (by kernel_rfl) ?_
    refine tr_sr hT hm [] [2, 4, 14, 16, 18, 2005, 54001] [(2, .d (iv a1)), (4, .d (.rp 1002 0)), (14, .d (iv s1)), (16, .d (.rs 27000 0 v7.length)), (18, .d (iv 0)), bxB 2005 (eXFunctor.b a0), (54001, .r (.arr 1 (v7.flatMap eI.o) []))] .nil (by kernel_rfl) (by kernel_rfl) ?_
    refine tr_block ?_
    refine tr_iterS (fun (s8 : Int) => [(2, .d (iv a1)), (4, .d (.rp 1002 0)), (14, .d (iv s1)), (16, .d (.rs 27000 0 v7.length)), (18, .d (iv s8)), bxB 2005 (eXFunctor.b a0), (54001, .r (.arr 1 (v7.flatMap eI.o) []))]) 0 [2, 4, 14, 16, 18, 2005, 54001] (by kernel_rfl) hM ?_
    intro n11 next9 ih10 s8 hM
    refine tr_seq ?_
    refine tr_sr hT hm [] [2, 4, 14, 16, 18, 58, 2005, 54001] [(2, .d (iv a1)), (4, .d (.rp 1002 0)), (14, .d (iv s1)), (16, .d (.rs 27000 0 v7.length)), (18, .d (iv s8)), (58, .d (bv (decide (s8 < (v7.length : Int))))), bxB 2005 (eXFunctor.b a0), (54001, .r (.arr 1 (v7.flatMap eI.o) []))] .nil (by kernel_rfl) (by kernel_rfl) ?_
    rcases Bool.eq_false_or_eq_true (decide (s8 < (v7.length : Int))) with h12 | h12
    · have hM := ite_true' hM h12
      refine tr_condTe (e := decide (s8 < (v7.length : Int))) h12 (by kernel_rfl) ?_
      refine tr_skip (q_n ?_)
      refine tr_seq ?_
      refine tr_block ?_
      obtain ⟨y13, hy13, hM⟩ := bind_some' hM
      have hy13' := idx_some hy13
      obtain ⟨v14, hv14, hM⟩ := bind_some' hM
      refine tr_sr hT hm [(6, .val (iv y13)), (7, .call [] [] [.agg (eXFunctor.b a0), iv a1, iv s1, iv y13] [] (bv v14))] [2, 4, 14, 16, 18, 78, 2005, 54001] [(2, .d (iv a1)), (4, .d (.rp 1002 0)), (14, .d (iv s1)), (16, .d (.rs 27000 0 v7.length)), (18, .d (iv s8)), (78, .d (bv v14)), bxB 2005 (eXFunctor.b a0), (54001, .r (.arr 1 (v7.flatMap eI.o) []))] (.cons hy13'.1 (.cons hy13'.2.1 (.cons (at_o0 eI_ok hy13'.2.2 (d := iv y13) (by kernel_rfl)) (cc0 ok171 (spec_l15Universal_c a0 a1 s1 y13 _ hv14) (by kernel_rfl) .nil)))) (by kernel_rfl) (by kernel_rfl) ?_
      rcases Bool.eq_false_or_eq_true v14 with h15 | h15
      · have hM := ite_true' hM h15
        refine tr_condTe (e := v14) h15 (by kernel_rfl) ?_
        refine tr_sr hT hm [(4, .val (iv y13))] [8, 10, 12] [(8, .d (iv s1)), (10, .d (iv y13)), (12, .d (bv true))] (.cons hy13'.1 (.cons hy13'.2.1 (.cons (at_o0 eI_ok hy13'.2.2 (d := iv y13) (by kernel_rfl)) .nil))) (by kernel_rfl) (by kernel_rfl) ?_
        refine tr_ret (b_r (q_r (l_r (b_r (b_r (q_r (l_r (b_r (q_r (rg_r ?_))))))))))
        obtain rfl := Option.some.inj hM
        exact retg (names := []) .nil (by kernel_rfl)
      · have hM := ite_false' hM h15
        refine tr_condFe (e := v14) h15 (by kernel_rfl) ?_
        refine tr_skip (b_n (q_n ?_))
        refine tr_r hT hm [] [2, 4, 14, 16, 18, 2005, 54001] [(2, .d (iv a1)), (4, .d (.rp 1002 0)), (14, .d (iv s1)), (16, .d (.rs 27000 0 v7.length)), (18, .d (iv (IntKind.i64.wrap (s8 + 1)))), bxB 2005 (eXFunctor.b a0), (54001, .r (.arr 1 (v7.flatMap eI.o) []))] .nil (by kernel_rfl) (by kernel_rfl) (l_n ?_)
        exact trl_start (ks := [2, 4, 14, 16, 18, 2005, 54001]) (by kernel_rfl) (ih10 (IntKind.i64.wrap (s8 + 1)) hM)
    · have hM := ite_false' hM h12
      refine tr_condFe (e := decide (s8 < (v7.length : Int))) h12 (by kernel_rfl) ?_
      refine tr_exit (q_x (l_x (b_h (b_n (q_n ?_)))))
      refine tr_r hT hm [] [2, 4, 14, 2005] [(2, .d (iv a1)), (4, .d (.rp 1002 0)), (14, .d (iv (IntKind.i64.wrap (s1 + 1)))), bxB 2005 (eXFunctor.b a0)] .nil (by kernel_rfl) (by kernel_rfl) (l_n ?_)
      exact trl_start (ks := [2, 4, 14, 2005]) (by kernel_rfl) (ih3 (IntKind.i64.wrap (s1 + 1)) hM)
  · have hM := ite_false' hM h5
    refine tr_condFe (e := decide (s1 < a0.Source.Objects)) h5 (by kernel_rfl) ?_
    refine tr_exit (q_x (l_x (b_h (q_n ?_))))
    refine tr_sr hT hm [] [8, 10, 12] [(8, .d (iv 0)), (10, .d (iv 0)), (12, .d (bv false))] .nil (by kernel_rfl) (by kernel_rfl) ?_
    refine tr_ret (rg_r ?_)
    obtain rfl := Option.some.inj hM
    exact retg (names := []) .nil (by kernel_rfl)

theorem ok179 : CallOk Try.prog 179 := callOk_of Try.func179 (by kernel_rfl) (by kernel_rfl)
theorem impl_Functor_isUniversalArrow_c (a0 : XFunctor) (a1 : Int) (a2 : Int) (r : Bool) (hM : M.impl_Functor_isUniversalArrow a0 a1 a2 = some r) :
    FnC Try.prog 179 [] [.pt (eXFunctor.b a0) 0, iv a1, iv a2] [] (bv r) := by
  refine fnc_startG (N := 76) (np := 500) hT Try.func179 rfl rfl (by kernel_rfl) ?_
  unfold M.impl_Functor_isUniversalArrow at hM
  refine tr_start (ks := [0, 2, 4]) (st' := [(0, .d (.pt (eXFunctor.b a0) 0)), (2, .d (iv a1)), (4, .d (iv a2))]) (by kernel_rfl) ?_
  refine tr_sr hT hm [] [0, 2, 4] [(0, .d (.pt (eXFunctor.b a0) 0)), (2, .d (iv a1)), (4, .d (iv a2))] .nil (by kernel_rfl) (by kernel_rfl) ?_
  refine tr_sr hT hm [] [0, 2, 4, 14, 16] [(0, .d (.pt (eXFunctor.b a0) 0)), (2, .d (iv a1)), (4, .d (iv a2)), (14, .d (.pt (eXFunctor.b a0) 0)), (16, .d (.pt (eXFunctor.b a0) 5))] .nil (by kernel_rfl) (by kernel_rfl) ?_
  refine tr_seq ?_
  refine tr_sr hT hm [] [0, 2, 4, 14, 16, 48, 50, 52] [(0, .d (.pt (eXFunctor.b a0) 0)), (2, .d (iv a1)), (4, .d (iv a2)), (14, .d (.pt (eXFunctor.b a0) 0)), (16, .d (.pt (eXFunctor.b a0) 5)), (48, .d (.sl a0.Objects.length 0 (a0.Objects.flatMap eI.b))), (50, .d (iv (a0.Objects.length : Int))), (52, .d (iv 0))] .nil (by kernel_rfl) (by kernel_rfl) ?_
  refine tr_block ?_
  refine tr_iterS (fun (s1 : Int) => [(0, .d (.pt (eXFunctor.b a0) 0)), (2, .d (iv a1)), (4, .d (iv a2)), (14, .d (.pt (eXFunctor.b a0) 0)), (16, .d (.pt (eXFunctor.b a0) 5)), (48, .d (.sl a0.Objects.length 0 (a0.Objects.flatMap eI.b))), (50, .d (iv (a0.Objects.length : Int))), (52, .d (iv s1))]) 0 [0, 2, 4, 14, 16, 48, 50, 52] (by kernel_rfl) hM ?_
  intro n4 next2 ih3 s1 hM
  refine tr_sr hT hm [] [0, 2, 4, 14, 16, 48, 50, 52, 54] [(0, .d (.pt (eXFunctor.b a0) 0)), (2, .d (iv a1)), (4, .d (iv a2)), (14, .d (.pt (eXFunctor.b a0) 0)), (16, .d (.pt (eXFunctor.b a0) 5)), (48, .d (.sl a0.Objects.length 0 (a0.Objects.flatMap eI.b))), (50, .d (iv (a0.Objects.length : Int))), (52, .d (iv s1)), (54, .d (bv (decide (s1 < (a0.Objects.length : Int)))))] .nil (by kernel_rfl) (by kernel_rfl) ?_
  refine tr_seq ?_
  rcases Bool.eq_false_or_eq_true (decide (s1 < (a0.Objects.length : Int))) with h5 | h5
  · have hM := ite_true' hM h5
    refine tr_condTe (e := decide (s1 < (a0.Objects.length : Int))) h5 (by kernel_rfl) ?_
    refine tr_skip (q_n ?_)
    refine tr_seq ?_
    refine tr_block ?_
    obtain ⟨y6, hy6, hM⟩ := bind_some' hM
    have hy6' := idx_some hy6
    refine tr_sr hT hm [(2, .val (iv y6))] [0, 2, 4, 14, 16, 18, 20, 48, 50, 52] [(0, .d (.pt (eXFunctor.b a0) 0)), (2, .d (iv a1)), (4, .d (iv a2)), (14, .d (.pt (eXFunctor.b a0) 0)), (16, .d (.pt (eXFunctor.b a0) 5)), (18, .d (iv s1)), (20, .d (iv y6)), (48, .d (.sl a0.Objects.length 0 (a0.Objects.flatMap eI.b))), (50, .d (iv (a0.Objects.length : Int))), (52, .d (iv s1))] (.cons hy6'.1 (.cons hy6'.2.1 (.cons (at_b0 eI_ok hy6'.2.2 (d := iv y6) (by kernel_rfl)) .nil))) (by kernel_rfl) (by kernel_rfl) ?_
    obtain ⟨v7, hv7, hM⟩ := bind_some' hM
    refine tr_sr hT hm [(3, .call [] [] [.pt (eXCategory.b a0.Source) 0, iv s1, iv a1] [] (.fr 1 v7.length (v7.flatMap eI.o)))] [0, 2, 4, 14, 16, 20, 22, 48, 50, 52, 72001] [(0, .d (.pt (eXFunctor.b a0) 0)), (2, .d (iv a1)), (4, .d (iv a2)), (14, .d (.pt (eXFunctor.b a0) 0)), (16, .d (.pt (eXFunctor.b a0) 5)), (20, .d (iv y6)), (22, .d (.rs 36000 0 v7.length)), (48, .d (.sl a0.Objects.length 0 (a0.Objects.flatMap eI.b))), (50, .d (iv (a0.Objects.length : Int))), (52, .d (iv s1)), (72001, .r (.arr 1 (v7.flatMap eI.o) []))] (cc (B := []) (ρ := []) (rB := []) ok130 (impl_Category_hom_c a0.Source s1 a1 _ hv7) (.cons (.pass (.ptk (ds := eXFunctor.b a0) (ds' := eXCategory.b a0.Source) (off := 0) (n := 5) (by kernel_rfl) (by kernel_rfl) (by kernel_rfl))) (.cons (.same rfl) (.cons (.same rfl) .nil))) (.inl rfl) .nil) (by kernel_rfl) (by kernel_rfl) ?_
    refine tr_sr hT hm [] [0, 2, 4, 14, 16, 20, 22, 24, 48, 50, 52, 2071, 72001] [(0, .d (.pt (eXFunctor.b a0) 0)), (2, .d (iv a1)), (4, .d (iv a2)), (14, .d (.pt (eXFunctor.b a0) 0)), (16, .d (.pt (eXFunctor.b a0) 5)), (20, .d (iv y6)), (22, .d (.rs 36000 0 v7.length)), (24, .d (.rm 1035)), (48, .d (.sl a0.Objects.length 0 (a0.Objects.flatMap eI.b))), (50, .d (iv (a0.Objects.length : Int))), (52, .d (iv s1)), (2071, .r (.mp (mpE kI vB ([] : List (Int × Bool))))), (72001, .r (.arr 1 (v7.flatMap eI.o) []))] .nil (by kernel_rfl) (by kernel_rfl) ?_
    refine tr_seq ?_
    refine tr_sr hT hm [] [0, 2, 4, 14, 16, 20, 22, 24, 48, 50, 52, 72, 74, 76, 2071, 72001] [(0, .d (.pt (eXFunctor.b a0) 0)), (2, .d (iv a1)), (4, .d (iv a2)), (14, .d (.pt (eXFunctor.b a0) 0)), (16, .d (.pt (eXFunctor.b a0) 5)), (20, .d (iv y6)), (22, .d (.rs 36000 0 v7.length)), (24, .d (.rm 1035)), (48, .d (.sl a0.Objects.length 0 (a0.Objects.flatMap eI.b))), (50, .d (iv (a0.Objects.length : Int))), (52, .d (iv s1)), (72, .d (.rs 36000 0 v7.length)), (74, .d (iv (v7.length : Int))), (76, .d (iv 0)), (2071, .r (.mp (mpE kI vB ([] : List (Int × Bool))))), (72001, .r (.arr 1 (v7.flatMap eI.o) []))] .nil (by kernel_rfl) (by kernel_rfl) ?_
    refine tr_block ?_
    refine tr_iterS (fun (s8 : (List (Int × Bool)) × Int) => [(0, .d (.pt (eXFunctor.b a0) 0)), (2, .d (iv a1)), (4, .d (iv a2)), (14, .d (.pt (eXFunctor.b a0) 0)), (16, .d (.pt (eXFunctor.b a0) 5)), (20, .d (iv y6)), (22, .d (.rs 36000 0 v7.length)), (24, .d (.rm 1035)), (48, .d (.sl a0.Objects.length 0 (a0.Objects.flatMap eI.b))), (50, .d (iv (a0.Objects.length : Int))), (52, .d (iv s1)), (72, .d (.rs 36000 0 v7.length)), (74, .d (iv (v7.length : Int))), (76, .d (iv s8.2)), (2071, .r (.mp (mpE kI vB s8.1))), (72001, .r (.arr 1 (v7.flatMap eI.o) []))]) (([] : List (Int × Bool)), 0) [0, 2, 4, 14, 16, 20, 22, 24, 48, 50, 52, 72, 74, 76, 2071, 72001] (by kernel_rfl) hM ?_
    intro n11 next9 ih10 s8 hM
    refine tr_sr hT hm [] [0, 2, 4, 14, 16, 20, 22, 24, 48, 50, 52, 72, 74, 76, 78, 2071, 72001] [(0, .d (.pt (eXFunctor.b a0) 0)), (2, .d (iv a1)), (4, .d (iv a2)), (14, .d (.pt (eXFunctor.b a0) 0)), (16, .d (.pt (eXFunctor.b a0) 5)), (20, .d (iv y6)), (22, .d (.rs 36000 0 v7.length)), (24, .d (.rm 1035)), (48, .d (.sl a0.Objects.length 0 (a0.Objects.flatMap eI.b))), (50, .d (iv (a0.Objects.length : Int))), (52, .d (iv s1)), (72, .d (.rs 36000 0 v7.length)), (74, .d (iv (v7.length : Int))), (76, .d (iv s8.2)), (78, .d (bv (decide (s8.2 < (v7.length : Int))))), (2071, .r (.mp (mpE kI vB s8.1))), (72001, .r (.arr 1 (v7.flatMap eI.o) []))] .nil (by kernel_rfl) (by kernel_rfl) ?_
    refine tr_seq ?_
    rcases Bool.eq_false_or_eq_true (decide (s8.2 < (v7.length : Int))) with h12 | h12
    · have hM := ite_true' hM h12
      refine tr_condTe (e := decide (s8.2 < (v7.length : Int))) h12 (by kernel_rfl) ?_
      refine tr_skip (q_n ?_)
      refine tr_seq ?_
      refine tr_block ?_
      obtain ⟨y13, hy13, hM⟩ := bind_some' hM
      have hy13' := idx_some hy13
      refine tr_sr hT hm [(1, .val (iv y13))] [0, 2, 4, 14, 16, 20, 22, 24, 28, 48, 50, 52, 72, 74, 76, 2071, 72001] [(0, .d (.pt (eXFunctor.b a0) 0)), (2, .d (iv a1)), (4, .d (iv a2)), (14, .d (.pt (eXFunctor.b a0) 0)), (16, .d (.pt (eXFunctor.b a0) 5)), (20, .d (iv y6)), (22, .d (.rs 36000 0 v7.length)), (24, .d (.rm 1035)), (28, .d (iv y13)), (48, .d (.sl a0.Objects.length 0 (a0.Objects.flatMap eI.b))), (50, .d (iv (a0.Objects.length : Int))), (52, .d (iv s1)), (72, .d (.rs 36000 0 v7.length)), (74, .d (iv (v7.length : Int))), (76, .d (iv s8.2)), (2071, .r (.mp (mpE kI vB s8.1))), (72001, .r (.arr 1 (v7.flatMap eI.o) []))] (.cons hy13'.1 (.cons hy13'.2.1 (.cons (at_o0 eI_ok hy13'.2.2 (d := iv y13) (by kernel_rfl)) .nil))) (by kernel_rfl) (by kernel_rfl) ?_
      obtain ⟨y14, hy14, hM⟩ := bind_some' hM
      have hy14' := idx_some hy14
      obtain ⟨v15, hv15, hM⟩ := bind_some' hM
      refine tr_r hT hm [(8, .val (iv y14)), (10, .call [] [] [.pt (eXCategory.b a0.Target) 0, iv y14, iv a2] [] (iv v15))] [0, 2, 4, 14, 16, 20, 22, 24, 48, 50, 52, 72, 74, 76, 2071, 72001] [(0, .d (.pt (eXFunctor.b a0) 0)), (2, .d (iv a1)), (4, .d (iv a2)), (14, .d (.pt (eXFunctor.b a0) 0)), (16, .d (.pt (eXFunctor.b a0) 5)), (20, .d (iv y6)), (22, .d (.rs 36000 0 v7.length)), (24, .d (.rm 1035)), (48, .d (.sl a0.Objects.length 0 (a0.Objects.flatMap eI.b))), (50, .d (iv (a0.Objects.length : Int))), (52, .d (iv s1)), (72, .d (.rs 36000 0 v7.length)), (74, .d (iv (v7.length : Int))), (76, .d (iv s8.2)), (2071, .r (.mp (putV kI.d (kI.e v15) (vB true) (mpE kI vB s8.1)))), (72001, .r (.arr 1 (v7.flatMap eI.o) []))] (.cons hy14'.1 (.cons hy14'.2.1 (.cons (at_b0 eI_ok hy14'.2.2 (d := iv y14) (by kernel_rfl)) (cc (B := []) (ρ := []) (rB := []) ok132 (impl_Category_then_c a0.Target y14 a2 _ hv15) (.cons (.pass (.ptk (ds := eXFunctor.b a0) (ds' := eXCategory.b a0.Target) (off := 5) (n := 5) (by kernel_rfl) (by kernel_rfl) (by kernel_rfl))) (.cons (.same rfl) (.cons (.same rfl) .nil))) (.inl rfl) (.cons (fnd_some kI vB v15 s8.1) .nil))))) (by kernel_rfl) (by kernel_rfl) (b_n (q_n ?_))
      refine Tr.by (imp_cvM (r := 1035) (put_mpE kI vB v15 true s8.1) (by kernel_rfl)) ?_
      refine tr_r hT hm [] [0, 2, 4, 14, 16, 20, 22, 24, 48, 50, 52, 72, 74, 76, 2071, 72001] [(0, .d (.pt (eXFunctor.b a0) 0)), (2, .d (iv a1)), (4, .d (iv a2)), (14, .d (.pt (eXFunctor.b a0) 0)), (16, .d (.pt (eXFunctor.b a0) 5)), (20, .d (iv y6)), (22, .d (.rs 36000 0 v7.length)), (24, .d (.rm 1035)), (48, .d (.sl a0.Objects.length 0 (a0.Objects.flatMap eI.b))), (50, .d (iv (a0.Objects.length : Int))), (52, .d (iv s1)), (72, .d (.rs 36000 0 v7.length)), (74, .d (iv (v7.length : Int))), (76, .d (iv (IntKind.i64.wrap (s8.2 + 1)))), (2071, .r (.mp (mpE kI vB (mput v15 true s8.1)))), (72001, .r (.arr 1 (v7.flatMap eI.o) []))] .nil (by kernel_rfl) (by kernel_rfl) (l_n ?_)
      exact trl_start (ks := [0, 2, 4, 14, 16, 20, 22, 24, 48, 50, 52, 72, 74, 76, 2071, 72001]) (by kernel_rfl) (ih10 (mput v15 true s8.1, IntKind.i64.wrap (s8.2 + 1)) hM)
    · have hM := ite_false' hM h12
      refine tr_condFe (e := decide (s8.2 < (v7.length : Int))) h12 (by kernel_rfl) ?_
      refine tr_exit (q_x (l_x (b_h (q_n ?_))))
      rcases Bool.eq_false_or_eq_true ((s8.1.length : Int) != (v7.length : Int)) with h16 | h16
      · have hM := ite_true' hM h16
        refine tr_sr hT hm [(1, .val (iv (s8.1.length : Int))), (5, .val (bv true))] [0, 2, 4, 14, 16, 48, 50, 52, 148] [(0, .d (.pt (eXFunctor.b a0) 0)), (2, .d (iv a1)), (4, .d (iv a2)), (14, .d (.pt (eXFunctor.b a0) 0)), (16, .d (.pt (eXFunctor.b a0) 5)), (48, .d (.sl a0.Objects.length 0 (a0.Objects.flatMap eI.b))), (50, .d (iv (a0.Objects.length : Int))), (52, .d (iv s1)), (148, .d (bv true))] (.cons (len_mpE kI vB s8.1) (.cons (congrArg (fun b => bv b) h16) .nil)) (by kernel_rfl) (by kernel_rfl) ?_
        refine tr_condT (by kernel_rfl) ?_
        refine tr_sr hT hm [] [12] [(12, .d (bv false))] .nil (by kernel_rfl) (by kernel_rfl) ?_
        refine tr_ret (b_r (q_r (l_r (b_r (q_r (rg_r ?_))))))
        obtain rfl := Option.some.inj hM
        exact retg (names := []) .nil (by kernel_rfl)
      · have hM := ite_false' hM h16
        obtain ⟨y17, hy17, hM⟩ := bind_some' hM
        have hy17' := idx_some hy17
        obtain ⟨v18, hv18, hM⟩ := bind_some' hM
        refine tr_sr hT hm [(1, .val (iv (s8.1.length : Int))), (5, .val (bv false)), (16, .val (iv y17)), (17, .call [] [] [.pt (eXCategory.b a0.Target) 0, iv y6, iv y17] [] (.fr 1 v18.length (v18.flatMap eI.o)))] [0, 2, 4, 14, 16, 48, 50, 52, 120, 122, 124, 126, 128, 130, 132, 134, 136, 138, 140, 142, 144, 146, 148, 72001, 146001] [(0, .d (.pt (eXFunctor.b a0) 0)), (2, .d (iv a1)), (4, .d (iv a2)), (14, .d (.pt (eXFunctor.b a0) 0)), (16, .d (.pt (eXFunctor.b a0) 5)), (48, .d (.sl a0.Objects.length 0 (a0.Objects.flatMap eI.b))), (50, .d (iv (a0.Objects.length : Int))), (52, .d (iv s1)), (120, .d (.rs 36000 0 v7.length)), (122, .d (iv (v7.length : Int))), (124, .d (.pt (eXFunctor.b a0) 5)), (126, .d (iv y6)), (128, .d (.pt (eXFunctor.b a0) 5)), (130, .d (.pt (eXFunctor.b a0) 5)), (132, .d (.pt (eXFunctor.b a0) 7)), (134, .d (.sl a0.Target.To.length 0 (a0.Target.To.flatMap eI.b))), (136, .d (iv a2)), (138, .d (.pt (a0.Target.To.flatMap eI.b) (0 + a2.toNat * 1))), (140, .d (iv y17)), (142, .d (.rs 73000 0 v18.length)), (144, .d (iv (v18.length : Int))), (146, .d (bv ((v7.length : Int) != (v18.length : Int)))), (148, .d (bv ((v7.length : Int) != (v18.length : Int)))), (72001, .r (.arr 1 (v7.flatMap eI.o) [])), (146001, .r (.arr 1 (v18.flatMap eI.o) []))] (.cons (len_mpE kI vB s8.1) (.cons (congrArg (fun b => bv b) h16) (.cons hy17'.1 (.cons hy17'.2.1 (.cons (at_b0 eI_ok hy17'.2.2 (d := iv y17) (by kernel_rfl)) (cc (B := []) (ρ := []) (rB := []) ok130 (impl_Category_hom_c a0.Target y6 y17 _ hv18) (.cons (.pass (.ptk (ds := eXFunctor.b a0) (ds' := eXCategory.b a0.Target) (off := 5) (n := 5) (by kernel_rfl) (by kernel_rfl) (by kernel_rfl))) (.cons (.same rfl) (.cons (.same rfl) .nil))) (.inl rfl) .nil)))))) (by kernel_rfl) (by kernel_rfl) ?_
        rcases Bool.eq_false_or_eq_true ((v7.length : Int) != (v18.length : Int)) with h19 | h19
        · have hM := ite_true' hM h19
          refine tr_condTe (e := (v7.length : Int) != (v18.length : Int)) h19 (by kernel_rfl) ?_
          refine tr_sr hT hm [] [12] [(12, .d (bv false))] .nil (by kernel_rfl) (by kernel_rfl) ?_
          refine tr_ret (b_r (q_r (l_r (b_r (q_r (rg_r ?_))))))
          obtain rfl := Option.some.inj hM
          exact retg (names := []) .nil (by kernel_rfl)
        · have hM := ite_false' hM h19
          refine tr_condFe (e := (v7.length : Int) != (v18.length : Int)) h19 (by kernel_rfl) ?_
          refine tr_skip (b_n (q_n ?_))
          refine tr_r hT hm [] [0, 2, 4, 14, 16, 48, 50, 52, 120, 122, 124, 126, 128, 130, 132, 134, 136, 138, 140, 142, 144, 146, 72001, 146001] [(0, .d (.pt (eXFunctor.b a0) 0)), (2, .d (iv a1)), (4, .d (iv a2)), (14, .d (.pt (eXFunctor.b a0) 0)), (16, .d (.pt (eXFunctor.b a0) 5)), (48, .d (.sl a0.Objects.length 0 (a0.Objects.flatMap eI.b))), (50, .d (iv (a0.Objects.length : Int))), (52, .d (iv (IntKind.i64.wrap (s1 + 1)))), (120, .d (.rs 36000 0 v7.length)), (122, .d (iv (v7.length : Int))), (124, .d (.pt (eXFunctor.b a0) 5)), (126, .d (iv y6)), (128, .d (.pt (eXFunctor.b a0) 5)), (130, .d (.pt (eXFunctor.b a0) 5)), (132, .d (.pt (eXFunctor.b a0) 7)), (134, .d (.sl a0.Target.To.length 0 (a0.Target.To.flatMap eI.b))), (136, .d (iv a2)), (138, .d (.pt (a0.Target.To.flatMap eI.b) (0 + a2.toNat * 1))), (140, .d (iv y17)), (142, .d (.rs 73000 0 v18.length)), (144, .d (iv (v18.length : Int))), (146, .d (bv ((v7.length : Int) != (v18.length : Int)))), (72001, .r (.arr 1 (v7.flatMap eI.o) [])), (146001, .r (.arr 1 (v18.flatMap eI.o) []))] .nil (by kernel_rfl) (by kernel_rfl) (l_n ?_)
          exact trl_start (ks := [0, 2, 4, 14, 16, 48, 50, 52]) (by kernel_rfl) (ih3 (IntKind.i64.wrap (s1 + 1)) hM)
  · have hM := ite_false' hM h5
    refine tr_condFe (e := decide (s1 < (a0.Objects.length : Int))) h5 (by kernel_rfl) ?_
    refine tr_exit (q_x (l_x (b_h (q_n ?_))))
    refine tr_sr hT hm [] [12] [(12, .d (bv true))] .nil (by kernel_rfl) (by kernel_rfl) ?_
    refine tr_ret (rg_r ?_)
    obtain rfl := Option.some.inj hM
    exact retg (names := []) .nil (by kernel_rfl)

theorem ok73 : CallOk Try.prog 73 := callOk_of Try.func73 (by kernel_rfl) (by kernel_rfl)
theorem impl_Functor_universalArrow_c (a0 : XFunctor) (a1 : Int) (r : Int × Int × Bool) (hM : M.impl_Functor_universalArrow a0 a1 = some r) :
    FnC Try.prog 73 [] [.pt (eXFunctor.b a0) 0, iv a1] [] (.tup [iv r.1, iv r.2.1, bv r.2.2]) := by
  refine fnc_startG (N := 40) (np := 500) hT Try.func73 rfl rfl (by kernel_rfl) ?_
  unfold M.impl_Functor_universalArrow at hM
  refine tr_start (ks := [0, 2]) (st' := [(0, .d (.pt (eXFunctor.b a0) 0)), (2, .d (iv a1))]) (by kernel_rfl) ?_
  refine tr_sr hT hm [] [0, 2] [(0, .d (.pt (eXFunctor.b a0) 0)), (2, .d (iv a1))] .nil (by kernel_rfl) (by kernel_rfl) ?_
  refine tr_seq ?_
  refine tr_sr hT hm [] [0, 2, 28, 30, 32] [(0, .d (.pt (eXFunctor.b a0) 0)), (2, .d (iv a1)), (28, .d (.sl a0.Objects.length 0 (a0.Objects.flatMap eI.b))), (30, .d (iv (a0.Objects.length : Int))), (32, .d (iv 0))] .nil (by kernel_rfl) (by kernel_rfl) ?_
  refine tr_block ?_
  refine tr_iterS (fun (s1 : Int) => [(0, .d (.pt (eXFunctor.b a0) 0)), (2, .d (iv a1)), (28, .d (.sl a0.Objects.length 0 (a0.Objects.flatMap eI.b))), (30, .d (iv (a0.Objects.length : Int))), (32, .d (iv s1))]) 0 [0, 2, 28, 30, 32] (by kernel_rfl) hM ?_
  intro n4 next2 ih3 s1 hM
  refine tr_sr hT hm [] [0, 2, 28, 30, 32, 34] [(0, .d (.pt (eXFunctor.b a0) 0)), (2, .d (iv a1)), (28, .d (.sl a0.Objects.length 0 (a0.Objects.flatMap eI.b))), (30, .d (iv (a0.Objects.length : Int))), (32, .d (iv s1)), (34, .d (bv (decide (s1 < (a0.Objects.length : Int)))))] .nil (by kernel_rfl) (by kernel_rfl) ?_
  refine tr_seq ?_
  rcases Bool.eq_false_or_eq_true (decide (s1 < (a0.Objects.length : Int))) with h5 | h5
  · have hM := ite_true' hM h5
    refine tr_condTe (e := decide (s1 < (a0.Objects.length : Int))) h5 (by kernel_rfl) ?_
    refine tr_skip (q_n ?_)
    refine tr_seq ?_
    refine tr_block ?_
    obtain ⟨y6, hy6, hM⟩ := bind_some' hM
    have hy6' := idx_some hy6
    refine tr_sr hT hm [(2, .val (iv y6))] [0, 2, 14, 16, 28, 30, 32] [(0, .d (.pt (eXFunctor.b a0) 0)), (2, .d (iv a1)), (14, .d (iv s1)), (16, .d (iv y6)), (28, .d (.sl a0.Objects.length 0 (a0.Objects.flatMap eI.b))), (30, .d (iv (a0.Objects.length : Int))), (32, .d (iv s1))] (.cons hy6'.1 (.cons hy6'.2.1 (.cons (at_b0 eI_ok hy6'.2.2 (d := iv y6) (by kernel_rfl)) .nil))) (by kernel_rfl) (by kernel_rfl) ?_
    obtain ⟨v7, hv7, hM⟩ := bind_some' hM
    refine tr_sr hT hm [(5, .call [] [] [.pt (eXCategory.b a0.Target) 0, iv y6, iv a1] [] (.fr 1 v7.length (v7.flatMap eI.o)))] [0, 2, 14, 28, 30, 32, 52, 54, 56, 56001] [(0, .d (.pt (eXFunctor.b a0) 0)), (2, .d (iv a1)), (14, .d (iv s1)), (28, .d (.sl a0.Objects.length 0 (a0.Objects.flatMap eI.b))), (30, .d (iv (a0.Objects.length : Int))), (32, .d (iv s1)), (52, .d (.rs 28000 0 v7.length)), (54, .d (iv (v7.length : Int))), (56, .d (iv 0)), (56001, .r (.arr 1 (v7.flatMap eI.o) []))] (cc (B := []) (ρ := []) (rB := []) ok130 (impl_Category_hom_c a0.Target y6 a1 _ hv7) (.cons (.pass (.ptk (ds := eXFunctor.b a0) (ds' := eXCategory.b a0.Target) (off := 5) (n := 5) (by kernel_rfl) (by kernel_rfl) (by kernel_rfl))) (.cons (.same rfl) (.cons (.same rfl) .nil))) (.inl rfl) .nil) (by kernel_rfl) (by kernel_rfl) ?_
    refine tr_block ?_
    refine tr_iterS (fun (s8 : Int) => [(0, .d (.pt (eXFunctor.b a0) 0)), (2, .d (iv a1)), (14, .d (iv s1)), (28, .d (.sl a0.Objects.length 0 (a0.Objects.flatMap eI.b))), (30, .d (iv (a0.Objects.length : Int))), (32, .d (iv s1)), (52, .d (.rs 28000 0 v7.length)), (54, .d (iv (v7.length : Int))), (56, .d (iv s8)), (56001, .r (.arr 1 (v7.flatMap eI.o) []))]) 0 [0, 2, 14, 28, 30, 32, 52, 54, 56, 56001] (by kernel_rfl) hM ?_
    intro n11 next9 ih10 s8 hM
    refine tr_sr hT hm [] [0, 2, 14, 28, 30, 32, 52, 54, 56, 58, 56001] [(0, .d (.pt (eXFunctor.b a0) 0)), (2, .d (iv a1)), (14, .d (iv s1)), (28, .d (.sl a0.Objects.length 0 (a0.Objects.flatMap eI.b))), (30, .d (iv (a0.Objects.length : Int))), (32, .d (iv s1)), (52, .d (.rs 28000 0 v7.length)), (54, .d (iv (v7.length : Int))), (56, .d (iv s8)), (58, .d (bv (decide (s8 < (v7.length : Int))))), (56001, .r (.arr 1 (v7.flatMap eI.o) []))] .nil (by kernel_rfl) (by kernel_rfl) ?_
    refine tr_seq ?_
    rcases Bool.eq_false_or_eq_true (decide (s8 < (v7.length : Int))) with h12 | h12
    · have hM := ite_true' hM h12
      refine tr_condTe (e := decide (s8 < (v7.length : Int))) h12 (by kernel_rfl) ?_
      refine tr_skip (q_n ?_)
      refine tr_seq ?_
      refine tr_block ?_
      obtain ⟨y13, hy13, hM⟩ := bind_some' hM
      have hy13' := idx_some hy13
      refine tr_sr hT hm [(1, .val (iv y13))] [0, 2, 14, 20, 28, 30, 32, 52, 54, 56, 56001] [(0, .d (.pt (eXFunctor.b a0) 0)), (2, .d (iv a1)), (14, .d (iv s1)), (20, .d (iv y13)), (28, .d (.sl a0.Objects.length 0 (a0.Objects.flatMap eI.b))), (30, .d (iv (a0.Objects.length : Int))), (32, .d (iv s1)), (52, .d (.rs 28000 0 v7.length)), (54, .d (iv (v7.length : Int))), (56, .d (iv s8)), (56001, .r (.arr 1 (v7.flatMap eI.o) []))] (.cons hy13'.1 (.cons hy13'.2.1 (.cons (at_o0 eI_ok hy13'.2.2 (d := iv y13) (by kernel_rfl)) .nil))) (by kernel_rfl) (by kernel_rfl) ?_
      obtain ⟨v14, hv14, hM⟩ := bind_some' hM
      refine tr_sr hT hm [(3, .call [] [] [.pt (eXFunctor.b a0) 0, iv s1, iv y13] [] (bv v14))] [0, 2, 14, 20, 28, 30, 32, 52, 54, 56, 70, 56001] [(0, .d (.pt (eXFunctor.b a0) 0)), (2, .d (iv a1)), (14, .d (iv s1)), (20, .d (iv y13)), (28, .d (.sl a0.Objects.length 0 (a0.Objects.flatMap eI.b))), (30, .d (iv (a0.Objects.length : Int))), (32, .d (iv s1)), (52, .d (.rs 28000 0 v7.length)), (54, .d (iv (v7.length : Int))), (56, .d (iv s8)), (70, .d (bv v14)), (56001, .r (.arr 1 (v7.flatMap eI.o) []))] (cc0 ok179 (impl_Functor_isUniversalArrow_c a0 s1 y13 _ hv14) (by kernel_rfl) .nil) (by kernel_rfl) (by kernel_rfl) ?_
      rcases Bool.eq_false_or_eq_true v14 with h15 | h15
      · have hM := ite_true' hM h15
        refine tr_condTe (e := v14) h15 (by kernel_rfl) ?_
        refine tr_sr hT hm [] [8, 10, 12] [(8, .d (iv s1)), (10, .d (iv y13)), (12, .d (bv true))] .nil (by kernel_rfl) (by kernel_rfl) ?_
        refine tr_ret (b_r (q_r (l_r (b_r (b_r (q_r (l_r (b_r (q_r (rg_r ?_))))))))))
        obtain rfl := Option.some.inj hM
        exact retg (names := []) .nil (by kernel_rfl)
      · have hM := ite_false' hM h15
        refine tr_condFe (e := v14) h15 (by kernel_rfl) ?_
        refine tr_skip (b_n (q_n ?_))
        refine tr_r hT hm [] [0, 2, 14, 28, 30, 32, 52, 54, 56, 56001] [(0, .d (.pt (eXFunctor.b a0) 0)), (2, .d (iv a1)), (14, .d (iv s1)), (28, .d (.sl a0.Objects.length 0 (a0.Objects.flatMap eI.b))), (30, .d (iv (a0.Objects.length : Int))), (32, .d (iv s1)), (52, .d (.rs 28000 0 v7.length)), (54, .d (iv (v7.length : Int))), (56, .d (iv (IntKind.i64.wrap (s8 + 1)))), (56001, .r (.arr 1 (v7.flatMap eI.o) []))] .nil (by kernel_rfl) (by kernel_rfl) (l_n ?_)
        exact trl_start (ks := [0, 2, 14, 28, 30, 32, 52, 54, 56, 56001]) (by kernel_rfl) (ih10 (IntKind.i64.wrap (s8 + 1)) hM)
    · have hM := ite_false' hM h12
      refine tr_condFe (e := decide (s8 < (v7.length : Int))) h12 (by kernel_rfl) ?_
      refine tr_exit (q_x (l_x (b_h (b_n (q_n ?_)))))
      refine tr_r hT hm [] [0, 2, 28, 30, 32] [(0, .d (.pt (eXFunctor.b a0) 0)), (2, .d (iv a1)), (28, .d (.sl a0.Objects.length 0 (a0.Objects.flatMap eI.b))), (30, .d (iv (a0.Objects.length : Int))), (32, .d (iv (IntKind.i64.wrap (s1 + 1))))] .nil (by kernel_rfl) (by kernel_rfl) (l_n ?_)
      exact trl_start (ks := [0, 2, 28, 30, 32]) (by kernel_rfl) (ih3 (IntKind.i64.wrap (s1 + 1)) hM)
  · have hM := ite_false' hM h5
    refine tr_condFe (e := decide (s1 < (a0.Objects.length : Int))) h5 (by kernel_rfl) ?_
    refine tr_exit (q_x (l_x (b_h (q_n ?_))))
    refine tr_sr hT hm [] [8, 10, 12] [(8, .d (iv 0)), (10, .d (iv 0)), (12, .d (bv false))] .nil (by kernel_rfl) (by kernel_rfl) ?_
    refine tr_ret (rg_r ?_)
    obtain rfl := Option.some.inj hM
    exact retg (names := []) .nil (by kernel_rfl)

end Go.Proofs.Ytjmjhhhglbeacaa.WyU
