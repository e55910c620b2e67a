/- Walks. Printed by wip/gen. -/
import Derived.Test.YtfihadfjmbfpgaaGxEM0
import Derived.Test.YtfihadfjmbfpgaaGxEO0
import Derived.Test.YtfihadfjmbfpgaaGxvBW3
import Derived.KernelRfl
namespace Go.Proofs.Ytfihadfjmbfpgaa.WwN
open Go.Gx Go.Proofs.Ytfihadfjmbfpgaa.WvB

theorem eXCategory_r : EncR eXCategory := (eA_r (eC_r eI_r _) (eA_r (eC_r (eS_r eI_ok) _) (eA_r (eC_r (eS_r eI_ok) _) (eA_r (eC_r (eS_r eI_ok) _) (eC_r (eS_r (eS_ok eI_ok)) _)))))
theorem eXFunctor_r : EncR eXFunctor := (eA_r (eC_r eXCategory_r _) (eA_r (eC_r eXCategory_r _) (eA_r (eC_r (eS_r eI_ok) _) (eC_r (eS_r eI_ok) _))))
def T : Tab := [(2, ⟨.int .i64, 1, 8, [.int .i64 0]⟩),
  (3, ⟨.int .i64, 1, 8, [.int .i64 0]⟩),
  (22, ⟨.slice 2, 1, 24, [.slice .none 0 0]⟩),
  (23, ⟨.slice 22, 1, 24, [.slice .none 0 0]⟩),
  (33, ⟨.struct #[⟨"Objects", 2, 0, false, "", "", 0⟩, ⟨"From", 22, 1, false, "", "", 8⟩, ⟨"To", 22, 2, false, "", "", 32⟩, ⟨"Identity", 22, 3, false, "", "", 56⟩, ⟨"Composites", 23, 4, false, "", "", 80⟩], 5, 104, [.int .i64 0, .slice .none 0 0, .slice .none 0 0, .slice .none 0 0, .slice .none 0 0]⟩),
  (35, ⟨.struct #[⟨"Source", 33, 0, false, "", "", 0⟩, ⟨"Target", 33, 5, false, "", "", 104⟩, ⟨"Objects", 22, 10, false, "", "", 208⟩, ⟨"Arrows", 22, 11, false, "", "", 232⟩], 12, 256, [.int .i64 0, .slice .none 0 0, .slice .none 0 0, .slice .none 0 0, .slice .none 0 0, .int .i64 0, .slice .none 0 0, .slice .none 0 0, .slice .none 0 0, .slice .none 0 0, .slice .none 0 0, .slice .none 0 0]⟩)]
theorem hT : TabOk Try.prog T := ⟨tiok (by kernel_rfl) (by kernel_rfl), tiok (by kernel_rfl) (by kernel_rfl), tiok (by kernel_rfl) (by kernel_rfl), tiok (by kernel_rfl) (by kernel_rfl), tiok (by kernel_rfl) (by kernel_rfl), tiok (by kernel_rfl) (by kernel_rfl), trivial⟩
theorem hm : Try.prog.follows .mixedOrders = true := by kernel_rfl

theorem ok51 : CallOk Try.prog 51 := callOk_of Try.func51 (by kernel_rfl) (by kernel_rfl)
theorem spec_l02Then_c (a0 : XCategory) (a1 : Int) (a2 : Int) (r : Int) (hM : M.spec_l02Then a0 a1 a2 = some r) :
    FnC Try.prog 51 [] [.agg (eXCategory.b a0), iv a1, iv a2] [] (iv r) := by
  refine fnc_startG (N := 15) (np := 500) hT Try.func51 rfl rfl (by kernel_rfl) ?_
  unfold M.spec_l02Then at hM
  refine tr_start (ks := [0, 2, 4]) (st' := [(0, .d (.agg (eXCategory.b a0))), (2, .d (iv a1)), (4, .d (iv a2))]) (by kernel_rfl) ?_
  refine tr_sr hT hm [] [2, 4, 6, 2007] [(2, .d (iv a1)), (4, .d (iv a2)), (6, .d (.rp 1003 0)), bxB 2007 (eXCategory.b a0)] .nil (by kernel_rfl) (by kernel_rfl) ?_
  obtain ⟨y1, hy1, hM⟩ := bind_some' hM
  have hy1' := idx_some hy1
  obtain ⟨y2, hy2, hM⟩ := bind_some' hM
  have hy2' := idx_some hy2
  refine tr_sr hT hm [(4, .val (.sl y1.length 0 (y1.flatMap eI.b))), (7, .val (iv y2))] [12] [(12, .d (iv y2))] (.cons hy1'.1 (.cons hy1'.2.1 (.cons (at_b0 (eS_ok eI_ok) hy1'.2.2 (d := .sl y1.length 0 (y1.flatMap eI.b)) (by kernel_rfl)) (.cons hy2'.1 (.cons hy2'.2.1 (.cons (at_b0 eI_ok hy2'.2.2 (d := iv y2) (by kernel_rfl)) .nil)))))) (by kernel_rfl) (by kernel_rfl) ?_
  refine tr_ret (rg_r ?_)
  obtain rfl := Option.some.inj hM
  exact retg (names := []) .nil (by kernel_rfl)

theorem ok84 : CallOk Try.prog 84 := callOk_of Try.func84 (by kernel_rfl) (by kernel_rfl)
theorem spec_l02Unit_c (a0 : XCategory) (a1 : Int) (r : Bool) (hM : M.spec_l02Unit a0 a1 = some r) :
    FnC Try.prog 84 [] [.agg (eXCategory.b a0), iv a1] [] (bv r) := by
  refine fnc_startG (N := 16) (np := 500) hT Try.func84 rfl rfl (by kernel_rfl) ?_
  unfold M.spec_l02Unit at hM
  refine tr_start (ks := [0, 2]) (st' := [(0, .d (.agg (eXCategory.b a0))), (2, .d (iv a1))]) (by kernel_rfl) ?_
  refine tr_sr hT hm [] [2, 4, 2005] [(2, .d (iv a1)), (4, .d (.rp 1002 0)), bxB 2005 (eXCategory.b a0)] .nil (by kernel_rfl) (by kernel_rfl) ?_
  obtain ⟨y1, hy1, hM⟩ := bind_some' hM
  have hy1' := idx_some hy1
  obtain ⟨y2, hy2, hM⟩ := bind_some' hM
  have hy2' := idx_some hy2
  refine tr_sr hT hm [(6, .val (iv y1)), (8, .val (iv y2))] [8] [(8, .d (bv (y2 == a1)))] (.cons hy1'.1 (.cons hy1'.2.1 (.cons (at_b0 eI_ok hy1'.2.2 (d := iv y1) (by kernel_rfl)) (.cons hy2'.1 (.cons hy2'.2.1 (.cons (at_b0 eI_ok hy2'.2.2 (d := iv y2) (by kernel_rfl)) .nil)))))) (by kernel_rfl) (by kernel_rfl) ?_
  refine tr_ret (rg_r ?_)
  obtain rfl := Option.some.inj hM
  exact retg (names := []) .nil (by kernel_rfl)

theorem ok47 : CallOk Try.prog 47 := callOk_of Try.func47 (by kernel_rfl) (by kernel_rfl)
theorem spec_l15Natural_c (a0 : XFunctor) (a1 : XFunctor) (a2 : List Int) (r : Bool) (hM : M.spec_l15Natural a0 a1 a2 = some r) :
    FnC Try.prog 47 [] [.agg (eXFunctor.b a0), .agg (eXFunctor.b a1), .sl a2.length 0 (a2.flatMap eI.b)] [] (bv r) := by
  refine fnc_startG (N := 103) (np := 500) hT Try.func47 rfl rfl (by kernel_rfl) ?_
  unfold M.spec_l15Natural at hM
  refine tr_start (ks := [0, 2, 4]) (st' := [(0, .d (.agg (eXFunctor.b a0))), (2, .d (.agg (eXFunctor.b a1))), (4, .d (.sl a2.length 0 (a2.flatMap eI.b)))]) (by kernel_rfl) ?_
  refine tr_sr hT hm [] [4, 6, 8, 2007, 2009] [(4, .d (.sl a2.length 0 (a2.flatMap eI.b))), (6, .d (.rp 1003 0)), (8, .d (.rp 1004 0)), bxB 2007 (eXFunctor.b a0), bxB 2009 (eXFunctor.b a1)] .nil (by kernel_rfl) (by kernel_rfl) ?_
  refine tr_sr hT hm [] [4, 6, 8, 14, 16, 2007, 2009, 2015, 2017] [(4, .d (.sl a2.length 0 (a2.flatMap eI.b))), (6, .d (.rp 1003 0)), (8, .d (.rp 1004 0)), (14, .d (.rp 1007 0)), (16, .d (.rp 1008 0)), bxB 2007 (eXFunctor.b a0), bxB 2009 (eXFunctor.b a1), bxB 2015 (eXCategory.b a0.Source), bxB 2017 (eXCategory.b a0.Target)] (.cons (Nat.le_of_ble_eq_true (n := 5) (m := 5) rfl) (.cons (Nat.le_of_ble_eq_true (n := 5) (m := 5) rfl) .nil)) (by kernel_rfl) (by kernel_rfl) ?_
  refine tr_seq ?_
  rcases Bool.eq_false_or_eq_true ((a2.length : Int) != (a0.Objects.length : Int)) with h1 | h1
  · have hM := ite_true' hM h1
    refine tr_sr hT hm [(6, .val (bv true))] [4, 6, 8, 14, 16, 56, 2007, 2009, 2015, 2017] [(4, .d (.sl a2.length 0 (a2.flatMap eI.b))), (6, .d (.rp 1003 0)), (8, .d (.rp 1004 0)), (14, .d (.rp 1007 0)), (16, .d (.rp 1008 0)), (56, .d (bv true)), bxB 2007 (eXFunctor.b a0), bxB 2009 (eXFunctor.b a1), bxB 2015 (eXCategory.b a0.Source), bxB 2017 (eXCategory.b a0.Target)] (.cons (congrArg (fun b => bv b) h1) .nil) (by kernel_rfl) (by kernel_rfl) ?_
    refine tr_condT (by kernel_rfl) ?_
    refine tr_sr hT hm [] [12] [(12, .d (bv false))] .nil (by kernel_rfl) (by kernel_rfl) ?_
    refine tr_ret (q_r (rg_r ?_))
    obtain rfl := Option.some.inj hM
    exact retg (names := []) .nil (by kernel_rfl)
  · have hM := ite_false' hM h1
    obtain ⟨v2, hv2, hM⟩ := bind_some' hM
    refine tr_sr hT hm [(6, .val (bv false)), (11, .call [] [] [iv (a0.Target.From.length : Int), .sl a2.length 0 (a2.flatMap eI.b)] [] (bv v2))] [4, 6, 8, 14, 16, 56, 2007, 2009, 2015, 2017] [(4, .d (.sl a2.length 0 (a2.flatMap eI.b))), (6, .d (.rp 1003 0)), (8, .d (.rp 1004 0)), (14, .d (.rp 1007 0)), (16, .d (.rp 1008 0)), (56, .d (bv (!v2))), bxB 2007 (eXFunctor.b a0), bxB 2009 (eXFunctor.b a1), bxB 2015 (eXCategory.b a0.Source), bxB 2017 (eXCategory.b a0.Target)] (.cons (congrArg (fun b => bv b) h1) (cc0 ok79 (spec_l01Map_c (a0.Target.From.length : Int) a2 _ hv2) (by kernel_rfl) .nil)) (by kernel_rfl) (by kernel_rfl) ?_
    rcases Bool.eq_false_or_eq_true v2 with h3 | h3
    · have hM := ite_true' hM h3
      refine tr_condFe (e := !v2) (congrArg not h3) (by kernel_rfl) ?_
      refine tr_skip (q_n ?_)
      refine tr_seq ?_
      refine tr_sr hT hm [] [4, 6, 8, 14, 16, 18, 2007, 2009, 2015, 2017] [(4, .d (.sl a2.length 0 (a2.flatMap eI.b))), (6, .d (.rp 1003 0)), (8, .d (.rp 1004 0)), (14, .d (.rp 1007 0)), (16, .d (.rp 1008 0)), (18, .d (iv 0)), bxB 2007 (eXFunctor.b a0), bxB 2009 (eXFunctor.b a1), bxB 2015 (eXCategory.b a0.Source), bxB 2017 (eXCategory.b a0.Target)] .nil (by kernel_rfl) (by kernel_rfl) ?_
      refine tr_block ?_
      refine tr_iterS (fun (s4 : Int) => [(4, .d (.sl a2.length 0 (a2.flatMap eI.b))), (6, .d (.rp 1003 0)), (8, .d (.rp 1004 0)), (14, .d (.rp 1007 0)), (16, .d (.rp 1008 0)), (18, .d (iv s4)), bxB 2007 (eXFunctor.b a0), bxB 2009 (eXFunctor.b a1), bxB 2015 (eXCategory.b a0.Source), bxB 2017 (eXCategory.b a0.Target)]) 0 [4, 6, 8, 14, 16, 18, 2007, 2009, 2015, 2017] (by kernel_rfl) hM ?_
      intro n7 next5 ih6 s4 hM
      refine tr_seq ?_
      refine tr_sr hT hm [] [4, 6, 8, 14, 16, 18, 64, 2007, 2009, 2015, 2017] [(4, .d (.sl a2.length 0 (a2.flatMap eI.b))), (6, .d (.rp 1003 0)), (8, .d (.rp 1004 0)), (14, .d (.rp 1007 0)), (16, .d (.rp 1008 0)), (18, .d (iv s4)), (64, .d (bv (decide (s4 < (a2.length : Int))))), bxB 2007 (eXFunctor.b a0), bxB 2009 (eXFunctor.b a1), bxB 2015 (eXCategory.b a0.Source), bxB 2017 (eXCategory.b a0.Target)] .nil (by kernel_rfl) (by kernel_rfl) ?_
      rcases Bool.eq_false_or_eq_true (decide (s4 < (a2.length : Int))) with h8 | h8
      · have hM := ite_true' hM h8
        refine tr_condTe (e := decide (s4 < (a2.length : Int))) h8 (by kernel_rfl) ?_
        refine tr_skip (q_n ?_)
        refine tr_seq ?_
        refine tr_block ?_
        obtain ⟨y9, hy9, hM⟩ := bind_some' hM
        have hy9' := idx_some hy9
        obtain ⟨y10, hy10, hM⟩ := bind_some' hM
        have hy10' := idx_some hy10
        obtain ⟨y11, hy11, hM⟩ := bind_some' hM
        have hy11' := idx_some hy11
        rcases Bool.eq_false_or_eq_true (y10 != y11) with h12 | h12
        · have hM := ite_true' hM h12
          refine tr_sr hT hm [(5, .val (iv y9)), (7, .val (iv y10)), (12, .val (iv y11)), (14, .val (bv true))] [4, 6, 8, 14, 16, 18, 128, 2007, 2009, 2015, 2017] [(4, .d (.sl a2.length 0 (a2.flatMap eI.b))), (6, .d (.rp 1003 0)), (8, .d (.rp 1004 0)), (14, .d (.rp 1007 0)), (16, .d (.rp 1008 0)), (18, .d (iv s4)), (128, .d (bv true)), bxB 2007 (eXFunctor.b a0), bxB 2009 (eXFunctor.b a1), bxB 2015 (eXCategory.b a0.Source), bxB 2017 (eXCategory.b a0.Target)] (.cons hy9'.1 (.cons hy9'.2.1 (.cons (at_b0 eI_ok hy9'.2.2 (d := iv y9) (by kernel_rfl)) (.cons hy10'.1 (.cons hy10'.2.1 (.cons (at_b0 eI_ok hy10'.2.2 (d := iv y10) (by kernel_rfl)) (.cons hy11'.1 (.cons hy11'.2.1 (.cons (at_b0 eI_ok hy11'.2.2 (d := iv y11) (by kernel_rfl)) (.cons (congrArg (fun b => bv b) h12) .nil)))))))))) (by kernel_rfl) (by kernel_rfl) ?_
          refine tr_condT (by kernel_rfl) ?_
          refine tr_sr hT hm [] [12] [(12, .d (bv false))] .nil (by kernel_rfl) (by kernel_rfl) ?_
          refine tr_ret (b_r (q_r (l_r (b_r (q_r (rg_r ?_))))))
          obtain rfl := Option.some.inj hM
          exact retg (names := []) .nil (by kernel_rfl)
        · have hM := ite_false' hM h12
          obtain ⟨y13, hy13, hM⟩ := bind_some' hM
          have hy13' := idx_some hy13
          obtain ⟨y14, hy14, hM⟩ := bind_some' hM
          have hy14' := idx_some hy14
          refine tr_sr hT hm [(5, .val (iv y9)), (7, .val (iv y10)), (12, .val (iv y11)), (14, .val (bv false)), (20, .val (iv y9)), (22, .val (iv y13)), (27, .val (iv y14))] [4, 6, 8, 14, 16, 18, 128, 2007, 2009, 2015, 2017] [(4, .d (.sl a2.length 0 (a2.flatMap eI.b))), (6, .d (.rp 1003 0)), (8, .d (.rp 1004 0)), (14, .d (.rp 1007 0)), (16, .d (.rp 1008 0)), (18, .d (iv s4)), (128, .d (bv (y13 != y14))), bxB 2007 (eXFunctor.b a0), bxB 2009 (eXFunctor.b a1), bxB 2015 (eXCategory.b a0.Source), bxB 2017 (eXCategory.b a0.Target)] (.cons hy9'.1 (.cons hy9'.2.1 (.cons (at_b0 eI_ok hy9'.2.2 (d := iv y9) (by kernel_rfl)) (.cons hy10'.1 (.cons hy10'.2.1 (.cons (at_b0 eI_ok hy10'.2.2 (d := iv y10) (by kernel_rfl)) (.cons hy11'.1 (.cons hy11'.2.1 (.cons (at_b0 eI_ok hy11'.2.2 (d := iv y11) (by kernel_rfl)) (.cons (congrArg (fun b => bv b) h12) (.cons hy9'.1 (.cons hy9'.2.1 (.cons (at_b0 eI_ok hy9'.2.2 (d := iv y9) (by kernel_rfl)) (.cons hy13'.1 (.cons hy13'.2.1 (.cons (at_b0 eI_ok hy13'.2.2 (d := iv y13) (by kernel_rfl)) (.cons hy14'.1 (.cons hy14'.2.1 (.cons (at_b0 eI_ok hy14'.2.2 (d := iv y14) (by kernel_rfl)) .nil))))))))))))))))))) (by kernel_rfl) (by kernel_rfl) ?_
          rcases Bool.eq_false_or_eq_true (y13 != y14) with h15 | h15
          · have hM := ite_true' hM h15
            refine tr_condTe (e := y13 != y14) h15 (by kernel_rfl) ?_
            refine tr_sr hT hm [] [12] [(12, .d (bv false))] .nil (by kernel_rfl) (by kernel_rfl) ?_
            refine tr_ret (b_r (q_r (l_r (b_r (q_r (rg_r ?_))))))
            obtain rfl := Option.some.inj hM
            exact retg (names := []) .nil (by kernel_rfl)
          · have hM := ite_false' hM h15
            refine tr_condFe (e := y13 != y14) h15 (by kernel_rfl) ?_
            refine tr_skip (b_n (q_n ?_))
            refine tr_r hT hm [] [4, 6, 8, 14, 16, 18, 2007, 2009, 2015, 2017] [(4, .d (.sl a2.length 0 (a2.flatMap eI.b))), (6, .d (.rp 1003 0)), (8, .d (.rp 1004 0)), (14, .d (.rp 1007 0)), (16, .d (.rp 1008 0)), (18, .d (iv (IntKind.i64.wrap (s4 + 1)))), bxB 2007 (eXFunctor.b a0), bxB 2009 (eXFunctor.b a1), bxB 2015 (eXCategory.b a0.Source), bxB 2017 (eXCategory.b a0.Target)] .nil (by kernel_rfl) (by kernel_rfl) (l_n ?_)
            exact trl_start (ks := [4, 6, 8, 14, 16, 18, 2007, 2009, 2015, 2017]) (by kernel_rfl) (ih6 (IntKind.i64.wrap (s4 + 1)) hM)
      · have hM := ite_false' hM h8
        refine tr_condFe (e := decide (s4 < (a2.length : Int))) h8 (by kernel_rfl) ?_
        refine tr_exit (q_x (l_x (b_h (q_n ?_))))
        refine tr_seq ?_
        refine tr_sr hT hm [] [4, 6, 8, 14, 16, 20, 2007, 2009, 2015, 2017] [(4, .d (.sl a2.length 0 (a2.flatMap eI.b))), (6, .d (.rp 1003 0)), (8, .d (.rp 1004 0)), (14, .d (.rp 1007 0)), (16, .d (.rp 1008 0)), (20, .d (iv 0)), bxB 2007 (eXFunctor.b a0), bxB 2009 (eXFunctor.b a1), bxB 2015 (eXCategory.b a0.Source), bxB 2017 (eXCategory.b a0.Target)] .nil (by kernel_rfl) (by kernel_rfl) ?_
        refine tr_block ?_
        refine tr_iterS (fun (s16 : Int) => [(4, .d (.sl a2.length 0 (a2.flatMap eI.b))), (6, .d (.rp 1003 0)), (8, .d (.rp 1004 0)), (14, .d (.rp 1007 0)), (16, .d (.rp 1008 0)), (20, .d (iv s16)), bxB 2007 (eXFunctor.b a0), bxB 2009 (eXFunctor.b a1), bxB 2015 (eXCategory.b a0.Source), bxB 2017 (eXCategory.b a0.Target)]) 0 [4, 6, 8, 14, 16, 20, 2007, 2009, 2015, 2017] (by kernel_rfl) hM ?_
        intro n19 next17 ih18 s16 hM
        refine tr_seq ?_
        refine tr_sr hT hm [] [4, 6, 8, 14, 16, 20, 138, 2007, 2009, 2015, 2017] [(4, .d (.sl a2.length 0 (a2.flatMap eI.b))), (6, .d (.rp 1003 0)), (8, .d (.rp 1004 0)), (14, .d (.rp 1007 0)), (16, .d (.rp 1008 0)), (20, .d (iv s16)), (138, .d (bv (decide (s16 < (a0.Source.From.length : Int))))), bxB 2007 (eXFunctor.b a0), bxB 2009 (eXFunctor.b a1), bxB 2015 (eXCategory.b a0.Source), bxB 2017 (eXCategory.b a0.Target)] .nil (by kernel_rfl) (by kernel_rfl) ?_
        rcases Bool.eq_false_or_eq_true (decide (s16 < (a0.Source.From.length : Int))) with h20 | h20
        · have hM := ite_true' hM h20
          refine tr_condTe (e := decide (s16 < (a0.Source.From.length : Int))) h20 (by kernel_rfl) ?_
          refine tr_skip (q_n ?_)
          refine tr_seq ?_
          refine tr_block ?_
          obtain ⟨y21, hy21, hM⟩ := bind_some' hM
          have hy21' := idx_some hy21
          obtain ⟨y22, hy22, hM⟩ := bind_some' hM
          have hy22' := idx_some hy22
          obtain ⟨y23, hy23, hM⟩ := bind_some' hM
          have hy23' := idx_some hy23
          obtain ⟨v24, hv24, hM⟩ := bind_some' hM
          obtain ⟨y25, hy25, hM⟩ := bind_some' hM
          have hy25' := idx_some hy25
          obtain ⟨y26, hy26, hM⟩ := bind_some' hM
          have hy26' := idx_some hy26
          obtain ⟨y27, hy27, hM⟩ := bind_some' hM
          have hy27' := idx_some hy27
          obtain ⟨v28, hv28, hM⟩ := bind_some' hM
          refine tr_sr hT hm [(5, .val (iv y21)), (11, .val (iv y22)), (13, .val (iv y23)), (14, .call [] [] [.agg (eXCategory.b a0.Target), iv y21, iv y23] [] (iv v24)), (21, .val (iv y25)), (23, .val (iv y26)), (28, .val (iv y27)), (29, .call [] [] [.agg (eXCategory.b a0.Target), iv y26, iv y27] [] (iv v28))] [4, 6, 8, 14, 16, 20, 204, 2007, 2009, 2015, 2017] [(4, .d (.sl a2.length 0 (a2.flatMap eI.b))), (6, .d (.rp 1003 0)), (8, .d (.rp 1004 0)), (14, .d (.rp 1007 0)), (16, .d (.rp 1008 0)), (20, .d (iv s16)), (204, .d (bv (v24 != v28))), bxB 2007 (eXFunctor.b a0), bxB 2009 (eXFunctor.b a1), bxB 2015 (eXCategory.b a0.Source), bxB 2017 (eXCategory.b a0.Target)] (.cons hy21'.1 (.cons hy21'.2.1 (.cons (at_b0 eI_ok hy21'.2.2 (d := iv y21) (by kernel_rfl)) (.cons hy22'.1 (.cons hy22'.2.1 (.cons (at_b0 eI_ok hy22'.2.2 (d := iv y22) (by kernel_rfl)) (.cons hy23'.1 (.cons hy23'.2.1 (.cons (at_b0 eI_ok hy23'.2.2 (d := iv y23) (by kernel_rfl)) (cc0 ok51 (spec_l02Then_c a0.Target y21 y23 _ hv24) (by kernel_rfl) (.cons hy25'.1 (.cons hy25'.2.1 (.cons (at_b0 eI_ok hy25'.2.2 (d := iv y25) (by kernel_rfl)) (.cons hy26'.1 (.cons hy26'.2.1 (.cons (at_b0 eI_ok hy26'.2.2 (d := iv y26) (by kernel_rfl)) (.cons hy27'.1 (.cons hy27'.2.1 (.cons (at_b0 eI_ok hy27'.2.2 (d := iv y27) (by kernel_rfl)) (cc0 ok51 (spec_l02Then_c a0.Target y26 y27 _ hv28) (by kernel_rfl) .nil)))))))))))))))))))) (by kernel_rfl) (by kernel_rfl) ?_
          rcases Bool.eq_false_or_eq_true (v24 != v28) with h29 | h29
          · have hM := ite_true' hM h29
            refine tr_condTe (e := v24 != v28) h29 (by kernel_rfl) ?_
            refine tr_sr hT hm [] [12] [(12, .d (bv false))] .nil (by kernel_rfl) (by kernel_rfl) ?_
            refine tr_ret (b_r (q_r (l_r (b_r (q_r (rg_r ?_))))))
            obtain rfl := Option.some.inj hM
            exact retg (names := []) .nil (by kernel_rfl)
          · have hM := ite_false' hM h29
            refine tr_condFe (e := v24 != v28) h29 (by kernel_rfl) ?_
            refine tr_skip (b_n (q_n ?_))
            refine tr_r hT hm [] [4, 6, 8, 14, 16, 20, 2007, 2009, 2015, 2017] [(4, .d (.sl a2.length 0 (a2.flatMap eI.b))), (6, .d (.rp 1003 0)), (8, .d (.rp 1004 0)), (14, .d (.rp 1007 0)), (16, .d (.rp 1008 0)), (20, .d (iv (IntKind.i64.wrap (s16 + 1)))), bxB 2007 (eXFunctor.b a0), bxB 2009 (eXFunctor.b a1), bxB 2015 (eXCategory.b a0.Source), bxB 2017 (eXCategory.b a0.Target)] .nil (by kernel_rfl) (by kernel_rfl) (l_n ?_)
            exact trl_start (ks := [4, 6, 8, 14, 16, 20, 2007, 2009, 2015, 2017]) (by kernel_rfl) (ih18 (IntKind.i64.wrap (s16 + 1)) hM)
        · have hM := ite_false' hM h20
          refine tr_condFe (e := decide (s16 < (a0.Source.From.length : Int))) h20 (by kernel_rfl) ?_
          refine tr_exit (q_x (l_x (b_h (q_n ?_))))
          refine tr_sr hT hm [] [12] [(12, .d (bv true))] .nil (by kernel_rfl) (by kernel_rfl) ?_
          refine tr_ret (rg_r ?_)
          obtain rfl := Option.some.inj hM
          exact retg (names := []) .nil (by kernel_rfl)
    · have hM := ite_false' hM h3
      refine tr_condTe (e := !v2) (congrArg not h3) (by kernel_rfl) ?_
      refine tr_sr hT hm [] [12] [(12, .d (bv false))] .nil (by kernel_rfl) (by kernel_rfl) ?_
      refine tr_ret (q_r (rg_r ?_))
      obtain rfl := Option.some.inj hM
      exact retg (names := []) .nil (by kernel_rfl)

end Go.Proofs.Ytfihadfjmbfpgaa.WwN
