/- Walks. Printed by wip/gen. -/
import Derived.Test.YtpfdieaiogfihaaGxw45M
import Derived.Test.YtpfdieaiogfihaaGxwEW
import Derived.KernelRfl
namespace Go.Proofs.Ytpfdieaiogfihaa.Ww45
open Go.Gx Go.Proofs.Ytpfdieaiogfihaa.WvB Go.Proofs.Ytpfdieaiogfihaa.WwN Go.Proofs.Ytpfdieaiogfihaa.WvS Go.Proofs.Ytpfdieaiogfihaa.WvF Go.Proofs.Ytpfdieaiogfihaa.WwT Go.Proofs.Ytpfdieaiogfihaa.WwU Go.Proofs.Ytpfdieaiogfihaa.WvH Go.Proofs.Ytpfdieaiogfihaa.WvI Go.Proofs.Ytpfdieaiogfihaa.WwA Go.Proofs.Ytpfdieaiogfihaa.WwO Go.Proofs.Ytpfdieaiogfihaa.WwE

theorem eXCategory_r : EncR eXCategory := (eA_r (eC_r eI_r _) (eA_r (eC_r (eS_r eI_ok) _) (eA_r (eC_r (eS_r eI_ok) _) (eA_r (eC_r (eS_r eI_ok) _) (eC_r (eS_r (eS_ok eI_ok)) _)))))
theorem eXFunctor_r : EncR eXFunctor := (eA_r (eC_r eXCategory_r _) (eA_r (eC_r eXCategory_r _) (eA_r (eC_r (eS_r eI_ok) _) (eC_r (eS_r eI_ok) _))))
theorem eXends_r : EncR eXends := (eA_r (eC_r eI_r _) (eC_r eI_r _))
theorem eXTransformation_r : EncR eXTransformation := (eA_r (eC_r eXFunctor_r _) (eA_r (eC_r eXFunctor_r _) (eC_r (eS_r eI_ok) _)))
theorem eXAdjunction_r : EncR eXAdjunction := (eA_r (eC_r eXFunctor_r _) (eA_r (eC_r eXFunctor_r _) (eA_r (eC_r (eS_r eI_ok) _) (eC_r (eS_r eI_ok) _))))
def T : Tab := [(2, ⟨.int .i64, 1, 8, [.int .i64 0]⟩),
  (3, ⟨.int .i64, 1, 8, [.int .i64 0]⟩),
  (22, ⟨.slice 2, 1, 24, [.slice .none 0 0]⟩),
  (23, ⟨.slice 22, 1, 24, [.slice .none 0 0]⟩),
  (25, ⟨.struct #[⟨"Objects", 2, 0, false, "", "", 0⟩, ⟨"From", 22, 1, false, "", "", 8⟩, ⟨"To", 22, 2, false, "", "", 32⟩, ⟨"Identity", 22, 3, false, "", "", 56⟩, ⟨"Composites", 23, 4, false, "", "", 80⟩], 5, 104, [.int .i64 0, .slice .none 0 0, .slice .none 0 0, .slice .none 0 0, .slice .none 0 0]⟩),
  (27, ⟨.struct #[⟨"Source", 25, 0, false, "", "", 0⟩, ⟨"Target", 25, 5, false, "", "", 104⟩, ⟨"Objects", 22, 10, false, "", "", 208⟩, ⟨"Arrows", 22, 11, false, "", "", 232⟩], 12, 256, [.int .i64 0, .slice .none 0 0, .slice .none 0 0, .slice .none 0 0, .slice .none 0 0, .int .i64 0, .slice .none 0 0, .slice .none 0 0, .slice .none 0 0, .slice .none 0 0, .slice .none 0 0, .slice .none 0 0]⟩),
  (32, ⟨.struct #[⟨"Objects", 2, 0, false, "", "", 0⟩, ⟨"From", 22, 1, false, "", "", 8⟩, ⟨"To", 22, 2, false, "", "", 32⟩, ⟨"Identity", 22, 3, false, "", "", 56⟩, ⟨"Composites", 23, 4, false, "", "", 80⟩], 5, 104, [.int .i64 0, .slice .none 0 0, .slice .none 0 0, .slice .none 0 0, .slice .none 0 0]⟩),
  (34, ⟨.struct #[⟨"Source", 32, 0, false, "", "", 0⟩, ⟨"Target", 32, 5, false, "", "", 104⟩, ⟨"Objects", 22, 10, false, "", "", 208⟩, ⟨"Arrows", 22, 11, false, "", "", 232⟩], 12, 256, [.int .i64 0, .slice .none 0 0, .slice .none 0 0, .slice .none 0 0, .slice .none 0 0, .int .i64 0, .slice .none 0 0, .slice .none 0 0, .slice .none 0 0, .slice .none 0 0, .slice .none 0 0, .slice .none 0 0]⟩),
  (41, ⟨.struct #[⟨"Left", 27, 0, false, "", "", 0⟩, ⟨"Right", 27, 12, false, "", "", 256⟩, ⟨"Unit", 22, 24, false, "", "", 512⟩, ⟨"Counit", 22, 25, false, "", "", 536⟩], 26, 560, [.int .i64 0, .slice .none 0 0, .slice .none 0 0, .slice .none 0 0, .slice .none 0 0, .int .i64 0, .slice .none 0 0, .slice .none 0 0, .slice .none 0 0, .slice .none 0 0, .slice .none 0 0, .slice .none 0 0, .int .i64 0, .slice .none 0 0, .slice .none 0 0, .slice .none 0 0, .slice .none 0 0, .int .i64 0, .slice .none 0 0, .slice .none 0 0, .slice .none 0 0, .slice .none 0 0, .slice .none 0 0, .slice .none 0 0, .slice .none 0 0, .slice .none 0 0]⟩),
  (45, ⟨.struct #[⟨"Left", 34, 0, false, "", "", 0⟩, ⟨"Right", 34, 12, false, "", "", 256⟩, ⟨"Unit", 22, 24, false, "", "", 512⟩, ⟨"Counit", 22, 25, false, "", "", 536⟩], 26, 560, [.int .i64 0, .slice .none 0 0, .slice .none 0 0, .slice .none 0 0, .slice .none 0 0, .int .i64 0, .slice .none 0 0, .slice .none 0 0, .slice .none 0 0, .slice .none 0 0, .slice .none 0 0, .slice .none 0 0, .int .i64 0, .slice .none 0 0, .slice .none 0 0, .slice .none 0 0, .slice .none 0 0, .int .i64 0, .slice .none 0 0, .slice .none 0 0, .slice .none 0 0, .slice .none 0 0, .slice .none 0 0, .slice .none 0 0, .slice .none 0 0, .slice .none 0 0]⟩),
  (84, ⟨.struct #[⟨"from", 2, 0, false, "", "loop.example/g01083/impl", 0⟩, ⟨"to", 2, 1, false, "", "loop.example/g01083/impl", 8⟩], 2, 16, [.int .i64 0, .int .i64 0]⟩)]
theorem hT : TabOk Try.prog T := ⟨tiok (by kernel_rfl) (by kernel_rfl), tiok (by kernel_rfl) (by kernel_rfl), tiok (by kernel_rfl) (by kernel_rfl), tiok (by kernel_rfl) (by kernel_rfl), tiok (by kernel_rfl) (by kernel_rfl), tiok (by kernel_rfl) (by kernel_rfl), tiok (by kernel_rfl) (by kernel_rfl), tiok (by kernel_rfl) (by kernel_rfl), tiok (by kernel_rfl) (by kernel_rfl), tiok (by kernel_rfl) (by kernel_rfl), tiok (by kernel_rfl) (by kernel_rfl), trivial⟩
theorem hm : Try.prog.follows .mixedOrders = true := by kernel_rfl

theorem ok80 : CallOk Try.prog 80 := callOk_of Try.func80 (by kernel_rfl) (by kernel_rfl)
theorem spec_l15Back_c (a0 : XAdjunction) (a1 : Int) (a2 : Int) (r : Int) (hM : M.spec_l15Back a0 a1 a2 = some r) :
    FnC Try.prog 80 [] [.agg (eXAdjunction.b a0), iv a1, iv a2] [] (iv r) := by
  refine fnc_startG (N := 22) (np := 500) hT Try.func80 rfl rfl (by kernel_rfl) ?_
  unfold M.spec_l15Back at hM
  refine tr_start (ks := [0, 2, 4]) (st' := [(0, .d (.agg (eXAdjunction.b a0))), (2, .d (iv a1)), (4, .d (iv a2))]) (by kernel_rfl) ?_
  refine tr_sr hT hm [] [2, 4, 6, 2007] [(2, .d (iv a1)), (4, .d (iv a2)), (6, .d (.rp 1003 0)), bxB 2007 (eXAdjunction.b a0)] .nil (by kernel_rfl) (by kernel_rfl) ?_
  obtain ⟨y1, hy1, hM⟩ := bind_some' hM
  have hy1' := idx_some hy1
  obtain ⟨y2, hy2, hM⟩ := bind_some' hM
  have hy2' := idx_some hy2
  obtain ⟨v3, hv3, hM⟩ := bind_some' hM
  refine tr_sr hT hm [(8, .val (iv y1)), (13, .val (iv y2)), (14, .call [] [] [.agg (eXCategory.b a0.Left.Target), iv y1, iv y2] [] (iv v3))] [12] [(12, .d (iv v3))] (.cons hy1'.1 (.cons hy1'.2.1 (.cons (at_b0 eI_ok hy1'.2.2 (d := iv y1) (by kernel_rfl)) (.cons hy2'.1 (.cons hy2'.2.1 (.cons (at_b0 eI_ok hy2'.2.2 (d := iv y2) (by kernel_rfl)) (cc0 ok68 (spec_l02Then_c a0.Left.Target y1 y2 _ hv3) (by kernel_rfl) .nil))))))) (by kernel_rfl) (by kernel_rfl) ?_
  refine tr_ret (rg_r ?_)
  obtain rfl := Option.some.inj hM
  exact retg (names := []) .nil (by kernel_rfl)

theorem ok39 : CallOk Try.prog 39 := callOk_of Try.func39 (by kernel_rfl) (by kernel_rfl)
theorem spec_TransposeBack_c (a0 : XAdjunction) (a1 : Int) (a2 : Int) (a3 : Int) (r : Int × Int) (hM : M.spec_TransposeBack a0 a1 a2 a3 = some r) :
    FnC Try.prog 39 [] [.agg (eXAdjunction.b a0), iv a1, iv a2, iv a3] [] (.tup [iv r.1, iv r.2]) := by
  refine fnc_startG (N := 52) (np := 500) hT Try.func39 rfl rfl (by kernel_rfl) ?_
  unfold M.spec_TransposeBack at hM
  refine tr_start (ks := [0, 2, 4, 6]) (st' := [(0, .d (.agg (eXAdjunction.b a0))), (2, .d (iv a1)), (4, .d (iv a2)), (6, .d (iv a3))]) (by kernel_rfl) ?_
  refine tr_sr hT hm [] [2, 4, 6, 8, 2009] [(2, .d (iv a1)), (4, .d (iv a2)), (6, .d (iv a3)), (8, .d (.rp 1004 0)), bxB 2009 (eXAdjunction.b a0)] .nil (by kernel_rfl) (by kernel_rfl) ?_
  refine tr_seq ?_
  obtain ⟨v1, hv1, hM⟩ := bind_some' hM
  refine tr_sr hT hm [(1, .call [] [] [.agg (eXAdjunction.b a0)] [] (bv v1))] [2, 4, 6, 8, 28, 2009] [(2, .d (iv a1)), (4, .d (iv a2)), (6, .d (iv a3)), (8, .d (.rp 1004 0)), (28, .d (bv (!v1))), bxB 2009 (eXAdjunction.b a0)] (cc0 ok53 (spec_l15Is_c a0 _ hv1) (by kernel_rfl) .nil) (by kernel_rfl) (by kernel_rfl) ?_
  rcases Bool.eq_false_or_eq_true v1 with h2 | h2
  · have hM := ite_true' hM h2
    refine tr_condFe (e := !v1) (congrArg not h2) (by kernel_rfl) ?_
    refine tr_skip (q_n ?_)
    refine tr_sr hT hm [] [2, 4, 6, 8, 20, 2009, 2021] [(2, .d (iv a1)), (4, .d (iv a2)), (6, .d (iv a3)), (8, .d (.rp 1004 0)), (20, .d (.rp 1010 0)), bxB 2009 (eXAdjunction.b a0), bxB 2021 (eXCategory.b a0.Left.Source)] (.cons (Nat.le_of_ble_eq_true (n := 5) (m := 5) rfl) .nil) (by kernel_rfl) (by kernel_rfl) ?_
    refine tr_seq ?_
    obtain ⟨v3, hv3, hM⟩ := bind_some' hM
    refine tr_sr hT hm [(5, .call [] [] [.agg (eXAdjunction.b a0), iv a1, iv a2, .agg (eXCategory.b a0.Left.Source), iv a3] [] (iv v3))] [2, 4, 6, 8, 20, 22, 2009, 2021] [(2, .d (iv a1)), (4, .d (iv a2)), (6, .d (iv a3)), (8, .d (.rp 1004 0)), (20, .d (.rp 1010 0)), (22, .d (iv v3)), bxB 2009 (eXAdjunction.b a0), bxB 2021 (eXCategory.b a0.Left.Source)] (cc0 ok75 (spec_l15Ends_c a0 a1 a2 a0.Left.Source a3 _ hv3) (by kernel_rfl) .nil) (by kernel_rfl) (by kernel_rfl) ?_
    refine tr_sr hT hm [] [2, 4, 6, 8, 20, 22, 50, 2009, 2021] [(2, .d (iv a1)), (4, .d (iv a2)), (6, .d (iv a3)), (8, .d (.rp 1004 0)), (20, .d (.rp 1010 0)), (22, .d (iv v3)), (50, .d (bv (v3 != 0))), bxB 2009 (eXAdjunction.b a0), bxB 2021 (eXCategory.b a0.Left.Source)] .nil (by kernel_rfl) (by kernel_rfl) ?_
    rcases Bool.eq_false_or_eq_true (v3 != 0) with h4 | h4
    · have hM := ite_true' hM h4
      refine tr_condTe (e := v3 != 0) h4 (by kernel_rfl) ?_
      refine tr_sr hT hm [] [16, 18] [(16, .d (iv 0)), (18, .d (iv v3))] .nil (by kernel_rfl) (by kernel_rfl) ?_
      refine tr_ret (q_r (rg_r ?_))
      obtain rfl := Option.some.inj hM
      exact retg (names := []) .nil (by kernel_rfl)
    · have hM := ite_false' hM h4
      refine tr_condFe (e := v3 != 0) h4 (by kernel_rfl) ?_
      refine tr_skip (q_n ?_)
      refine tr_seq ?_
      obtain ⟨y5, hy5, hM⟩ := bind_some' hM
      have hy5' := idx_some hy5
      rcases Bool.eq_false_or_eq_true (y5 != a1) with h6 | h6
      · have hM := ite_true' hM h6
        refine tr_sr hT hm [(4, .val (iv y5)), (7, .val (bv true))] [4, 6, 8, 94, 2009] [(4, .d (iv a2)), (6, .d (iv a3)), (8, .d (.rp 1004 0)), (94, .d (bv true)), bxB 2009 (eXAdjunction.b a0)] (.cons hy5'.1 (.cons hy5'.2.1 (.cons (at_b0 eI_ok hy5'.2.2 (d := iv y5) (by kernel_rfl)) (.cons (congrArg (fun b => bv b) h6) .nil)))) (by kernel_rfl) (by kernel_rfl) ?_
        refine tr_condT (by kernel_rfl) ?_
        refine tr_sr hT hm [] [16, 18] [(16, .d (iv 0)), (18, .d (iv 5))] .nil (by kernel_rfl) (by kernel_rfl) ?_
        refine tr_ret (q_r (rg_r ?_))
        obtain rfl := Option.some.inj hM
        exact retg (names := []) .nil (by kernel_rfl)
      · have hM := ite_false' hM h6
        obtain ⟨y7, hy7, hM⟩ := bind_some' hM
        have hy7' := idx_some hy7
        obtain ⟨y8, hy8, hM⟩ := bind_some' hM
        have hy8' := idx_some hy8
        refine tr_sr hT hm [(4, .val (iv y5)), (7, .val (bv false)), (12, .val (iv y7)), (18, .val (iv y8))] [4, 6, 8, 94, 2009] [(4, .d (iv a2)), (6, .d (iv a3)), (8, .d (.rp 1004 0)), (94, .d (bv (y7 != y8))), bxB 2009 (eXAdjunction.b a0)] (.cons hy5'.1 (.cons hy5'.2.1 (.cons (at_b0 eI_ok hy5'.2.2 (d := iv y5) (by kernel_rfl)) (.cons (congrArg (fun b => bv b) h6) (.cons hy7'.1 (.cons hy7'.2.1 (.cons (at_b0 eI_ok hy7'.2.2 (d := iv y7) (by kernel_rfl)) (.cons hy8'.1 (.cons hy8'.2.1 (.cons (at_b0 eI_ok hy8'.2.2 (d := iv y8) (by kernel_rfl)) .nil)))))))))) (by kernel_rfl) (by kernel_rfl) ?_
        rcases Bool.eq_false_or_eq_true (y7 != y8) with h9 | h9
        · have hM := ite_true' hM h9
          refine tr_condTe (e := y7 != y8) h9 (by kernel_rfl) ?_
          refine tr_sr hT hm [] [16, 18] [(16, .d (iv 0)), (18, .d (iv 5))] .nil (by kernel_rfl) (by kernel_rfl) ?_
          refine tr_ret (q_r (rg_r ?_))
          obtain rfl := Option.some.inj hM
          exact retg (names := []) .nil (by kernel_rfl)
        · have hM := ite_false' hM h9
          refine tr_condFe (e := y7 != y8) h9 (by kernel_rfl) ?_
          refine tr_skip (q_n ?_)
          obtain ⟨v10, hv10, hM⟩ := bind_some' hM
          refine tr_sr hT hm [(3, .call [] [] [.agg (eXAdjunction.b a0), iv a2, iv a3] [] (iv v10))] [16, 18] [(16, .d (iv v10)), (18, .d (iv 0))] (cc0 ok80 (spec_l15Back_c a0 a2 a3 _ hv10) (by kernel_rfl) .nil) (by kernel_rfl) (by kernel_rfl) ?_
          refine tr_ret (rg_r ?_)
          obtain rfl := Option.some.inj hM
          exact retg (names := []) .nil (by kernel_rfl)
  · have hM := ite_false' hM h2
    refine tr_condTe (e := !v1) (congrArg not h2) (by kernel_rfl) ?_
    refine tr_sr hT hm [] [16, 18] [(16, .d (iv 0)), (18, .d (iv 1))] .nil (by kernel_rfl) (by kernel_rfl) ?_
    refine tr_ret (q_r (rg_r ?_))
    obtain rfl := Option.some.inj hM
    exact retg (names := []) .nil (by kernel_rfl)

theorem ok81 : CallOk Try.prog 81 := callOk_of Try.func81 (by kernel_rfl) (by kernel_rfl)
theorem impl_Adjunction_transposeBack_c (a0 : XAdjunction) (a1 : Int) (a2 : Int) (r : Int) (hM : M.impl_Adjunction_transposeBack a0 a1 a2 = some r) :
    FnC Try.prog 81 [] [.pt (eXAdjunction.b a0) 0, iv a1, iv a2] [] (iv r) := by
  refine fnc_startG (N := 27) (np := 500) hT Try.func81 rfl rfl (by kernel_rfl) ?_
  unfold M.impl_Adjunction_transposeBack at hM
  refine tr_start (ks := [0, 2, 4]) (st' := [(0, .d (.pt (eXAdjunction.b a0) 0)), (2, .d (iv a1)), (4, .d (iv a2))]) (by kernel_rfl) ?_
  refine tr_sr hT hm [] [0, 2, 4] [(0, .d (.pt (eXAdjunction.b a0) 0)), (2, .d (iv a1)), (4, .d (iv a2))] .nil (by kernel_rfl) (by kernel_rfl) ?_
  obtain ⟨y1, hy1, hM⟩ := bind_some' hM
  have hy1' := idx_some hy1
  obtain ⟨y2, hy2, hM⟩ := bind_some' hM
  have hy2' := idx_some hy2
  obtain ⟨v3, hv3, hM⟩ := bind_some' hM
  refine tr_sr hT hm [(11, .val (iv y1)), (18, .val (iv y2)), (19, .call [] [] [.pt (eXCategory.b a0.Left.Target) 0, iv y1, iv y2] [] (iv v3))] [12] [(12, .d (iv v3))] (.cons hy1'.1 (.cons hy1'.2.1 (.cons (at_b0 eI_ok hy1'.2.2 (d := iv y1) (by kernel_rfl)) (.cons hy2'.1 (.cons hy2'.2.1 (.cons (at_b0 eI_ok hy2'.2.2 (d := iv y2) (by kernel_rfl)) (cc (B := []) (ρ := []) (rB := []) ok69 (impl_Category_then_c a0.Left.Target y1 y2 _ hv3) (.cons (.pass (.ptk (ds := eXAdjunction.b a0) (ds' := eXCategory.b a0.Left.Target) (off := 5) (n := 5) (by kernel_rfl) (by kernel_rfl) (by kernel_rfl))) (.cons (.same rfl) (.cons (.same rfl) .nil))) (.inl rfl) .nil))))))) (by kernel_rfl) (by kernel_rfl) ?_
  refine tr_ret (rg_r ?_)
  obtain rfl := Option.some.inj hM
  exact retg (names := []) .nil (by kernel_rfl)

theorem ok40 : CallOk Try.prog 40 := callOk_of Try.func40 (by kernel_rfl) (by kernel_rfl)
theorem impl_TransposeBack_c (a0 : XAdjunction) (a1 : Int) (a2 : Int) (a3 : Int) (r : Int × Int) (hM : M.impl_TransposeBack a0 a1 a2 a3 = some r) :
    FnC Try.prog 40 [] [.agg (eXAdjunction.b a0), iv a1, iv a2, iv a3] [] (.tup [iv r.1, iv r.2]) := by
  refine fnc_startG (N := 35) (np := 500) hT Try.func40 rfl rfl (by kernel_rfl) ?_
  unfold M.impl_TransposeBack at hM
  refine tr_start (ks := [0, 2, 4, 6]) (st' := [(0, .d (.agg (eXAdjunction.b a0))), (2, .d (iv a1)), (4, .d (iv a2)), (6, .d (iv a3))]) (by kernel_rfl) ?_
  refine tr_sr hT hm [] [2, 4, 6, 8, 2009] [(2, .d (iv a1)), (4, .d (iv a2)), (6, .d (iv a3)), (8, .d (.rp 1004 0)), bxB 2009 (eXAdjunction.b a0)] .nil (by kernel_rfl) (by kernel_rfl) ?_
  refine tr_seq ?_
  obtain ⟨v1, hv1, hM⟩ := bind_some' hM
  refine tr_sr hT hm [(2, .call [1004] [] [.pt (eXAdjunction.b a0) 0, iv a1, iv a2] [] (iv v1))] [2, 4, 6, 8, 20, 2009] [(2, .d (iv a1)), (4, .d (iv a2)), (6, .d (iv a3)), (8, .d (.rp 1004 0)), (20, .d (iv v1)), bxB 2009 (eXAdjunction.b a0)] (cc (B := [1004]) (ρ := []) (rB := [(1004, .arr 1 [iv a0.Left.Source.Objects, .sl a0.Left.Source.From.length 0 (a0.Left.Source.From.flatMap eI.b), .sl a0.Left.Source.To.length 0 (a0.Left.Source.To.flatMap eI.b), .sl a0.Left.Source.Identity.length 0 (a0.Left.Source.Identity.flatMap eI.b), .sl a0.Left.Source.Composites.length 0 (a0.Left.Source.Composites.flatMap (eS eI).b), iv a0.Left.Target.Objects, .sl a0.Left.Target.From.length 0 (a0.Left.Target.From.flatMap eI.b), .sl a0.Left.Target.To.length 0 (a0.Left.Target.To.flatMap eI.b), .sl a0.Left.Target.Identity.length 0 (a0.Left.Target.Identity.flatMap eI.b), .sl a0.Left.Target.Composites.length 0 (a0.Left.Target.Composites.flatMap (eS eI).b), .sl a0.Left.Objects.length 0 (a0.Left.Objects.flatMap eI.b), .sl a0.Left.Arrows.length 0 (a0.Left.Arrows.flatMap eI.b), iv a0.Right.Source.Objects, .sl a0.Right.Source.From.length 0 (a0.Right.Source.From.flatMap eI.b), .sl a0.Right.Source.To.length 0 (a0.Right.Source.To.flatMap eI.b), .sl a0.Right.Source.Identity.length 0 (a0.Right.Source.Identity.flatMap eI.b), .sl a0.Right.Source.Composites.length 0 (a0.Right.Source.Composites.flatMap (eS eI).b), iv a0.Right.Target.Objects, .sl a0.Right.Target.From.length 0 (a0.Right.Target.From.flatMap eI.b), .sl a0.Right.Target.To.length 0 (a0.Right.Target.To.flatMap eI.b), .sl a0.Right.Target.Identity.length 0 (a0.Right.Target.Identity.flatMap eI.b), .sl a0.Right.Target.Composites.length 0 (a0.Right.Target.Composites.flatMap (eS eI).b), .sl a0.Right.Objects.length 0 (a0.Right.Objects.flatMap eI.b), .sl a0.Right.Arrows.length 0 (a0.Right.Arrows.flatMap eI.b), .sl a0.Unit.length 0 (a0.Unit.flatMap eI.b), .sl a0.Counit.length 0 (a0.Counit.flatMap eI.b)] [])]) ok77 (impl_Adjunction_objectsCode_c a0 a1 a2 _ hv1) (.cons (.of1 (.rp (r := 1004) (sz := 1) (cells := [iv a0.Left.Source.Objects, .sl a0.Left.Source.From.length 0 (a0.Left.Source.From.flatMap eI.b), .sl a0.Left.Source.To.length 0 (a0.Left.Source.To.flatMap eI.b), .sl a0.Left.Source.Identity.length 0 (a0.Left.Source.Identity.flatMap eI.b), .sl a0.Left.Source.Composites.length 0 (a0.Left.Source.Composites.flatMap (eS eI).b), iv a0.Left.Target.Objects, .sl a0.Left.Target.From.length 0 (a0.Left.Target.From.flatMap eI.b), .sl a0.Left.Target.To.length 0 (a0.Left.Target.To.flatMap eI.b), .sl a0.Left.Target.Identity.length 0 (a0.Left.Target.Identity.flatMap eI.b), .sl a0.Left.Target.Composites.length 0 (a0.Left.Target.Composites.flatMap (eS eI).b), .sl a0.Left.Objects.length 0 (a0.Left.Objects.flatMap eI.b), .sl a0.Left.Arrows.length 0 (a0.Left.Arrows.flatMap eI.b), iv a0.Right.Source.Objects, .sl a0.Right.Source.From.length 0 (a0.Right.Source.From.flatMap eI.b), .sl a0.Right.Source.To.length 0 (a0.Right.Source.To.flatMap eI.b), .sl a0.Right.Source.Identity.length 0 (a0.Right.Source.Identity.flatMap eI.b), .sl a0.Right.Source.Composites.length 0 (a0.Right.Source.Composites.flatMap (eS eI).b), iv a0.Right.Target.Objects, .sl a0.Right.Target.From.length 0 (a0.Right.Target.From.flatMap eI.b), .sl a0.Right.Target.To.length 0 (a0.Right.Target.To.flatMap eI.b), .sl a0.Right.Target.Identity.length 0 (a0.Right.Target.Identity.flatMap eI.b), .sl a0.Right.Target.Composites.length 0 (a0.Right.Target.Composites.flatMap (eS eI).b), .sl a0.Right.Objects.length 0 (a0.Right.Objects.flatMap eI.b), .sl a0.Right.Arrows.length 0 (a0.Right.Arrows.flatMap eI.b), .sl a0.Unit.length 0 (a0.Unit.flatMap eI.b), .sl a0.Counit.length 0 (a0.Counit.flatMap eI.b)]) (refs := []) (memB (by kernel_rfl)) (by kernel_rfl) (.cons .v (.cons (.same rfl rfl) (.cons (.same rfl rfl) (.cons (.same rfl rfl) (.cons (.same rfl rfl) (.cons .v (.cons (.same rfl rfl) (.cons (.same rfl rfl) (.cons (.same rfl rfl) (.cons (.same rfl rfl) (.cons (.same rfl rfl) (.cons (.same rfl rfl) (.cons .v (.cons (.same rfl rfl) (.cons (.same rfl rfl) (.cons (.same rfl rfl) (.cons (.same rfl rfl) (.cons .v (.cons (.same rfl rfl) (.cons (.same rfl rfl) (.cons (.same rfl rfl) (.cons (.same rfl rfl) (.cons (.same rfl rfl) (.cons (.same rfl rfl) (.cons (.same rfl rfl) (.cons (.same rfl rfl) .nil)))))))))))))))))))))))))))) (.cons (.same rfl) (.cons (.same rfl) .nil))) (.inr ⟨.v, trivial⟩) .nil) (by kernel_rfl) (by kernel_rfl) ?_
  refine tr_sr hT hm [] [2, 4, 6, 8, 20, 30, 2009] [(2, .d (iv a1)), (4, .d (iv a2)), (6, .d (iv a3)), (8, .d (.rp 1004 0)), (20, .d (iv v1)), (30, .d (bv (v1 != 0))), bxB 2009 (eXAdjunction.b a0)] .nil (by kernel_rfl) (by kernel_rfl) ?_
  rcases Bool.eq_false_or_eq_true (v1 != 0) with h2 | h2
  · have hM := ite_true' hM h2
    refine tr_condTe (e := v1 != 0) h2 (by kernel_rfl) ?_
    refine tr_sr hT hm [] [16, 18] [(16, .d (iv 0)), (18, .d (iv v1))] .nil (by kernel_rfl) (by kernel_rfl) ?_
    refine tr_ret (q_r (rg_r ?_))
    obtain rfl := Option.some.inj hM
    exact retg (names := []) .nil (by kernel_rfl)
  · have hM := ite_false' hM h2
    refine tr_condFe (e := v1 != 0) h2 (by kernel_rfl) ?_
    refine tr_skip (q_n ?_)
    obtain ⟨y3, hy3, hM⟩ := bind_some' hM
    have hy3' := idx_some hy3
    obtain ⟨v4, hv4, hM⟩ := bind_some' hM
    refine tr_sr hT hm [(11, .val (iv y3)), (15, .call [1004] [] [.pt (eXAdjunction.b a0) 0, iv a1, iv a2, iv a3, .pt (eXCategory.b a0.Left.Source) 0, .agg [iv a1, iv y3], iv a2, .fc 81 [.pt (eXAdjunction.b a0) 0]] [] (.tup [iv v4.1, iv v4.2]))] [16, 18] [(16, .d (iv v4.1)), (18, .d (iv v4.2))] (.cons hy3'.1 (.cons hy3'.2.1 (.cons (at_b0 eI_ok hy3'.2.2 (d := iv y3) (by kernel_rfl)) (cc (B := [1004]) (ρ := []) (rB := [(1004, .arr 1 [iv a0.Left.Source.Objects, .sl a0.Left.Source.From.length 0 (a0.Left.Source.From.flatMap eI.b), .sl a0.Left.Source.To.length 0 (a0.Left.Source.To.flatMap eI.b), .sl a0.Left.Source.Identity.length 0 (a0.Left.Source.Identity.flatMap eI.b), .sl a0.Left.Source.Composites.length 0 (a0.Left.Source.Composites.flatMap (eS eI).b), iv a0.Left.Target.Objects, .sl a0.Left.Target.From.length 0 (a0.Left.Target.From.flatMap eI.b), .sl a0.Left.Target.To.length 0 (a0.Left.Target.To.flatMap eI.b), .sl a0.Left.Target.Identity.length 0 (a0.Left.Target.Identity.flatMap eI.b), .sl a0.Left.Target.Composites.length 0 (a0.Left.Target.Composites.flatMap (eS eI).b), .sl a0.Left.Objects.length 0 (a0.Left.Objects.flatMap eI.b), .sl a0.Left.Arrows.length 0 (a0.Left.Arrows.flatMap eI.b), iv a0.Right.Source.Objects, .sl a0.Right.Source.From.length 0 (a0.Right.Source.From.flatMap eI.b), .sl a0.Right.Source.To.length 0 (a0.Right.Source.To.flatMap eI.b), .sl a0.Right.Source.Identity.length 0 (a0.Right.Source.Identity.flatMap eI.b), .sl a0.Right.Source.Composites.length 0 (a0.Right.Source.Composites.flatMap (eS eI).b), iv a0.Right.Target.Objects, .sl a0.Right.Target.From.length 0 (a0.Right.Target.From.flatMap eI.b), .sl a0.Right.Target.To.length 0 (a0.Right.Target.To.flatMap eI.b), .sl a0.Right.Target.Identity.length 0 (a0.Right.Target.Identity.flatMap eI.b), .sl a0.Right.Target.Composites.length 0 (a0.Right.Target.Composites.flatMap (eS eI).b), .sl a0.Right.Objects.length 0 (a0.Right.Objects.flatMap eI.b), .sl a0.Right.Arrows.length 0 (a0.Right.Arrows.flatMap eI.b), .sl a0.Unit.length 0 (a0.Unit.flatMap eI.b), .sl a0.Counit.length 0 (a0.Counit.flatMap eI.b)] [])]) ok78 (impl_Adjunction_transposed_c a0 a1 a2 a3 a0.Left.Source (⟨a1, y3⟩ : Xends) a2 81 ([.pt (eXAdjunction.b a0) 0] : List D) (fun (x0 : Int) (x1 : Int) => M.impl_Adjunction_transposeBack a0 x0 x1) ok81 (by kernel_rfl) (fun x0 x1 r h => impl_Adjunction_transposeBack_c a0 x0 x1 r h) _ hv4) (.cons (.of1 (.rp (r := 1004) (sz := 1) (cells := [iv a0.Left.Source.Objects, .sl a0.Left.Source.From.length 0 (a0.Left.Source.From.flatMap eI.b), .sl a0.Left.Source.To.length 0 (a0.Left.Source.To.flatMap eI.b), .sl a0.Left.Source.Identity.length 0 (a0.Left.Source.Identity.flatMap eI.b), .sl a0.Left.Source.Composites.length 0 (a0.Left.Source.Composites.flatMap (eS eI).b), iv a0.Left.Target.Objects, .sl a0.Left.Target.From.length 0 (a0.Left.Target.From.flatMap eI.b), .sl a0.Left.Target.To.length 0 (a0.Left.Target.To.flatMap eI.b), .sl a0.Left.Target.Identity.length 0 (a0.Left.Target.Identity.flatMap eI.b), .sl a0.Left.Target.Composites.length 0 (a0.Left.Target.Composites.flatMap (eS eI).b), .sl a0.Left.Objects.length 0 (a0.Left.Objects.flatMap eI.b), .sl a0.Left.Arrows.length 0 (a0.Left.Arrows.flatMap eI.b), iv a0.Right.Source.Objects, .sl a0.Right.Source.From.length 0 (a0.Right.Source.From.flatMap eI.b), .sl a0.Right.Source.To.length 0 (a0.Right.Source.To.flatMap eI.b), .sl a0.Right.Source.Identity.length 0 (a0.Right.Source.Identity.flatMap eI.b), .sl a0.Right.Source.Composites.length 0 (a0.Right.Source.Composites.flatMap (eS eI).b), iv a0.Right.Target.Objects, .sl a0.Right.Target.From.length 0 (a0.Right.Target.From.flatMap eI.b), .sl a0.Right.Target.To.length 0 (a0.Right.Target.To.flatMap eI.b), .sl a0.Right.Target.Identity.length 0 (a0.Right.Target.Identity.flatMap eI.b), .sl a0.Right.Target.Composites.length 0 (a0.Right.Target.Composites.flatMap (eS eI).b), .sl a0.Right.Objects.length 0 (a0.Right.Objects.flatMap eI.b), .sl a0.Right.Arrows.length 0 (a0.Right.Arrows.flatMap eI.b), .sl a0.Unit.length 0 (a0.Unit.flatMap eI.b), .sl a0.Counit.length 0 (a0.Counit.flatMap eI.b)]) (refs := []) (memB (by kernel_rfl)) (by kernel_rfl) (.cons .v (.cons (.same rfl rfl) (.cons (.same rfl rfl) (.cons (.same rfl rfl) (.cons (.same rfl rfl) (.cons .v (.cons (.same rfl rfl) (.cons (.same rfl rfl) (.cons (.same rfl rfl) (.cons (.same rfl rfl) (.cons (.same rfl rfl) (.cons (.same rfl rfl) (.cons .v (.cons (.same rfl rfl) (.cons (.same rfl rfl) (.cons (.same rfl rfl) (.cons (.same rfl rfl) (.cons .v (.cons (.same rfl rfl) (.cons (.same rfl rfl) (.cons (.same rfl rfl) (.cons (.same rfl rfl) (.cons (.same rfl rfl) (.cons (.same rfl rfl) (.cons (.same rfl rfl) (.cons (.same rfl rfl) .nil)))))))))))))))))))))))))))) (.cons (.same rfl) (.cons (.same rfl) (.cons (.same rfl) (.cons (.rpSub (r := 1004) (off := 0) (n := 5) (sz := 1) (cells := [iv a0.Left.Source.Objects, .sl a0.Left.Source.From.length 0 (a0.Left.Source.From.flatMap eI.b), .sl a0.Left.Source.To.length 0 (a0.Left.Source.To.flatMap eI.b), .sl a0.Left.Source.Identity.length 0 (a0.Left.Source.Identity.flatMap eI.b), .sl a0.Left.Source.Composites.length 0 (a0.Left.Source.Composites.flatMap (eS eI).b), iv a0.Left.Target.Objects, .sl a0.Left.Target.From.length 0 (a0.Left.Target.From.flatMap eI.b), .sl a0.Left.Target.To.length 0 (a0.Left.Target.To.flatMap eI.b), .sl a0.Left.Target.Identity.length 0 (a0.Left.Target.Identity.flatMap eI.b), .sl a0.Left.Target.Composites.length 0 (a0.Left.Target.Composites.flatMap (eS eI).b), .sl a0.Left.Objects.length 0 (a0.Left.Objects.flatMap eI.b), .sl a0.Left.Arrows.length 0 (a0.Left.Arrows.flatMap eI.b), iv a0.Right.Source.Objects, .sl a0.Right.Source.From.length 0 (a0.Right.Source.From.flatMap eI.b), .sl a0.Right.Source.To.length 0 (a0.Right.Source.To.flatMap eI.b), .sl a0.Right.Source.Identity.length 0 (a0.Right.Source.Identity.flatMap eI.b), .sl a0.Right.Source.Composites.length 0 (a0.Right.Source.Composites.flatMap (eS eI).b), iv a0.Right.Target.Objects, .sl a0.Right.Target.From.length 0 (a0.Right.Target.From.flatMap eI.b), .sl a0.Right.Target.To.length 0 (a0.Right.Target.To.flatMap eI.b), .sl a0.Right.Target.Identity.length 0 (a0.Right.Target.Identity.flatMap eI.b), .sl a0.Right.Target.Composites.length 0 (a0.Right.Target.Composites.flatMap (eS eI).b), .sl a0.Right.Objects.length 0 (a0.Right.Objects.flatMap eI.b), .sl a0.Right.Arrows.length 0 (a0.Right.Arrows.flatMap eI.b), .sl a0.Unit.length 0 (a0.Unit.flatMap eI.b), .sl a0.Counit.length 0 (a0.Counit.flatMap eI.b)]) (refs := []) (ds' := eXCategory.b a0.Left.Source) (by kernel_rfl) (by kernel_rfl) (.cons .v (.cons (.same rfl rfl) (.cons (.same rfl rfl) (.cons (.same rfl rfl) (.cons (.same rfl rfl) (.cons .v (.cons (.same rfl rfl) (.cons (.same rfl rfl) (.cons (.same rfl rfl) (.cons (.same rfl rfl) (.cons (.same rfl rfl) (.cons (.same rfl rfl) (.cons .v (.cons (.same rfl rfl) (.cons (.same rfl rfl) (.cons (.same rfl rfl) (.cons (.same rfl rfl) (.cons .v (.cons (.same rfl rfl) (.cons (.same rfl rfl) (.cons (.same rfl rfl) (.cons (.same rfl rfl) (.cons (.same rfl rfl) (.cons (.same rfl rfl) (.cons (.same rfl rfl) (.cons (.same rfl rfl) .nil)))))))))))))))))))))))))) (Nat.le_of_ble_eq_true rfl) (by kernel_rfl) (by kernel_rfl)) (.cons (.same rfl) (.cons (.same rfl) (.cons (.fm (.cons (.rp (r := 1004) (sz := 1) (cells := [iv a0.Left.Source.Objects, .sl a0.Left.Source.From.length 0 (a0.Left.Source.From.flatMap eI.b), .sl a0.Left.Source.To.length 0 (a0.Left.Source.To.flatMap eI.b), .sl a0.Left.Source.Identity.length 0 (a0.Left.Source.Identity.flatMap eI.b), .sl a0.Left.Source.Composites.length 0 (a0.Left.Source.Composites.flatMap (eS eI).b), iv a0.Left.Target.Objects, .sl a0.Left.Target.From.length 0 (a0.Left.Target.From.flatMap eI.b), .sl a0.Left.Target.To.length 0 (a0.Left.Target.To.flatMap eI.b), .sl a0.Left.Target.Identity.length 0 (a0.Left.Target.Identity.flatMap eI.b), .sl a0.Left.Target.Composites.length 0 (a0.Left.Target.Composites.flatMap (eS eI).b), .sl a0.Left.Objects.length 0 (a0.Left.Objects.flatMap eI.b), .sl a0.Left.Arrows.length 0 (a0.Left.Arrows.flatMap eI.b), iv a0.Right.Source.Objects, .sl a0.Right.Source.From.length 0 (a0.Right.Source.From.flatMap eI.b), .sl a0.Right.Source.To.length 0 (a0.Right.Source.To.flatMap eI.b), .sl a0.Right.Source.Identity.length 0 (a0.Right.Source.Identity.flatMap eI.b), .sl a0.Right.Source.Composites.length 0 (a0.Right.Source.Composites.flatMap (eS eI).b), iv a0.Right.Target.Objects, .sl a0.Right.Target.From.length 0 (a0.Right.Target.From.flatMap eI.b), .sl a0.Right.Target.To.length 0 (a0.Right.Target.To.flatMap eI.b), .sl a0.Right.Target.Identity.length 0 (a0.Right.Target.Identity.flatMap eI.b), .sl a0.Right.Target.Composites.length 0 (a0.Right.Target.Composites.flatMap (eS eI).b), .sl a0.Right.Objects.length 0 (a0.Right.Objects.flatMap eI.b), .sl a0.Right.Arrows.length 0 (a0.Right.Arrows.flatMap eI.b), .sl a0.Unit.length 0 (a0.Unit.flatMap eI.b), .sl a0.Counit.length 0 (a0.Counit.flatMap eI.b)]) (refs := []) (memB (by kernel_rfl)) (by kernel_rfl) (.cons .v (.cons (.same rfl rfl) (.cons (.same rfl rfl) (.cons (.same rfl rfl) (.cons (.same rfl rfl) (.cons .v (.cons (.same rfl rfl) (.cons (.same rfl rfl) (.cons (.same rfl rfl) (.cons (.same rfl rfl) (.cons (.same rfl rfl) (.cons (.same rfl rfl) (.cons .v (.cons (.same rfl rfl) (.cons (.same rfl rfl) (.cons (.same rfl rfl) (.cons (.same rfl rfl) (.cons .v (.cons (.same rfl rfl) (.cons (.same rfl rfl) (.cons (.same rfl rfl) (.cons (.same rfl rfl) (.cons (.same rfl rfl) (.cons (.same rfl rfl) (.cons (.same rfl rfl) (.cons (.same rfl rfl) .nil))))))))))))))))))))))))))) .nil)) .nil)))))))) (.inr ⟨(nobor_tup (.cons .v (.cons .v .nil))), trivial⟩) .nil)))) (by kernel_rfl) (by kernel_rfl) ?_
    refine tr_ret (rg_r ?_)
    obtain rfl := Option.some.inj hM
    exact retg (names := []) .nil (by kernel_rfl)

theorem ok11 : CallOk Try.prog 11 := callOk_of Try.func11 (by kernel_rfl) (by kernel_rfl)
theorem laws_FnExactTransposeBack_c (a0 : XAdjunction) (a1 : Int) (a2 : Int) (a3 : Int) (r : Bool) (hM : M.laws_FnExactTransposeBack a0 a1 a2 a3 = some r) :
    FnC Try.prog 11 [] [.agg (eXAdjunction.b a0), iv a1, iv a2, iv a3] [] (bv r) := by
  refine fnc_startG (N := 52) (np := 500) hT Try.func11 rfl rfl (by kernel_rfl) ?_
  unfold M.laws_FnExactTransposeBack at hM
  refine tr_start (ks := [0, 2, 4, 6]) (st' := [(0, .d (.agg (eXAdjunction.b a0))), (2, .d (iv a1)), (4, .d (iv a2)), (6, .d (iv a3))]) (by kernel_rfl) ?_
  refine tr_sr hT hm [] [2, 4, 6, 8, 2009] [(2, .d (iv a1)), (4, .d (iv a2)), (6, .d (iv a3)), (8, .d (.rp 1004 0)), bxB 2009 (eXAdjunction.b a0)] .nil (by kernel_rfl) (by kernel_rfl) ?_
  refine tr_sr hT hm [] [2, 4, 6, 8, 18, 2009] [(2, .d (iv a1)), (4, .d (iv a2)), (6, .d (iv a3)), (8, .d (.rp 1004 0)), (18, .d (iv 1048576)), bxB 2009 (eXAdjunction.b a0)] .nil (by kernel_rfl) (by kernel_rfl) ?_
  obtain ⟨v1, hv1, hM⟩ := bind_some' hM
  refine tr_sr hT hm [(2, .call [] [] [.agg (eXAdjunction.b a0), iv 1048576] [] (iv v1))] [2, 4, 6, 8, 18, 2009] [(2, .d (iv a1)), (4, .d (iv a2)), (6, .d (iv a3)), (8, .d (.rp 1004 0)), (18, .d (iv v1)), bxB 2009 (eXAdjunction.b a0)] (cc0 ok20 (laws_szAdjunction_c a0 1048576 _ hv1) (by kernel_rfl) .nil) (by kernel_rfl) (by kernel_rfl) ?_
  refine tr_seq ?_
  refine tr_sr hT hm [] [2, 4, 6, 8, 38, 2009] [(2, .d (iv a1)), (4, .d (iv a2)), (6, .d (iv a3)), (8, .d (.rp 1004 0)), (38, .d (bv (decide (v1 < 0)))), bxB 2009 (eXAdjunction.b a0)] .nil (by kernel_rfl) (by kernel_rfl) ?_
  rcases Bool.eq_false_or_eq_true (decide (v1 < 0)) with h2 | h2
  · have hM := ite_true' hM h2
    refine tr_condTe (e := decide (v1 < 0)) h2 (by kernel_rfl) ?_
    refine tr_sr hT hm [] [16] [(16, .d (bv true))] .nil (by kernel_rfl) (by kernel_rfl) ?_
    refine tr_ret (q_r (rg_r ?_))
    obtain rfl := Option.some.inj hM
    exact retg (names := []) .nil (by kernel_rfl)
  · have hM := ite_false' hM h2
    refine tr_condFe (e := decide (v1 < 0)) h2 (by kernel_rfl) ?_
    refine tr_skip (q_n ?_)
    obtain ⟨v3, hv3, hM⟩ := bind_some' hM
    obtain ⟨v4, hv4, hM⟩ := bind_some' hM
    refine tr_sr hT hm [(1, .call [] [] [.agg (eXAdjunction.b a0)] [] (.agg (eXAdjunction.o v3))), (5, .call (rsR 24000 (eXAdjunction.o v3)) [] [.agg (eXAdjunction.b v3), iv a1, iv a2, iv a3] [] (.tup [iv v4.1, iv v4.2]))] [2, 4, 6, 8, 20, 22, 2009] [(2, .d (iv a1)), (4, .d (iv a2)), (6, .d (iv a3)), (8, .d (.rp 1004 0)), (20, .d (iv v4.1)), (22, .d (iv v4.2)), bxB 2009 (eXAdjunction.b a0)] (cc0 ok22 (laws_toAdjunction_c a0 _ hv3) (by kernel_rfl) (cc (B := (rsR 24000 (eXAdjunction.o v3))) (ρ := []) (rB := (rsP 24000 (eXAdjunction.o v3))) ok39 (spec_TransposeBack_c v3 a1 a2 a3 _ hv4) (.cons (bor_rs eXAdjunction_r (q := 24000) (x := v3) (by kernel_rfl) (by kernel_rfl)) (.cons (.same rfl) (.cons (.same rfl) (.cons (.same rfl) .nil)))) (.inr ⟨(nobor_tup (.cons .v (.cons .v .nil))), trivial⟩) .nil)) (by kernel_rfl) (by kernel_rfl) ?_
    refine tr_sr hT hm [(1, .call [] [] [.agg (eXAdjunction.b a0)] [] (.agg (eXAdjunction.o v3)))] [2, 4, 6, 8, 20, 22, 24, 2009, 2025, 64003, 64005, 64007, 64009, 64013, 64015, 64017, 64019, 64021, 64023, 64027, 64029, 64031, 64033, 64037, 64039, 64041, 64043, 64045, 64047, 64049, 64051] ([(2, .d (iv a1)), (4, .d (iv a2)), (6, .d (iv a3)), (8, .d (.rp 1004 0)), (20, .d (iv v4.1)), (22, .d (iv v4.2)), (24, .d (.rp 1012 0)), bxB 2009 (eXAdjunction.b a0), bxO 2025 32000 (eXAdjunction.o v3)] ++ rsS 32000 (eXAdjunction.o v3)) (cc0 ok22 (laws_toAdjunction_c a0 _ hv3) (by kernel_rfl) (.cons (Nat.le_of_ble_eq_true (n := 26) (m := 26) rfl) .nil)) (by kernel_rfl) (by kernel_rfl) ?_
    obtain ⟨v5, hv5, hM⟩ := bind_some' hM
    refine tr_sr hT hm [(4, .call (rsR 32000 (eXAdjunction.o v3)) [] [.agg (eXAdjunction.b v3), iv a1, iv a2, iv a3] [] (.tup [iv v5.1, iv v5.2]))] [8, 20, 22, 24, 26, 28, 2009, 2025, 64003, 64005, 64007, 64009, 64013, 64015, 64017, 64019, 64021, 64023, 64027, 64029, 64031, 64033, 64037, 64039, 64041, 64043, 64045, 64047, 64049, 64051] ([(8, .d (.rp 1004 0)), (20, .d (iv v4.1)), (22, .d (iv v4.2)), (24, .d (.rp 1012 0)), (26, .d (iv v5.1)), (28, .d (iv v5.2)), bxB 2009 (eXAdjunction.b a0), bxO 2025 32000 (eXAdjunction.o v3)] ++ rsS 32000 (eXAdjunction.o v3)) (cc (B := (rsR 32000 (eXAdjunction.o v3))) (ρ := []) (rB := (rsP 32000 (eXAdjunction.o v3))) ok40 (impl_TransposeBack_c v3 a1 a2 a3 _ hv5) (.cons (bor_rs eXAdjunction_r (q := 32000) (x := v3) (by kernel_rfl) (by kernel_rfl)) (.cons (.same rfl) (.cons (.same rfl) (.cons (.same rfl) .nil)))) (.inr ⟨(nobor_tup (.cons .v (.cons .v .nil))), trivial⟩) .nil) (by kernel_rfl) (by kernel_rfl) ?_
    refine tr_seq ?_
    rcases Bool.eq_false_or_eq_true (v5.1 != v4.1) with h6 | h6
    · have hM := ite_true' hM h6
      refine tr_sr hT hm [(3, .val (bv true))] [8, 24, 92, 2009, 2025, 64003, 64005, 64007, 64009, 64013, 64015, 64017, 64019, 64021, 64023, 64027, 64029, 64031, 64033, 64037, 64039, 64041, 64043, 64045, 64047, 64049, 64051] ([(8, .d (.rp 1004 0)), (24, .d (.rp 1012 0)), (92, .d (bv true)), bxB 2009 (eXAdjunction.b a0), bxO 2025 32000 (eXAdjunction.o v3)] ++ rsS 32000 (eXAdjunction.o v3)) (.cons (congrArg (fun b => bv b) h6) .nil) (by kernel_rfl) (by kernel_rfl) ?_
      refine tr_condT (by kernel_rfl) ?_
      refine tr_sr hT hm [] [16] [(16, .d (bv false))] .nil (by kernel_rfl) (by kernel_rfl) ?_
      refine tr_ret (q_r (rg_r ?_))
      obtain rfl := Option.some.inj hM
      exact retg (names := []) .nil (by kernel_rfl)
    · have hM := ite_false' hM h6
      refine tr_sr hT hm [(3, .val (bv false))] [8, 24, 92, 2009, 2025, 64003, 64005, 64007, 64009, 64013, 64015, 64017, 64019, 64021, 64023, 64027, 64029, 64031, 64033, 64037, 64039, 64041, 64043, 64045, 64047, 64049, 64051] ([(8, .d (.rp 1004 0)), (24, .d (.rp 1012 0)), (92, .d (bv (v5.2 != v4.2))), bxB 2009 (eXAdjunction.b a0), bxO 2025 32000 (eXAdjunction.o v3)] ++ rsS 32000 (eXAdjunction.o v3)) (.cons (congrArg (fun b => bv b) h6) .nil) (by kernel_rfl) (by kernel_rfl) ?_
      rcases Bool.eq_false_or_eq_true (v5.2 != v4.2) with h7 | h7
      · have hM := ite_true' hM h7
        refine tr_condTe (e := v5.2 != v4.2) h7 (by kernel_rfl) ?_
        refine tr_sr hT hm [] [16] [(16, .d (bv false))] .nil (by kernel_rfl) (by kernel_rfl) ?_
        refine tr_ret (q_r (rg_r ?_))
        obtain rfl := Option.some.inj hM
        exact retg (names := []) .nil (by kernel_rfl)
      · have hM := ite_false' hM h7
        refine tr_condFe (e := v5.2 != v4.2) h7 (by kernel_rfl) ?_
        refine tr_skip (q_n ?_)
        refine tr_seq ?_
        obtain ⟨v8, hv8, hM⟩ := bind_some' hM
        refine tr_sr hT hm [(2, .call [] [] [.agg (eXAdjunction.b a0)] [] (.agg (eXAdjunction.o v3))), (3, .call (rsR 32000 (eXAdjunction.o v3) ++ rsR 51000 (eXAdjunction.o v3)) [] [.agg (eXAdjunction.b v3), .agg (eXAdjunction.b v3)] [] (bv v8))] [102] [(102, .d (bv (!v8)))] (cc0 ok22 (laws_toAdjunction_c a0 _ hv3) (by kernel_rfl) (cc (B := (rsR 32000 (eXAdjunction.o v3) ++ rsR 51000 (eXAdjunction.o v3))) (ρ := []) (rB := (rsP 32000 (eXAdjunction.o v3) ++ rsP 51000 (eXAdjunction.o v3))) ok24 (laws_eqAdjunction_c v3 v3 _ hv8) (.cons (bor_rs eXAdjunction_r (q := 32000) (x := v3) (by kernel_rfl) (by kernel_rfl)) (.cons (bor_rs eXAdjunction_r (q := 51000) (x := v3) (by kernel_rfl) (by kernel_rfl)) .nil)) (.inr ⟨.v, trivial⟩) .nil)) (by kernel_rfl) (by kernel_rfl) ?_
        rcases Bool.eq_false_or_eq_true v8 with h9 | h9
        · have hM := ite_true' hM h9
          refine tr_condFe (e := !v8) (congrArg not h9) (by kernel_rfl) ?_
          refine tr_skip (q_n ?_)
          refine tr_sr hT hm [] [16] [(16, .d (bv true))] .nil (by kernel_rfl) (by kernel_rfl) ?_
          refine tr_ret (rg_r ?_)
          obtain rfl := Option.some.inj hM
          exact retg (names := []) .nil (by kernel_rfl)
        · have hM := ite_false' hM h9
          refine tr_condTe (e := !v8) (congrArg not h9) (by kernel_rfl) ?_
          refine tr_sr hT hm [] [16] [(16, .d (bv false))] .nil (by kernel_rfl) (by kernel_rfl) ?_
          refine tr_ret (q_r (rg_r ?_))
          obtain rfl := Option.some.inj hM
          exact retg (names := []) .nil (by kernel_rfl)

end Go.Proofs.Ytpfdieaiogfihaa.Ww45
