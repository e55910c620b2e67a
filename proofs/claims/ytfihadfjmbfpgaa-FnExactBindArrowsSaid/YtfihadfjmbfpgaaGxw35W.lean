/- Walks. Printed by wip/gen. -/
import Derived.Test.YtfihadfjmbfpgaaGxEM0
import Derived.Test.YtfihadfjmbfpgaaGxEO0
import Derived.Test.YtfihadfjmbfpgaaGxwMW
import Derived.Test.YtfihadfjmbfpgaaGxwOW
import Derived.KernelRfl
namespace Go.Proofs.Ytfihadfjmbfpgaa.Ww35
open Go.Gx Go.Proofs.Ytfihadfjmbfpgaa.WvB Go.Proofs.Ytfihadfjmbfpgaa.WwN Go.Proofs.Ytfihadfjmbfpgaa.WvS Go.Proofs.Ytfihadfjmbfpgaa.WvF Go.Proofs.Ytfihadfjmbfpgaa.WwT Go.Proofs.Ytfihadfjmbfpgaa.WwU Go.Proofs.Ytfihadfjmbfpgaa.WvH Go.Proofs.Ytfihadfjmbfpgaa.WvI Go.Proofs.Ytfihadfjmbfpgaa.WwM Go.Proofs.Ytfihadfjmbfpgaa.WwO

theorem eXCategory_r : EncR eXCategory := (eA_r (eC_r eI_r _) (eA_r (eC_r (eS_r eI_ok) _) (eA_r (eC_r (eS_r eI_ok) _) (eA_r (eC_r (eS_r eI_ok) _) (eC_r (eS_r (eS_ok eI_ok)) _)))))
theorem eXFunctor_r : EncR eXFunctor := (eA_r (eC_r eXCategory_r _) (eA_r (eC_r eXCategory_r _) (eA_r (eC_r (eS_r eI_ok) _) (eC_r (eS_r eI_ok) _))))
theorem eXMonad_r : EncR eXMonad := (eA_r (eC_r eXFunctor_r _) (eA_r (eC_r (eS_r eI_ok) _) (eC_r (eS_r eI_ok) _)))
def T : Tab := [(2, ⟨.int .i64, 1, 8, [.int .i64 0]⟩),
  (3, ⟨.int .i64, 1, 8, [.int .i64 0]⟩),
  (22, ⟨.slice 2, 1, 24, [.slice .none 0 0]⟩),
  (23, ⟨.slice 22, 1, 24, [.slice .none 0 0]⟩),
  (25, ⟨.struct #[⟨"Objects", 2, 0, false, "", "", 0⟩, ⟨"From", 22, 1, false, "", "", 8⟩, ⟨"To", 22, 2, false, "", "", 32⟩, ⟨"Identity", 22, 3, false, "", "", 56⟩, ⟨"Composites", 23, 4, false, "", "", 80⟩], 5, 104, [.int .i64 0, .slice .none 0 0, .slice .none 0 0, .slice .none 0 0, .slice .none 0 0]⟩),
  (27, ⟨.struct #[⟨"Source", 25, 0, false, "", "", 0⟩, ⟨"Target", 25, 5, false, "", "", 104⟩, ⟨"Objects", 22, 10, false, "", "", 208⟩, ⟨"Arrows", 22, 11, false, "", "", 232⟩], 12, 256, [.int .i64 0, .slice .none 0 0, .slice .none 0 0, .slice .none 0 0, .slice .none 0 0, .int .i64 0, .slice .none 0 0, .slice .none 0 0, .slice .none 0 0, .slice .none 0 0, .slice .none 0 0, .slice .none 0 0]⟩),
  (29, ⟨.struct #[⟨"On", 27, 0, false, "", "", 0⟩, ⟨"Unit", 22, 12, false, "", "", 256⟩, ⟨"Join", 22, 13, false, "", "", 280⟩], 14, 304, [.int .i64 0, .slice .none 0 0, .slice .none 0 0, .slice .none 0 0, .slice .none 0 0, .int .i64 0, .slice .none 0 0, .slice .none 0 0, .slice .none 0 0, .slice .none 0 0, .slice .none 0 0, .slice .none 0 0, .slice .none 0 0, .slice .none 0 0]⟩),
  (33, ⟨.struct #[⟨"Objects", 2, 0, false, "", "", 0⟩, ⟨"From", 22, 1, false, "", "", 8⟩, ⟨"To", 22, 2, false, "", "", 32⟩, ⟨"Identity", 22, 3, false, "", "", 56⟩, ⟨"Composites", 23, 4, false, "", "", 80⟩], 5, 104, [.int .i64 0, .slice .none 0 0, .slice .none 0 0, .slice .none 0 0, .slice .none 0 0]⟩),
  (35, ⟨.struct #[⟨"Source", 33, 0, false, "", "", 0⟩, ⟨"Target", 33, 5, false, "", "", 104⟩, ⟨"Objects", 22, 10, false, "", "", 208⟩, ⟨"Arrows", 22, 11, false, "", "", 232⟩], 12, 256, [.int .i64 0, .slice .none 0 0, .slice .none 0 0, .slice .none 0 0, .slice .none 0 0, .int .i64 0, .slice .none 0 0, .slice .none 0 0, .slice .none 0 0, .slice .none 0 0, .slice .none 0 0, .slice .none 0 0]⟩),
  (37, ⟨.struct #[⟨"On", 35, 0, false, "", "", 0⟩, ⟨"Unit", 22, 12, false, "", "", 256⟩, ⟨"Join", 22, 13, false, "", "", 280⟩], 14, 304, [.int .i64 0, .slice .none 0 0, .slice .none 0 0, .slice .none 0 0, .slice .none 0 0, .int .i64 0, .slice .none 0 0, .slice .none 0 0, .slice .none 0 0, .slice .none 0 0, .slice .none 0 0, .slice .none 0 0, .slice .none 0 0, .slice .none 0 0]⟩),
  (56, ⟨.pointer 33, 1, 8, [.pointer .none]⟩),
  (61, ⟨.struct #[⟨"from", 2, 0, false, "", "loop.example/g01083/impl", 0⟩, ⟨"to", 2, 1, false, "", "loop.example/g01083/impl", 8⟩], 2, 16, [.int .i64 0, .int .i64 0]⟩),
  (63, ⟨.pointer 37, 1, 8, [.pointer .none]⟩),
  (64, ⟨.func #[2, 2, 2] #[2] false, 1, 8, [.nilFunc]⟩),
  (66, ⟨.struct #[⟨"Monad", 63, 0, true, "", "", 0⟩, ⟨"c", 56, 1, false, "", "loop.example/g01083/impl", 8⟩, ⟨"bind", 64, 2, false, "", "loop.example/g01083/impl", 16⟩], 3, 24, [.pointer .none, .pointer .none, .nilFunc]⟩)]
theorem hT : TabOk Try.prog T := ⟨tiok (by kernel_rfl) (by kernel_rfl), tiok (by kernel_rfl) (by kernel_rfl), tiok (by kernel_rfl) (by kernel_rfl), tiok (by kernel_rfl) (by kernel_rfl), tiok (by kernel_rfl) (by kernel_rfl), tiok (by kernel_rfl) (by kernel_rfl), tiok (by kernel_rfl) (by kernel_rfl), tiok (by kernel_rfl) (by kernel_rfl), tiok (by kernel_rfl) (by kernel_rfl), tiok (by kernel_rfl) (by kernel_rfl), tiok (by kernel_rfl) (by kernel_rfl), tiok (by kernel_rfl) (by kernel_rfl), tiok (by kernel_rfl) (by kernel_rfl), tiok (by kernel_rfl) (by kernel_rfl), tiok (by kernel_rfl) (by kernel_rfl), trivial⟩
theorem hm : Try.prog.follows .mixedOrders = true := by kernel_rfl

theorem ok22 : CallOk Try.prog 22 := callOk_of Try.func22 (by kernel_rfl) (by kernel_rfl)
theorem spec_l16Bind_c (a0 : XMonad) (a1 : Int) (a2 : Int) (a3 : Int) (r : Int) (hM : M.spec_l16Bind a0 a1 a2 a3 = some r) :
    FnC Try.prog 22 [] [.agg (eXMonad.b a0), iv a1, iv a2, iv a3] [] (iv r) := by
  refine fnc_startG (N := 29) (np := 500) hT Try.func22 rfl rfl (by kernel_rfl) ?_
  unfold M.spec_l16Bind at hM
  refine tr_start (ks := [0, 2, 4, 6]) (st' := [(0, .d (.agg (eXMonad.b a0))), (2, .d (iv a1)), (4, .d (iv a2)), (6, .d (iv a3))]) (by kernel_rfl) ?_
  refine tr_sr hT hm [] [2, 4, 6, 8, 2009] [(2, .d (iv a1)), (4, .d (iv a2)), (6, .d (iv a3)), (8, .d (.rp 1004 0)), bxB 2009 (eXMonad.b a0)] .nil (by kernel_rfl) (by kernel_rfl) ?_
  refine tr_sr hT hm [] [2, 4, 6, 8, 18, 2009, 2019] [(2, .d (iv a1)), (4, .d (iv a2)), (6, .d (iv a3)), (8, .d (.rp 1004 0)), (18, .d (.rp 1009 0)), bxB 2009 (eXMonad.b a0), bxB 2019 (eXCategory.b a0.On.Source)] (.cons (Nat.le_of_ble_eq_true (n := 5) (m := 5) rfl) .nil) (by kernel_rfl) (by kernel_rfl) ?_
  obtain ⟨y1, hy1, hM⟩ := bind_some' hM
  have hy1' := idx_some hy1
  obtain ⟨v2, hv2, hM⟩ := bind_some' hM
  obtain ⟨y3, hy3, hM⟩ := bind_some' hM
  have hy3' := idx_some hy3
  obtain ⟨v4, hv4, hM⟩ := bind_some' hM
  refine tr_sr hT hm [(8, .val (iv y1)), (9, .call [] [] [.agg (eXCategory.b a0.On.Source), iv a2, iv y1] [] (iv v2)), (14, .val (iv y3)), (15, .call [] [] [.agg (eXCategory.b a0.On.Source), iv v2, iv y3] [] (iv v4))] [16] [(16, .d (iv v4))] (.cons hy1'.1 (.cons hy1'.2.1 (.cons (at_b0 eI_ok hy1'.2.2 (d := iv y1) (by kernel_rfl)) (cc0 ok51 (spec_l02Then_c a0.On.Source a2 y1 _ hv2) (by kernel_rfl) (.cons hy3'.1 (.cons hy3'.2.1 (.cons (at_b0 eI_ok hy3'.2.2 (d := iv y3) (by kernel_rfl)) (cc0 ok51 (spec_l02Then_c a0.On.Source v2 y3 _ hv4) (by kernel_rfl) .nil)))))))) (by kernel_rfl) (by kernel_rfl) ?_
  refine tr_ret (rg_r ?_)
  obtain rfl := Option.some.inj hM
  exact retg (names := []) .nil (by kernel_rfl)

theorem ok6 : CallOk Try.prog 6 := callOk_of Try.func6 (by kernel_rfl) (by kernel_rfl)
theorem spec_BindArrows_c (a0 : XMonad) (a1 : Int) (a2 : Int) (a3 : Int) (a4 : Int) (r : Int × Int) (hM : M.spec_BindArrows a0 a1 a2 a3 a4 = some r) :
    FnC Try.prog 6 [] [.agg (eXMonad.b a0), iv a1, iv a2, iv a3, iv a4] [] (.tup [iv r.1, iv r.2]) := by
  refine fnc_startG (N := 81) (np := 500) hT Try.func6 rfl rfl (by kernel_rfl) ?_
  unfold M.spec_BindArrows at hM
  refine tr_start (ks := [0, 2, 4, 6, 8]) (st' := [(0, .d (.agg (eXMonad.b a0))), (2, .d (iv a1)), (4, .d (iv a2)), (6, .d (iv a3)), (8, .d (iv a4))]) (by kernel_rfl) ?_
  refine tr_sr hT hm [] [2, 4, 6, 8, 10, 2011] [(2, .d (iv a1)), (4, .d (iv a2)), (6, .d (iv a3)), (8, .d (iv a4)), (10, .d (.rp 1005 0)), bxB 2011 (eXMonad.b a0)] .nil (by kernel_rfl) (by kernel_rfl) ?_
  refine tr_seq ?_
  obtain ⟨v1, hv1, hM⟩ := bind_some' hM
  refine tr_sr hT hm [(1, .call [] [] [.agg (eXMonad.b a0)] [] (bv v1))] [2, 4, 6, 8, 10, 30, 2011] [(2, .d (iv a1)), (4, .d (iv a2)), (6, .d (iv a3)), (8, .d (iv a4)), (10, .d (.rp 1005 0)), (30, .d (bv (!v1))), bxB 2011 (eXMonad.b a0)] (cc0 ok19 (spec_l16Is_c a0 _ hv1) (by kernel_rfl) .nil) (by kernel_rfl) (by kernel_rfl) ?_
  rcases Bool.eq_false_or_eq_true v1 with h2 | h2
  · have hM := ite_true' hM h2
    refine tr_condFe (e := !v1) (congrArg not h2) (by kernel_rfl) ?_
    refine tr_skip (q_n ?_)
    refine tr_sr hT hm [] [2, 4, 6, 8, 10, 24, 2011, 2025] [(2, .d (iv a1)), (4, .d (iv a2)), (6, .d (iv a3)), (8, .d (iv a4)), (10, .d (.rp 1005 0)), (24, .d (.rp 1012 0)), bxB 2011 (eXMonad.b a0), bxB 2025 (eXCategory.b a0.On.Source)] (.cons (Nat.le_of_ble_eq_true (n := 5) (m := 5) rfl) .nil) (by kernel_rfl) (by kernel_rfl) ?_
    refine tr_seq ?_
    obtain ⟨v3, hv3, hM⟩ := bind_some' hM
    rcases Bool.eq_false_or_eq_true v3 with h4 | h4
    · have hM := ite_true' hM h4
      obtain ⟨v5, hv5, hM⟩ := bind_some' hM
      rcases Bool.eq_false_or_eq_true v5 with h6 | h6
      · have hM := ite_true' hM h6
        obtain ⟨v7, hv7, hM⟩ := bind_some' hM
        rcases Bool.eq_false_or_eq_true v7 with h8 | h8
        · have hM := ite_true' hM h8
          obtain ⟨v9, hv9, hM⟩ := bind_some' hM
          refine tr_sr hT hm [(2, .call [] [] [.agg (eXCategory.b a0.On.Source), iv a1] [] (bv v3)), (4, .val (bv false)), (7, .call [] [] [.agg (eXCategory.b a0.On.Source), iv a2] [] (bv v5)), (10, .val (bv false)), (13, .call [] [] [.agg (eXCategory.b a0.On.Source), iv a3] [] (bv v7)), (16, .val (bv false)), (19, .call [] [] [.agg (eXCategory.b a0.On.Source), iv a4] [] (bv v9))] [2, 4, 6, 8, 10, 24, 80, 2011, 2025] [(2, .d (iv a1)), (4, .d (iv a2)), (6, .d (iv a3)), (8, .d (iv a4)), (10, .d (.rp 1005 0)), (24, .d (.rp 1012 0)), (80, .d (bv (!v9))), bxB 2011 (eXMonad.b a0), bxB 2025 (eXCategory.b a0.On.Source)] (cc0 ok20 (spec_l02Object_c a0.On.Source a1 _ hv3) (by kernel_rfl) (.cons (congrArg (fun b => bv b) (congrArg not h4)) (cc0 ok20 (spec_l02Object_c a0.On.Source a2 _ hv5) (by kernel_rfl) (.cons (congrArg (fun b => bv b) (congrArg not h6)) (cc0 ok21 (spec_l02Arrow_c a0.On.Source a3 _ hv7) (by kernel_rfl) (.cons (congrArg (fun b => bv b) (congrArg not h8)) (cc0 ok21 (spec_l02Arrow_c a0.On.Source a4 _ hv9) (by kernel_rfl) .nil))))))) (by kernel_rfl) (by kernel_rfl) ?_
          rcases Bool.eq_false_or_eq_true v9 with h10 | h10
          · have hM := ite_true' hM h10
            refine tr_condFe (e := !v9) (congrArg not h10) (by kernel_rfl) ?_
            refine tr_skip (q_n ?_)
            refine tr_seq ?_
            obtain ⟨y11, hy11, hM⟩ := bind_some' hM
            have hy11' := idx_some hy11
            obtain ⟨y12, hy12, hM⟩ := bind_some' hM
            have hy12' := idx_some hy12
            rcases Bool.eq_false_or_eq_true (y11 != y12) with h13 | h13
            · have hM := ite_true' hM h13
              refine tr_sr hT hm [(4, .val (iv y11)), (10, .val (iv y12)), (12, .val (bv true))] [4, 6, 8, 10, 150, 2011] [(4, .d (iv a2)), (6, .d (iv a3)), (8, .d (iv a4)), (10, .d (.rp 1005 0)), (150, .d (bv true)), bxB 2011 (eXMonad.b a0)] (.cons hy11'.1 (.cons hy11'.2.1 (.cons (at_b0 eI_ok hy11'.2.2 (d := iv y11) (by kernel_rfl)) (.cons hy12'.1 (.cons hy12'.2.1 (.cons (at_b0 eI_ok hy12'.2.2 (d := iv y12) (by kernel_rfl)) (.cons (congrArg (fun b => bv b) h13) .nil))))))) (by kernel_rfl) (by kernel_rfl) ?_
              refine tr_condT (by kernel_rfl) ?_
              refine tr_sr hT hm [] [20, 22] [(20, .d (iv 0)), (22, .d (iv 5))] .nil (by kernel_rfl) (by kernel_rfl) ?_
              refine tr_ret (q_r (rg_r ?_))
              obtain rfl := Option.some.inj hM
              exact retg (names := []) .nil (by kernel_rfl)
            · have hM := ite_false' hM h13
              obtain ⟨y14, hy14, hM⟩ := bind_some' hM
              have hy14' := idx_some hy14
              rcases Bool.eq_false_or_eq_true (y14 != a1) with h15 | h15
              · have hM := ite_true' hM h15
                refine tr_sr hT hm [(4, .val (iv y11)), (10, .val (iv y12)), (12, .val (bv false)), (17, .val (iv y14)), (21, .val (bv true))] [4, 6, 8, 10, 150, 2011] [(4, .d (iv a2)), (6, .d (iv a3)), (8, .d (iv a4)), (10, .d (.rp 1005 0)), (150, .d (bv true)), bxB 2011 (eXMonad.b a0)] (.cons hy11'.1 (.cons hy11'.2.1 (.cons (at_b0 eI_ok hy11'.2.2 (d := iv y11) (by kernel_rfl)) (.cons hy12'.1 (.cons hy12'.2.1 (.cons (at_b0 eI_ok hy12'.2.2 (d := iv y12) (by kernel_rfl)) (.cons (congrArg (fun b => bv b) h13) (.cons hy14'.1 (.cons hy14'.2.1 (.cons (at_b0 eI_ok hy14'.2.2 (d := iv y14) (by kernel_rfl)) (.cons (congrArg (fun b => bv b) h15) .nil))))))))))) (by kernel_rfl) (by kernel_rfl) ?_
                refine tr_condT (by kernel_rfl) ?_
                refine tr_sr hT hm [] [20, 22] [(20, .d (iv 0)), (22, .d (iv 5))] .nil (by kernel_rfl) (by kernel_rfl) ?_
                refine tr_ret (q_r (rg_r ?_))
                obtain rfl := Option.some.inj hM
                exact retg (names := []) .nil (by kernel_rfl)
              · have hM := ite_false' hM h15
                obtain ⟨y16, hy16, hM⟩ := bind_some' hM
                have hy16' := idx_some hy16
                obtain ⟨y17, hy17, hM⟩ := bind_some' hM
                have hy17' := idx_some hy17
                refine tr_sr hT hm [(4, .val (iv y11)), (10, .val (iv y12)), (12, .val (bv false)), (17, .val (iv y14)), (21, .val (bv false)), (26, .val (iv y16)), (32, .val (iv y17))] [4, 6, 8, 10, 150, 2011] [(4, .d (iv a2)), (6, .d (iv a3)), (8, .d (iv a4)), (10, .d (.rp 1005 0)), (150, .d (bv (y16 != y17))), bxB 2011 (eXMonad.b a0)] (.cons hy11'.1 (.cons hy11'.2.1 (.cons (at_b0 eI_ok hy11'.2.2 (d := iv y11) (by kernel_rfl)) (.cons hy12'.1 (.cons hy12'.2.1 (.cons (at_b0 eI_ok hy12'.2.2 (d := iv y12) (by kernel_rfl)) (.cons (congrArg (fun b => bv b) h13) (.cons hy14'.1 (.cons hy14'.2.1 (.cons (at_b0 eI_ok hy14'.2.2 (d := iv y14) (by kernel_rfl)) (.cons (congrArg (fun b => bv b) h15) (.cons hy16'.1 (.cons hy16'.2.1 (.cons (at_b0 eI_ok hy16'.2.2 (d := iv y16) (by kernel_rfl)) (.cons hy17'.1 (.cons hy17'.2.1 (.cons (at_b0 eI_ok hy17'.2.2 (d := iv y17) (by kernel_rfl)) .nil))))))))))))))))) (by kernel_rfl) (by kernel_rfl) ?_
                rcases Bool.eq_false_or_eq_true (y16 != y17) with h18 | h18
                · have hM := ite_true' hM h18
                  refine tr_condTe (e := y16 != y17) h18 (by kernel_rfl) ?_
                  refine tr_sr hT hm [] [20, 22] [(20, .d (iv 0)), (22, .d (iv 5))] .nil (by kernel_rfl) (by kernel_rfl) ?_
                  refine tr_ret (q_r (rg_r ?_))
                  obtain rfl := Option.some.inj hM
                  exact retg (names := []) .nil (by kernel_rfl)
                · have hM := ite_false' hM h18
                  refine tr_condFe (e := y16 != y17) h18 (by kernel_rfl) ?_
                  refine tr_skip (q_n ?_)
                  obtain ⟨v19, hv19, hM⟩ := bind_some' hM
                  refine tr_sr hT hm [(4, .call [] [] [.agg (eXMonad.b a0), iv a2, iv a3, iv a4] [] (iv v19))] [20, 22] [(20, .d (iv v19)), (22, .d (iv 0))] (cc0 ok22 (spec_l16Bind_c a0 a2 a3 a4 _ hv19) (by kernel_rfl) .nil) (by kernel_rfl) (by kernel_rfl) ?_
                  refine tr_ret (rg_r ?_)
                  obtain rfl := Option.some.inj hM
                  exact retg (names := []) .nil (by kernel_rfl)
          · have hM := ite_false' hM h10
            refine tr_condTe (e := !v9) (congrArg not h10) (by kernel_rfl) ?_
            refine tr_sr hT hm [] [20, 22] [(20, .d (iv 0)), (22, .d (iv 2))] .nil (by kernel_rfl) (by kernel_rfl) ?_
            refine tr_ret (q_r (rg_r ?_))
            obtain rfl := Option.some.inj hM
            exact retg (names := []) .nil (by kernel_rfl)
        · have hM := ite_false' hM h8
          refine tr_sr hT hm [(2, .call [] [] [.agg (eXCategory.b a0.On.Source), iv a1] [] (bv v3)), (4, .val (bv false)), (7, .call [] [] [.agg (eXCategory.b a0.On.Source), iv a2] [] (bv v5)), (10, .val (bv false)), (13, .call [] [] [.agg (eXCategory.b a0.On.Source), iv a3] [] (bv v7)), (16, .val (bv true))] [2, 4, 6, 8, 10, 24, 80, 2011, 2025] [(2, .d (iv a1)), (4, .d (iv a2)), (6, .d (iv a3)), (8, .d (iv a4)), (10, .d (.rp 1005 0)), (24, .d (.rp 1012 0)), (80, .d (bv true)), bxB 2011 (eXMonad.b a0), bxB 2025 (eXCategory.b a0.On.Source)] (cc0 ok20 (spec_l02Object_c a0.On.Source a1 _ hv3) (by kernel_rfl) (.cons (congrArg (fun b => bv b) (congrArg not h4)) (cc0 ok20 (spec_l02Object_c a0.On.Source a2 _ hv5) (by kernel_rfl) (.cons (congrArg (fun b => bv b) (congrArg not h6)) (cc0 ok21 (spec_l02Arrow_c a0.On.Source a3 _ hv7) (by kernel_rfl) (.cons (congrArg (fun b => bv b) (congrArg not h8)) .nil)))))) (by kernel_rfl) (by kernel_rfl) ?_
          refine tr_condT (by kernel_rfl) ?_
          refine tr_sr hT hm [] [20, 22] [(20, .d (iv 0)), (22, .d (iv 2))] .nil (by kernel_rfl) (by kernel_rfl) ?_
          refine tr_ret (q_r (rg_r ?_))
          obtain rfl := Option.some.inj hM
          exact retg (names := []) .nil (by kernel_rfl)
      · have hM := ite_false' hM h6
        refine tr_sr hT hm [(2, .call [] [] [.agg (eXCategory.b a0.On.Source), iv a1] [] (bv v3)), (4, .val (bv false)), (7, .call [] [] [.agg (eXCategory.b a0.On.Source), iv a2] [] (bv v5)), (10, .val (bv true))] [2, 4, 6, 8, 10, 24, 80, 2011, 2025] [(2, .d (iv a1)), (4, .d (iv a2)), (6, .d (iv a3)), (8, .d (iv a4)), (10, .d (.rp 1005 0)), (24, .d (.rp 1012 0)), (80, .d (bv true)), bxB 2011 (eXMonad.b a0), bxB 2025 (eXCategory.b a0.On.Source)] (cc0 ok20 (spec_l02Object_c a0.On.Source a1 _ hv3) (by kernel_rfl) (.cons (congrArg (fun b => bv b) (congrArg not h4)) (cc0 ok20 (spec_l02Object_c a0.On.Source a2 _ hv5) (by kernel_rfl) (.cons (congrArg (fun b => bv b) (congrArg not h6)) .nil)))) (by kernel_rfl) (by kernel_rfl) ?_
        refine tr_condT (by kernel_rfl) ?_
        refine tr_sr hT hm [] [20, 22] [(20, .d (iv 0)), (22, .d (iv 2))] .nil (by kernel_rfl) (by kernel_rfl) ?_
        refine tr_ret (q_r (rg_r ?_))
        obtain rfl := Option.some.inj hM
        exact retg (names := []) .nil (by kernel_rfl)
    · have hM := ite_false' hM h4
      refine tr_sr hT hm [(2, .call [] [] [.agg (eXCategory.b a0.On.Source), iv a1] [] (bv v3)), (4, .val (bv true))] [2, 4, 6, 8, 10, 24, 80, 2011, 2025] [(2, .d (iv a1)), (4, .d (iv a2)), (6, .d (iv a3)), (8, .d (iv a4)), (10, .d (.rp 1005 0)), (24, .d (.rp 1012 0)), (80, .d (bv true)), bxB 2011 (eXMonad.b a0), bxB 2025 (eXCategory.b a0.On.Source)] (cc0 ok20 (spec_l02Object_c a0.On.Source a1 _ hv3) (by kernel_rfl) (.cons (congrArg (fun b => bv b) (congrArg not h4)) .nil)) (by kernel_rfl) (by kernel_rfl) ?_
      refine tr_condT (by kernel_rfl) ?_
      refine tr_sr hT hm [] [20, 22] [(20, .d (iv 0)), (22, .d (iv 2))] .nil (by kernel_rfl) (by kernel_rfl) ?_
      refine tr_ret (q_r (rg_r ?_))
      obtain rfl := Option.some.inj hM
      exact retg (names := []) .nil (by kernel_rfl)
  · have hM := ite_false' hM h2
    refine tr_condTe (e := !v1) (congrArg not h2) (by kernel_rfl) ?_
    refine tr_sr hT hm [] [20, 22] [(20, .d (iv 0)), (22, .d (iv 1))] .nil (by kernel_rfl) (by kernel_rfl) ?_
    refine tr_ret (q_r (rg_r ?_))
    obtain rfl := Option.some.inj hM
    exact retg (names := []) .nil (by kernel_rfl)

theorem ok30 : CallOk Try.prog 30 := callOk_of Try.func30 (by kernel_rfl) (by kernel_rfl)
theorem impl_Monad_binder_c (a0 : XMonad) (r : Unit) (hM : M.impl_Monad_binder a0 = some r) :
    FnC Try.prog 30 [] [.pt (eXMonad.b a0) 0] [] (.agg [.pt (eXMonad.b a0) 0, .pt (eXCategory.b a0.On.Source) 0, .fb 59 [.pt ((eP eXCategory).b a0.On.Source) 0, .pt ((eP eXMonad).b a0) 0]]) := by
  refine fnc_startG (N := 12) (np := 500) hT Try.func30 rfl rfl (by kernel_rfl) ?_
  unfold M.impl_Monad_binder at hM
  refine tr_start (ks := [0]) (st' := [(0, .d (.pt (eXMonad.b a0) 0))]) (by kernel_rfl) ?_
  refine tr_sr hT hm [] [2, 4, 2003, 2005] [(2, .d (.rp 1001 0)), (4, .d (.rp 1002 0)), (2003, .r (.arr 1 [.pt (eXMonad.b a0) 0] [])), (2005, .r (.arr 1 [.v (.pointer .none), .v (.pointer .none), .v (.nilFunc)] []))] .nil (by kernel_rfl) (by kernel_rfl) ?_
  refine tr_sr hT hm [] [2, 4, 6, 2003, 2005, 2007] [(2, .d (.rp 1001 0)), (4, .d (.rp 1002 0)), (6, .d (.rp 1003 0)), (2003, .r (.arr 1 [.pt (eXMonad.b a0) 0] [])), (2005, .r (.arr 1 [.v (.pointer .none), .v (.pointer .none), .v (.nilFunc)] [])), (2007, .r (.arr 1 [.pt (eXMonad.b a0) 0] []))] (.cons (Nat.le_of_ble_eq_true (n := 1) (m := 1) rfl) .nil) (by kernel_rfl) (by kernel_rfl) ?_
  refine tr_sr hT hm [] [4, 2003, 2005, 2007] [(4, .d (.rp 1002 0)), (2003, .r (.arr 1 [.pt (eXMonad.b a0) 0] [])), (2005, .r (.arr 1 [.pt (eXMonad.b a0) 0, .pt (eXMonad.b a0) 0, .fn 59 [.rp 1003 0, .rp 1001 0]] [1003, 1001])), (2007, .r (.arr 1 [.pt (eXMonad.b a0) 0] []))] (.cons (Nat.le_of_ble_eq_true (n := 3) (m := 3) rfl) .nil) (by kernel_rfl) (by kernel_rfl) ?_
  refine tr_ret (rg_r ?_)
  refine RetG.by (imp_freeze (B := [1002, 1003, 1001]) (cv := [(2, .pt [.pt (eXMonad.b a0) 0, .pt (eXCategory.b a0.On.Source) 0, .fb 59 [.pt ((eP eXCategory).b a0.On.Source) 0, .pt ((eP eXMonad).b a0) 0]] 0)]) (.cons (by kernel_rfl) (.of1 (.rp (r := 1002) (sz := 1) (cells := [.pt (eXMonad.b a0) 0, .pt (eXMonad.b a0) 0, .fn 59 [.rp 1003 0, .rp 1001 0]]) (refs := [1003, 1001]) (memB (by kernel_rfl)) (by kernel_rfl) (.cons (.same rfl rfl) (.cons (.ptk (ds := eXMonad.b a0) (ds' := eXCategory.b a0.On.Source) (off := 0) (n := 5) (by kernel_rfl) (by kernel_rfl) (by kernel_rfl)) (.cons (.fn (.cons (.rp (r := 1003) (sz := 1) (cells := [.pt (eXMonad.b a0) 0]) (refs := []) (memB (by kernel_rfl)) (by kernel_rfl) (.cons (.ptk (ds := eXMonad.b a0) (ds' := eXCategory.b a0.On.Source) (off := 0) (n := 5) (by kernel_rfl) (by kernel_rfl) (by kernel_rfl)) .nil)) (.cons (.rp (r := 1001) (sz := 1) (cells := [.pt (eXMonad.b a0) 0]) (refs := []) (memB (by kernel_rfl)) (by kernel_rfl) (.cons (.same rfl rfl) .nil)) .nil))) .nil))))) .nil)) ?_
  obtain rfl := Option.some.inj hM
  exact retg (names := []) .nil (by kernel_rfl)

theorem ok59 : CallOk Try.prog 59 := callOk_of Try.func59 (by kernel_rfl) (by kernel_rfl)
theorem impl_Monad_binder_1_c (a0 : Int) (a1 : Int) (a2 : Int) (a3 : XCategory) (a4 : XMonad) (r : Int) (hM : M.impl_Monad_binder_1 a0 a1 a2 a3 a4 = some r) :
    FnC Try.prog 59 [] [iv a0, iv a1, iv a2, .pt ((eP eXCategory).b a3) 0, .pt ((eP eXMonad).b a4) 0] [] (iv r) := by
  refine fnc_startG (N := 29) (np := 500) hT Try.func59 rfl rfl (by kernel_rfl) ?_
  unfold M.impl_Monad_binder_1 at hM
  refine tr_start (ks := [0, 2, 4, 6, 8]) (st' := [(0, .d (iv a0)), (2, .d (iv a1)), (4, .d (iv a2)), (6, .d (.pt ((eP eXCategory).b a3) 0)), (8, .d (.pt ((eP eXMonad).b a4) 0))]) (by kernel_rfl) ?_
  refine tr_sr hT hm [] [0, 2, 4, 6, 8] [(0, .d (iv a0)), (2, .d (iv a1)), (4, .d (iv a2)), (6, .d (.pt ((eP eXCategory).b a3) 0)), (8, .d (.pt ((eP eXMonad).b a4) 0))] .nil (by kernel_rfl) (by kernel_rfl) ?_
  obtain ⟨y1, hy1, hM⟩ := bind_some' hM
  have hy1' := idx_some hy1
  obtain ⟨v2, hv2, hM⟩ := bind_some' hM
  obtain ⟨y3, hy3, hM⟩ := bind_some' hM
  have hy3' := idx_some hy3
  obtain ⟨v4, hv4, hM⟩ := bind_some' hM
  refine tr_sr hT hm [(10, .val (iv y1)), (11, .call [] [] [.pt (eXCategory.b a3) 0, iv a1, iv y1] [] (iv v2)), (18, .val (iv y3)), (19, .call [] [] [.pt (eXCategory.b a3) 0, iv v2, iv y3] [] (iv v4))] [16] [(16, .d (iv v4))] (.cons hy1'.1 (.cons hy1'.2.1 (.cons (at_b0 eI_ok hy1'.2.2 (d := iv y1) (by kernel_rfl)) (cc0 ok60 (impl_Category_then_c a3 a1 y1 _ hv2) (by kernel_rfl) (.cons hy3'.1 (.cons hy3'.2.1 (.cons (at_b0 eI_ok hy3'.2.2 (d := iv y3) (by kernel_rfl)) (cc0 ok60 (impl_Category_then_c a3 v2 y3 _ hv4) (by kernel_rfl) .nil)))))))) (by kernel_rfl) (by kernel_rfl) ?_
  refine tr_ret (rg_r ?_)
  obtain rfl := Option.some.inj hM
  exact retg (names := []) .nil (by kernel_rfl)

theorem ok8 : CallOk Try.prog 8 := callOk_of Try.func8 (by kernel_rfl) (by kernel_rfl)
theorem impl_BindArrows_c (a0 : XMonad) (a1 : Int) (a2 : Int) (a3 : Int) (a4 : Int) (r : Int × Int) (hM : M.impl_BindArrows a0 a1 a2 a3 a4 = some r) :
    FnC Try.prog 8 [] [.agg (eXMonad.b a0), iv a1, iv a2, iv a3, iv a4] [] (.tup [iv r.1, iv r.2]) := by
  refine fnc_startG (N := 61) (np := 500) hT Try.func8 rfl rfl (by kernel_rfl) ?_
  unfold M.impl_BindArrows at hM
  refine tr_start (ks := [0, 2, 4, 6, 8]) (st' := [(0, .d (.agg (eXMonad.b a0))), (2, .d (iv a1)), (4, .d (iv a2)), (6, .d (iv a3)), (8, .d (iv a4))]) (by kernel_rfl) ?_
  refine tr_sr hT hm [] [2, 4, 6, 8, 10, 2011] [(2, .d (iv a1)), (4, .d (iv a2)), (6, .d (iv a3)), (8, .d (iv a4)), (10, .d (.rp 1005 0)), bxB 2011 (eXMonad.b a0)] .nil (by kernel_rfl) (by kernel_rfl) ?_
  refine tr_seq ?_
  obtain ⟨v1, hv1, hM⟩ := bind_some' hM
  refine tr_sr hT hm [(0, .call [1005] [] [.pt (eXMonad.b a0) 0] [] (bv v1))] [2, 4, 6, 8, 10, 28, 2011] [(2, .d (iv a1)), (4, .d (iv a2)), (6, .d (iv a3)), (8, .d (iv a4)), (10, .d (.rp 1005 0)), (28, .d (bv (!v1))), bxB 2011 (eXMonad.b a0)] (cc (B := [1005]) (ρ := []) (rB := [(1005, .arr 1 [iv a0.On.Source.Objects, .sl a0.On.Source.From.length 0 (a0.On.Source.From.flatMap eI.b), .sl a0.On.Source.To.length 0 (a0.On.Source.To.flatMap eI.b), .sl a0.On.Source.Identity.length 0 (a0.On.Source.Identity.flatMap eI.b), .sl a0.On.Source.Composites.length 0 (a0.On.Source.Composites.flatMap (eS eI).b), iv a0.On.Target.Objects, .sl a0.On.Target.From.length 0 (a0.On.Target.From.flatMap eI.b), .sl a0.On.Target.To.length 0 (a0.On.Target.To.flatMap eI.b), .sl a0.On.Target.Identity.length 0 (a0.On.Target.Identity.flatMap eI.b), .sl a0.On.Target.Composites.length 0 (a0.On.Target.Composites.flatMap (eS eI).b), .sl a0.On.Objects.length 0 (a0.On.Objects.flatMap eI.b), .sl a0.On.Arrows.length 0 (a0.On.Arrows.flatMap eI.b), .sl a0.Unit.length 0 (a0.Unit.flatMap eI.b), .sl a0.Join.length 0 (a0.Join.flatMap eI.b)] [])]) ok25 (impl_Monad_isMonad_c a0 _ hv1) (.cons (.of1 (.rp (r := 1005) (sz := 1) (cells := [iv a0.On.Source.Objects, .sl a0.On.Source.From.length 0 (a0.On.Source.From.flatMap eI.b), .sl a0.On.Source.To.length 0 (a0.On.Source.To.flatMap eI.b), .sl a0.On.Source.Identity.length 0 (a0.On.Source.Identity.flatMap eI.b), .sl a0.On.Source.Composites.length 0 (a0.On.Source.Composites.flatMap (eS eI).b), iv a0.On.Target.Objects, .sl a0.On.Target.From.length 0 (a0.On.Target.From.flatMap eI.b), .sl a0.On.Target.To.length 0 (a0.On.Target.To.flatMap eI.b), .sl a0.On.Target.Identity.length 0 (a0.On.Target.Identity.flatMap eI.b), .sl a0.On.Target.Composites.length 0 (a0.On.Target.Composites.flatMap (eS eI).b), .sl a0.On.Objects.length 0 (a0.On.Objects.flatMap eI.b), .sl a0.On.Arrows.length 0 (a0.On.Arrows.flatMap eI.b), .sl a0.Unit.length 0 (a0.Unit.flatMap eI.b), .sl a0.Join.length 0 (a0.Join.flatMap eI.b)]) (refs := []) (memB (by kernel_rfl)) (by kernel_rfl) (.cons .v (.cons (.same rfl rfl) (.cons (.same rfl rfl) (.cons (.same rfl rfl) (.cons (.same rfl rfl) (.cons .v (.cons (.same rfl rfl) (.cons (.same rfl rfl) (.cons (.same rfl rfl) (.cons (.same rfl rfl) (.cons (.same rfl rfl) (.cons (.same rfl rfl) (.cons (.same rfl rfl) (.cons (.same rfl rfl) .nil)))))))))))))))) .nil) (.inr ⟨.v, trivial⟩) .nil) (by kernel_rfl) (by kernel_rfl) ?_
  rcases Bool.eq_false_or_eq_true v1 with h2 | h2
  · have hM := ite_true' hM h2
    refine tr_condFe (e := !v1) (congrArg not h2) (by kernel_rfl) ?_
    refine tr_skip (q_n ?_)
    refine tr_sr hT hm [] [2, 4, 6, 8, 10, 24, 2011] [(2, .d (iv a1)), (4, .d (iv a2)), (6, .d (iv a3)), (8, .d (iv a4)), (10, .d (.rp 1005 0)), (24, .d (.rp 1005 0)), bxB 2011 (eXMonad.b a0)] .nil (by kernel_rfl) (by kernel_rfl) ?_
    refine tr_seq ?_
    obtain ⟨v3, hv3, hM⟩ := bind_some' hM
    rcases Bool.eq_false_or_eq_true v3 with h4 | h4
    · have hM := ite_true' hM h4
      obtain ⟨v5, hv5, hM⟩ := bind_some' hM
      obtain ⟨v6, hv6, hM⟩ := bind_some' hM
      refine tr_sr hT hm [(7, .call [1019] [] [.sl ([a1, a2] : List Int).length 0 (([a1, a2] : List Int).flatMap eI.b), iv a0.On.Source.Objects] [] (bv v3)), (9, .val (bv false)), (14, .call [1005] [] [.pt (eXCategory.b a0.On.Source) 0] [] (iv v5)), (15, .call [1029] [] [.sl ([a3, a4] : List Int).length 0 (([a3, a4] : List Int).flatMap eI.b), iv v5] [] (bv v6))] [2, 4, 6, 8, 10, 24, 68, 2011] [(2, .d (iv a1)), (4, .d (iv a2)), (6, .d (iv a3)), (8, .d (iv a4)), (10, .d (.rp 1005 0)), (24, .d (.rp 1005 0)), (68, .d (bv (!v6))), bxB 2011 (eXMonad.b a0)] (cc (B := [1019]) (ρ := []) (rB := [(1019, .arr 1 (([a1, a2] : List Int).flatMap eI.o) [])]) ok26 (impl_within_c ([a1, a2] : List Int) a0.On.Source.Objects _ hv3) (.cons (.of1 (.rs (r := 1019) (sz := 1) (refs := []) (memB (by kernel_rfl)) (by kernel_rfl) (bor_flat eI_ok _ _ _))) (.cons (.same rfl) .nil)) (.inr ⟨.v, trivial⟩) (.cons (congrArg (fun b => bv b) (congrArg not h4)) (cc (B := [1005]) (ρ := []) (rB := [(1005, .arr 1 [iv a0.On.Source.Objects, .sl a0.On.Source.From.length 0 (a0.On.Source.From.flatMap eI.b), .sl a0.On.Source.To.length 0 (a0.On.Source.To.flatMap eI.b), .sl a0.On.Source.Identity.length 0 (a0.On.Source.Identity.flatMap eI.b), .sl a0.On.Source.Composites.length 0 (a0.On.Source.Composites.flatMap (eS eI).b), iv a0.On.Target.Objects, .sl a0.On.Target.From.length 0 (a0.On.Target.From.flatMap eI.b), .sl a0.On.Target.To.length 0 (a0.On.Target.To.flatMap eI.b), .sl a0.On.Target.Identity.length 0 (a0.On.Target.Identity.flatMap eI.b), .sl a0.On.Target.Composites.length 0 (a0.On.Target.Composites.flatMap (eS eI).b), .sl a0.On.Objects.length 0 (a0.On.Objects.flatMap eI.b), .sl a0.On.Arrows.length 0 (a0.On.Arrows.flatMap eI.b), .sl a0.Unit.length 0 (a0.Unit.flatMap eI.b), .sl a0.Join.length 0 (a0.Join.flatMap eI.b)] [])]) ok27 (impl_Category_arrows_c a0.On.Source _ hv5) (.cons (.rpSub (r := 1005) (off := 0) (n := 5) (sz := 1) (cells := [iv a0.On.Source.Objects, .sl a0.On.Source.From.length 0 (a0.On.Source.From.flatMap eI.b), .sl a0.On.Source.To.length 0 (a0.On.Source.To.flatMap eI.b), .sl a0.On.Source.Identity.length 0 (a0.On.Source.Identity.flatMap eI.b), .sl a0.On.Source.Composites.length 0 (a0.On.Source.Composites.flatMap (eS eI).b), iv a0.On.Target.Objects, .sl a0.On.Target.From.length 0 (a0.On.Target.From.flatMap eI.b), .sl a0.On.Target.To.length 0 (a0.On.Target.To.flatMap eI.b), .sl a0.On.Target.Identity.length 0 (a0.On.Target.Identity.flatMap eI.b), .sl a0.On.Target.Composites.length 0 (a0.On.Target.Composites.flatMap (eS eI).b), .sl a0.On.Objects.length 0 (a0.On.Objects.flatMap eI.b), .sl a0.On.Arrows.length 0 (a0.On.Arrows.flatMap eI.b), .sl a0.Unit.length 0 (a0.Unit.flatMap eI.b), .sl a0.Join.length 0 (a0.Join.flatMap eI.b)]) (refs := []) (ds' := eXCategory.b a0.On.Source) (by kernel_rfl) (by kernel_rfl) (.cons .v (.cons (.same rfl rfl) (.cons (.same rfl rfl) (.cons (.same rfl rfl) (.cons (.same rfl rfl) (.cons .v (.cons (.same rfl rfl) (.cons (.same rfl rfl) (.cons (.same rfl rfl) (.cons (.same rfl rfl) (.cons (.same rfl rfl) (.cons (.same rfl rfl) (.cons (.same rfl rfl) (.cons (.same rfl rfl) .nil)))))))))))))) (Nat.le_of_ble_eq_true rfl) (by kernel_rfl) (by kernel_rfl)) .nil) (.inr ⟨.v, trivial⟩) (cc (B := [1029]) (ρ := []) (rB := [(1029, .arr 1 (([a3, a4] : List Int).flatMap eI.o) [])]) ok26 (impl_within_c ([a3, a4] : List Int) v5 _ hv6) (.cons (.of1 (.rs (r := 1029) (sz := 1) (refs := []) (memB (by kernel_rfl)) (by kernel_rfl) (bor_flat eI_ok _ _ _))) (.cons (.same rfl) .nil)) (.inr ⟨.v, trivial⟩) .nil)))) (by kernel_rfl) (by kernel_rfl) ?_
      rcases Bool.eq_false_or_eq_true v6 with h7 | h7
      · have hM := ite_true' hM h7
        refine tr_condFe (e := !v6) (congrArg not h7) (by kernel_rfl) ?_
        refine tr_skip (q_n ?_)
        refine tr_seq ?_
        obtain ⟨y8, hy8, hM⟩ := bind_some' hM
        have hy8' := idx_some hy8
        obtain ⟨v9, hv9, hM⟩ := bind_some' hM
        rcases Bool.eq_false_or_eq_true (y8 != v9) with h10 | h10
        · have hM := ite_true' hM h10
          refine tr_sr hT hm [(6, .val (iv y8)), (8, .call [1005] [] [.pt (eXMonad.b a0) 0, iv a1] [] (iv v9)), (10, .val (bv true))] [4, 6, 8, 10, 108, 2011] [(4, .d (iv a2)), (6, .d (iv a3)), (8, .d (iv a4)), (10, .d (.rp 1005 0)), (108, .d (bv true)), bxB 2011 (eXMonad.b a0)] (.cons hy8'.1 (.cons hy8'.2.1 (.cons (at_b0 eI_ok hy8'.2.2 (d := iv y8) (by kernel_rfl)) (cc (B := [1005]) (ρ := []) (rB := [(1005, .arr 1 [iv a0.On.Source.Objects, .sl a0.On.Source.From.length 0 (a0.On.Source.From.flatMap eI.b), .sl a0.On.Source.To.length 0 (a0.On.Source.To.flatMap eI.b), .sl a0.On.Source.Identity.length 0 (a0.On.Source.Identity.flatMap eI.b), .sl a0.On.Source.Composites.length 0 (a0.On.Source.Composites.flatMap (eS eI).b), iv a0.On.Target.Objects, .sl a0.On.Target.From.length 0 (a0.On.Target.From.flatMap eI.b), .sl a0.On.Target.To.length 0 (a0.On.Target.To.flatMap eI.b), .sl a0.On.Target.Identity.length 0 (a0.On.Target.Identity.flatMap eI.b), .sl a0.On.Target.Composites.length 0 (a0.On.Target.Composites.flatMap (eS eI).b), .sl a0.On.Objects.length 0 (a0.On.Objects.flatMap eI.b), .sl a0.On.Arrows.length 0 (a0.On.Arrows.flatMap eI.b), .sl a0.Unit.length 0 (a0.Unit.flatMap eI.b), .sl a0.Join.length 0 (a0.Join.flatMap eI.b)] [])]) ok28 (impl_Monad_object_c a0 a1 _ hv9) (.cons (.of1 (.rp (r := 1005) (sz := 1) (cells := [iv a0.On.Source.Objects, .sl a0.On.Source.From.length 0 (a0.On.Source.From.flatMap eI.b), .sl a0.On.Source.To.length 0 (a0.On.Source.To.flatMap eI.b), .sl a0.On.Source.Identity.length 0 (a0.On.Source.Identity.flatMap eI.b), .sl a0.On.Source.Composites.length 0 (a0.On.Source.Composites.flatMap (eS eI).b), iv a0.On.Target.Objects, .sl a0.On.Target.From.length 0 (a0.On.Target.From.flatMap eI.b), .sl a0.On.Target.To.length 0 (a0.On.Target.To.flatMap eI.b), .sl a0.On.Target.Identity.length 0 (a0.On.Target.Identity.flatMap eI.b), .sl a0.On.Target.Composites.length 0 (a0.On.Target.Composites.flatMap (eS eI).b), .sl a0.On.Objects.length 0 (a0.On.Objects.flatMap eI.b), .sl a0.On.Arrows.length 0 (a0.On.Arrows.flatMap eI.b), .sl a0.Unit.length 0 (a0.Unit.flatMap eI.b), .sl a0.Join.length 0 (a0.Join.flatMap eI.b)]) (refs := []) (memB (by kernel_rfl)) (by kernel_rfl) (.cons .v (.cons (.same rfl rfl) (.cons (.same rfl rfl) (.cons (.same rfl rfl) (.cons (.same rfl rfl) (.cons .v (.cons (.same rfl rfl) (.cons (.same rfl rfl) (.cons (.same rfl rfl) (.cons (.same rfl rfl) (.cons (.same rfl rfl) (.cons (.same rfl rfl) (.cons (.same rfl rfl) (.cons (.same rfl rfl) .nil)))))))))))))))) (.cons (.same rfl) .nil)) (.inr ⟨.v, trivial⟩) (.cons (congrArg (fun b => bv b) h10) .nil))))) (by kernel_rfl) (by kernel_rfl) ?_
          refine tr_condT (by kernel_rfl) ?_
          refine tr_sr hT hm [] [20, 22] [(20, .d (iv 0)), (22, .d (iv 5))] .nil (by kernel_rfl) (by kernel_rfl) ?_
          refine tr_ret (q_r (rg_r ?_))
          obtain rfl := Option.some.inj hM
          exact retg (names := []) .nil (by kernel_rfl)
        · have hM := ite_false' hM h10
          obtain ⟨v11, hv11, hM⟩ := bind_some' hM
          obtain ⟨v12, hv12, hM⟩ := bind_some' hM
          refine tr_sr hT hm [(6, .val (iv y8)), (8, .call [1005] [] [.pt (eXMonad.b a0) 0, iv a1] [] (iv v9)), (10, .val (bv false)), (13, .call [1005] [] [.pt (eXCategory.b a0.On.Source) 0, iv a4] [] (.agg (eXends.o v11))), (16, .call [1005] [] [.pt (eXMonad.b a0) 0, iv a2] [] (iv v12))] [4, 6, 8, 10, 108, 2011] [(4, .d (iv a2)), (6, .d (iv a3)), (8, .d (iv a4)), (10, .d (.rp 1005 0)), (108, .d (bv (((v11.from_ == a1) && (v11.to_ == v12)) == false))), bxB 2011 (eXMonad.b a0)] (.cons hy8'.1 (.cons hy8'.2.1 (.cons (at_b0 eI_ok hy8'.2.2 (d := iv y8) (by kernel_rfl)) (cc (B := [1005]) (ρ := []) (rB := [(1005, .arr 1 [iv a0.On.Source.Objects, .sl a0.On.Source.From.length 0 (a0.On.Source.From.flatMap eI.b), .sl a0.On.Source.To.length 0 (a0.On.Source.To.flatMap eI.b), .sl a0.On.Source.Identity.length 0 (a0.On.Source.Identity.flatMap eI.b), .sl a0.On.Source.Composites.length 0 (a0.On.Source.Composites.flatMap (eS eI).b), iv a0.On.Target.Objects, .sl a0.On.Target.From.length 0 (a0.On.Target.From.flatMap eI.b), .sl a0.On.Target.To.length 0 (a0.On.Target.To.flatMap eI.b), .sl a0.On.Target.Identity.length 0 (a0.On.Target.Identity.flatMap eI.b), .sl a0.On.Target.Composites.length 0 (a0.On.Target.Composites.flatMap (eS eI).b), .sl a0.On.Objects.length 0 (a0.On.Objects.flatMap eI.b), .sl a0.On.Arrows.length 0 (a0.On.Arrows.flatMap eI.b), .sl a0.Unit.length 0 (a0.Unit.flatMap eI.b), .sl a0.Join.length 0 (a0.Join.flatMap eI.b)] [])]) ok28 (impl_Monad_object_c a0 a1 _ hv9) (.cons (.of1 (.rp (r := 1005) (sz := 1) (cells := [iv a0.On.Source.Objects, .sl a0.On.Source.From.length 0 (a0.On.Source.From.flatMap eI.b), .sl a0.On.Source.To.length 0 (a0.On.Source.To.flatMap eI.b), .sl a0.On.Source.Identity.length 0 (a0.On.Source.Identity.flatMap eI.b), .sl a0.On.Source.Composites.length 0 (a0.On.Source.Composites.flatMap (eS eI).b), iv a0.On.Target.Objects, .sl a0.On.Target.From.length 0 (a0.On.Target.From.flatMap eI.b), .sl a0.On.Target.To.length 0 (a0.On.Target.To.flatMap eI.b), .sl a0.On.Target.Identity.length 0 (a0.On.Target.Identity.flatMap eI.b), .sl a0.On.Target.Composites.length 0 (a0.On.Target.Composites.flatMap (eS eI).b), .sl a0.On.Objects.length 0 (a0.On.Objects.flatMap eI.b), .sl a0.On.Arrows.length 0 (a0.On.Arrows.flatMap eI.b), .sl a0.Unit.length 0 (a0.Unit.flatMap eI.b), .sl a0.Join.length 0 (a0.Join.flatMap eI.b)]) (refs := []) (memB (by kernel_rfl)) (by kernel_rfl) (.cons .v (.cons (.same rfl rfl) (.cons (.same rfl rfl) (.cons (.same rfl rfl) (.cons (.same rfl rfl) (.cons .v (.cons (.same rfl rfl) (.cons (.same rfl rfl) (.cons (.same rfl rfl) (.cons (.same rfl rfl) (.cons (.same rfl rfl) (.cons (.same rfl rfl) (.cons (.same rfl rfl) (.cons (.same rfl rfl) .nil)))))))))))))))) (.cons (.same rfl) .nil)) (.inr ⟨.v, trivial⟩) (.cons (congrArg (fun b => bv b) h10) (cc (B := [1005]) (ρ := []) (rB := [(1005, .arr 1 [iv a0.On.Source.Objects, .sl a0.On.Source.From.length 0 (a0.On.Source.From.flatMap eI.b), .sl a0.On.Source.To.length 0 (a0.On.Source.To.flatMap eI.b), .sl a0.On.Source.Identity.length 0 (a0.On.Source.Identity.flatMap eI.b), .sl a0.On.Source.Composites.length 0 (a0.On.Source.Composites.flatMap (eS eI).b), iv a0.On.Target.Objects, .sl a0.On.Target.From.length 0 (a0.On.Target.From.flatMap eI.b), .sl a0.On.Target.To.length 0 (a0.On.Target.To.flatMap eI.b), .sl a0.On.Target.Identity.length 0 (a0.On.Target.Identity.flatMap eI.b), .sl a0.On.Target.Composites.length 0 (a0.On.Target.Composites.flatMap (eS eI).b), .sl a0.On.Objects.length 0 (a0.On.Objects.flatMap eI.b), .sl a0.On.Arrows.length 0 (a0.On.Arrows.flatMap eI.b), .sl a0.Unit.length 0 (a0.Unit.flatMap eI.b), .sl a0.Join.length 0 (a0.Join.flatMap eI.b)] [])]) ok29 (impl_Category_ends_c a0.On.Source a4 _ hv11) (.cons (.rpSub (r := 1005) (off := 0) (n := 5) (sz := 1) (cells := [iv a0.On.Source.Objects, .sl a0.On.Source.From.length 0 (a0.On.Source.From.flatMap eI.b), .sl a0.On.Source.To.length 0 (a0.On.Source.To.flatMap eI.b), .sl a0.On.Source.Identity.length 0 (a0.On.Source.Identity.flatMap eI.b), .sl a0.On.Source.Composites.length 0 (a0.On.Source.Composites.flatMap (eS eI).b), iv a0.On.Target.Objects, .sl a0.On.Target.From.length 0 (a0.On.Target.From.flatMap eI.b), .sl a0.On.Target.To.length 0 (a0.On.Target.To.flatMap eI.b), .sl a0.On.Target.Identity.length 0 (a0.On.Target.Identity.flatMap eI.b), .sl a0.On.Target.Composites.length 0 (a0.On.Target.Composites.flatMap (eS eI).b), .sl a0.On.Objects.length 0 (a0.On.Objects.flatMap eI.b), .sl a0.On.Arrows.length 0 (a0.On.Arrows.flatMap eI.b), .sl a0.Unit.length 0 (a0.Unit.flatMap eI.b), .sl a0.Join.length 0 (a0.Join.flatMap eI.b)]) (refs := []) (ds' := eXCategory.b a0.On.Source) (by kernel_rfl) (by kernel_rfl) (.cons .v (.cons (.same rfl rfl) (.cons (.same rfl rfl) (.cons (.same rfl rfl) (.cons (.same rfl rfl) (.cons .v (.cons (.same rfl rfl) (.cons (.same rfl rfl) (.cons (.same rfl rfl) (.cons (.same rfl rfl) (.cons (.same rfl rfl) (.cons (.same rfl rfl) (.cons (.same rfl rfl) (.cons (.same rfl rfl) .nil)))))))))))))) (Nat.le_of_ble_eq_true rfl) (by kernel_rfl) (by kernel_rfl)) (.cons (.same rfl) .nil)) (.inr ⟨(.agg (eXends_nb _)), trivial⟩) (cc (B := [1005]) (ρ := []) (rB := [(1005, .arr 1 [iv a0.On.Source.Objects, .sl a0.On.Source.From.length 0 (a0.On.Source.From.flatMap eI.b), .sl a0.On.Source.To.length 0 (a0.On.Source.To.flatMap eI.b), .sl a0.On.Source.Identity.length 0 (a0.On.Source.Identity.flatMap eI.b), .sl a0.On.Source.Composites.length 0 (a0.On.Source.Composites.flatMap (eS eI).b), iv a0.On.Target.Objects, .sl a0.On.Target.From.length 0 (a0.On.Target.From.flatMap eI.b), .sl a0.On.Target.To.length 0 (a0.On.Target.To.flatMap eI.b), .sl a0.On.Target.Identity.length 0 (a0.On.Target.Identity.flatMap eI.b), .sl a0.On.Target.Composites.length 0 (a0.On.Target.Composites.flatMap (eS eI).b), .sl a0.On.Objects.length 0 (a0.On.Objects.flatMap eI.b), .sl a0.On.Arrows.length 0 (a0.On.Arrows.flatMap eI.b), .sl a0.Unit.length 0 (a0.Unit.flatMap eI.b), .sl a0.Join.length 0 (a0.Join.flatMap eI.b)] [])]) ok28 (impl_Monad_object_c a0 a2 _ hv12) (.cons (.of1 (.rp (r := 1005) (sz := 1) (cells := [iv a0.On.Source.Objects, .sl a0.On.Source.From.length 0 (a0.On.Source.From.flatMap eI.b), .sl a0.On.Source.To.length 0 (a0.On.Source.To.flatMap eI.b), .sl a0.On.Source.Identity.length 0 (a0.On.Source.Identity.flatMap eI.b), .sl a0.On.Source.Composites.length 0 (a0.On.Source.Composites.flatMap (eS eI).b), iv a0.On.Target.Objects, .sl a0.On.Target.From.length 0 (a0.On.Target.From.flatMap eI.b), .sl a0.On.Target.To.length 0 (a0.On.Target.To.flatMap eI.b), .sl a0.On.Target.Identity.length 0 (a0.On.Target.Identity.flatMap eI.b), .sl a0.On.Target.Composites.length 0 (a0.On.Target.Composites.flatMap (eS eI).b), .sl a0.On.Objects.length 0 (a0.On.Objects.flatMap eI.b), .sl a0.On.Arrows.length 0 (a0.On.Arrows.flatMap eI.b), .sl a0.Unit.length 0 (a0.Unit.flatMap eI.b), .sl a0.Join.length 0 (a0.Join.flatMap eI.b)]) (refs := []) (memB (by kernel_rfl)) (by kernel_rfl) (.cons .v (.cons (.same rfl rfl) (.cons (.same rfl rfl) (.cons (.same rfl rfl) (.cons (.same rfl rfl) (.cons .v (.cons (.same rfl rfl) (.cons (.same rfl rfl) (.cons (.same rfl rfl) (.cons (.same rfl rfl) (.cons (.same rfl rfl) (.cons (.same rfl rfl) (.cons (.same rfl rfl) (.cons (.same rfl rfl) .nil)))))))))))))))) (.cons (.same rfl) .nil)) (.inr ⟨.v, trivial⟩) (.cons (by kernel_rfl : Try.prog.stoodInHeld 61 = false) (.cons (by kernel_rfl : Try.prog.eqGuardType Try.prog.depth 61 = false) .nil))))))))) (by kernel_rfl) (by kernel_rfl) ?_
          rcases Bool.eq_false_or_eq_true (((v11.from_ == a1) && (v11.to_ == v12)) == false) with h13 | h13
          · have hM := ite_true' hM h13
            refine tr_condTe (e := ((v11.from_ == a1) && (v11.to_ == v12)) == false) h13 (by kernel_rfl) ?_
            refine tr_sr hT hm [] [20, 22] [(20, .d (iv 0)), (22, .d (iv 5))] .nil (by kernel_rfl) (by kernel_rfl) ?_
            refine tr_ret (q_r (rg_r ?_))
            obtain rfl := Option.some.inj hM
            exact retg (names := []) .nil (by kernel_rfl)
          · have hM := ite_false' hM h13
            refine tr_condFe (e := ((v11.from_ == a1) && (v11.to_ == v12)) == false) h13 (by kernel_rfl) ?_
            refine tr_skip (q_n ?_)
            refine Tr.by (imp_freeze (B := [1005]) (cv := [(5, .pt (eXMonad.b a0) 0)]) (.cons (by kernel_rfl) (.of1 (.rp (r := 1005) (sz := 1) (cells := [iv a0.On.Source.Objects, .sl a0.On.Source.From.length 0 (a0.On.Source.From.flatMap eI.b), .sl a0.On.Source.To.length 0 (a0.On.Source.To.flatMap eI.b), .sl a0.On.Source.Identity.length 0 (a0.On.Source.Identity.flatMap eI.b), .sl a0.On.Source.Composites.length 0 (a0.On.Source.Composites.flatMap (eS eI).b), iv a0.On.Target.Objects, .sl a0.On.Target.From.length 0 (a0.On.Target.From.flatMap eI.b), .sl a0.On.Target.To.length 0 (a0.On.Target.To.flatMap eI.b), .sl a0.On.Target.Identity.length 0 (a0.On.Target.Identity.flatMap eI.b), .sl a0.On.Target.Composites.length 0 (a0.On.Target.Composites.flatMap (eS eI).b), .sl a0.On.Objects.length 0 (a0.On.Objects.flatMap eI.b), .sl a0.On.Arrows.length 0 (a0.On.Arrows.flatMap eI.b), .sl a0.Unit.length 0 (a0.Unit.flatMap eI.b), .sl a0.Join.length 0 (a0.Join.flatMap eI.b)]) (refs := []) (memB (by kernel_rfl)) (by kernel_rfl) (.cons .v (.cons (.same rfl rfl) (.cons (.same rfl rfl) (.cons (.same rfl rfl) (.cons (.same rfl rfl) (.cons .v (.cons (.same rfl rfl) (.cons (.same rfl rfl) (.cons (.same rfl rfl) (.cons (.same rfl rfl) (.cons (.same rfl rfl) (.cons (.same rfl rfl) (.cons (.same rfl rfl) (.cons (.same rfl rfl) .nil)))))))))))))))) .nil)) ?_
            obtain ⟨v14, hv14, hM⟩ := bind_some' hM
            obtain ⟨v15, hv15, hM⟩ := bind_some' hM
            refine tr_sr hT hm [(0, .call [] [] [.pt (eXMonad.b a0) 0] [] (.agg [.pt (eXMonad.b a0) 0, .pt (eXCategory.b a0.On.Source) 0, .fb 59 [.pt ((eP eXCategory).b a0.On.Source) 0, .pt ((eP eXMonad).b a0) 0]])), (5, .call [] [] [iv a2, iv a3, iv a4, .pt ((eP eXCategory).b a0.On.Source) 0, .pt ((eP eXMonad).b a0) 0] [] (iv v15))] [20, 22] [(20, .d (iv v15)), (22, .d (iv 0))] (cc0 ok30 (impl_Monad_binder_c a0 _ hv14) (by kernel_rfl) (cc0 ok59 (impl_Monad_binder_1_c a2 a3 a4 a0.On.Source a0 _ hv15) (by kernel_rfl) .nil)) (by kernel_rfl) (by kernel_rfl) ?_
            refine tr_ret (rg_r ?_)
            obtain rfl := Option.some.inj hM
            exact retg (names := []) .nil (by kernel_rfl)
      · have hM := ite_false' hM h7
        refine tr_condTe (e := !v6) (congrArg not h7) (by kernel_rfl) ?_
        refine tr_sr hT hm [] [20, 22] [(20, .d (iv 0)), (22, .d (iv 2))] .nil (by kernel_rfl) (by kernel_rfl) ?_
        refine tr_ret (q_r (rg_r ?_))
        obtain rfl := Option.some.inj hM
        exact retg (names := []) .nil (by kernel_rfl)
    · have hM := ite_false' hM h4
      refine tr_sr hT hm [(7, .call [1019] [] [.sl ([a1, a2] : List Int).length 0 (([a1, a2] : List Int).flatMap eI.b), iv a0.On.Source.Objects] [] (bv v3)), (9, .val (bv true))] [2, 4, 6, 8, 10, 24, 68, 2011] [(2, .d (iv a1)), (4, .d (iv a2)), (6, .d (iv a3)), (8, .d (iv a4)), (10, .d (.rp 1005 0)), (24, .d (.rp 1005 0)), (68, .d (bv true)), bxB 2011 (eXMonad.b a0)] (cc (B := [1019]) (ρ := []) (rB := [(1019, .arr 1 (([a1, a2] : List Int).flatMap eI.o) [])]) ok26 (impl_within_c ([a1, a2] : List Int) a0.On.Source.Objects _ hv3) (.cons (.of1 (.rs (r := 1019) (sz := 1) (refs := []) (memB (by kernel_rfl)) (by kernel_rfl) (bor_flat eI_ok _ _ _))) (.cons (.same rfl) .nil)) (.inr ⟨.v, trivial⟩) (.cons (congrArg (fun b => bv b) (congrArg not h4)) .nil)) (by kernel_rfl) (by kernel_rfl) ?_
      refine tr_condT (by kernel_rfl) ?_
      refine tr_sr hT hm [] [20, 22] [(20, .d (iv 0)), (22, .d (iv 2))] .nil (by kernel_rfl) (by kernel_rfl) ?_
      refine tr_ret (q_r (rg_r ?_))
      obtain rfl := Option.some.inj hM
      exact retg (names := []) .nil (by kernel_rfl)
  · have hM := ite_false' hM h2
    refine tr_condTe (e := !v1) (congrArg not h2) (by kernel_rfl) ?_
    refine tr_sr hT hm [] [20, 22] [(20, .d (iv 0)), (22, .d (iv 1))] .nil (by kernel_rfl) (by kernel_rfl) ?_
    refine tr_ret (q_r (rg_r ?_))
    obtain rfl := Option.some.inj hM
    exact retg (names := []) .nil (by kernel_rfl)

theorem laws_FnExactBindArrows_c (a0 : XMonad) (a1 : Int) (a2 : Int) (a3 : Int) (a4 : Int) (r : Bool) (hM : M.laws_FnExactBindArrows a0 a1 a2 a3 a4 = some r) :
    FnC Try.prog 3 [] [.agg (eXMonad.b a0), iv a1, iv a2, iv a3, iv a4] [] (bv r) := by
  refine fnc_startG (N := 56) (np := 500) hT Try.func3 rfl rfl (by kernel_rfl) ?_
  unfold M.laws_FnExactBindArrows at hM
  refine tr_start (ks := [0, 2, 4, 6, 8]) (st' := [(0, .d (.agg (eXMonad.b a0))), (2, .d (iv a1)), (4, .d (iv a2)), (6, .d (iv a3)), (8, .d (iv a4))]) (by kernel_rfl) ?_
  refine tr_sr hT hm [] [2, 4, 6, 8, 10, 2011] [(2, .d (iv a1)), (4, .d (iv a2)), (6, .d (iv a3)), (8, .d (iv a4)), (10, .d (.rp 1005 0)), bxB 2011 (eXMonad.b a0)] .nil (by kernel_rfl) (by kernel_rfl) ?_
  refine tr_sr hT hm [] [2, 4, 6, 8, 10, 22, 2011] [(2, .d (iv a1)), (4, .d (iv a2)), (6, .d (iv a3)), (8, .d (iv a4)), (10, .d (.rp 1005 0)), (22, .d (iv 1048576)), bxB 2011 (eXMonad.b a0)] .nil (by kernel_rfl) (by kernel_rfl) ?_
  obtain ⟨v1, hv1, hM⟩ := bind_some' hM
  refine tr_sr hT hm [(2, .call [] [] [.agg (eXMonad.b a0), iv 1048576] [] (iv v1))] [2, 4, 6, 8, 10, 22, 2011] [(2, .d (iv a1)), (4, .d (iv a2)), (6, .d (iv a3)), (8, .d (iv a4)), (10, .d (.rp 1005 0)), (22, .d (iv v1)), bxB 2011 (eXMonad.b a0)] (cc0 ok5 (laws_szMonad_c a0 1048576 _ hv1) (by kernel_rfl) .nil) (by kernel_rfl) (by kernel_rfl) ?_
  refine tr_seq ?_
  refine tr_sr hT hm [] [2, 4, 6, 8, 10, 42, 2011] [(2, .d (iv a1)), (4, .d (iv a2)), (6, .d (iv a3)), (8, .d (iv a4)), (10, .d (.rp 1005 0)), (42, .d (bv (decide (v1 < 0)))), bxB 2011 (eXMonad.b a0)] .nil (by kernel_rfl) (by kernel_rfl) ?_
  rcases Bool.eq_false_or_eq_true (decide (v1 < 0)) with h2 | h2
  · have hM := ite_true' hM h2
    refine tr_condTe (e := decide (v1 < 0)) h2 (by kernel_rfl) ?_
    refine tr_sr hT hm [] [20] [(20, .d (bv true))] .nil (by kernel_rfl) (by kernel_rfl) ?_
    refine tr_ret (q_r (rg_r ?_))
    obtain rfl := Option.some.inj hM
    exact retg (names := []) .nil (by kernel_rfl)
  · have hM := ite_false' hM h2
    refine tr_condFe (e := decide (v1 < 0)) h2 (by kernel_rfl) ?_
    refine tr_skip (q_n ?_)
    obtain ⟨v3, hv3, hM⟩ := bind_some' hM
    obtain ⟨v4, hv4, hM⟩ := bind_some' hM
    refine tr_sr hT hm [(1, .call [] [] [.agg (eXMonad.b a0)] [] (.agg (eXMonad.o v3))), (6, .call (rsR 26000 (eXMonad.o v3)) [] [.agg (eXMonad.b v3), iv a1, iv a2, iv a3, iv a4] [] (.tup [iv v4.1, iv v4.2]))] [2, 4, 6, 8, 10, 24, 26, 2011] [(2, .d (iv a1)), (4, .d (iv a2)), (6, .d (iv a3)), (8, .d (iv a4)), (10, .d (.rp 1005 0)), (24, .d (iv v4.1)), (26, .d (iv v4.2)), bxB 2011 (eXMonad.b a0)] (cc0 ok7 (laws_toMonad_c a0 _ hv3) (by kernel_rfl) (cc (B := (rsR 26000 (eXMonad.o v3))) (ρ := []) (rB := (rsP 26000 (eXMonad.o v3))) ok6 (spec_BindArrows_c v3 a1 a2 a3 a4 _ hv4) (.cons (bor_rs eXMonad_r (q := 26000) (x := v3) (by kernel_rfl) (by kernel_rfl)) (.cons (.same rfl) (.cons (.same rfl) (.cons (.same rfl) (.cons (.same rfl) .nil))))) (.inr ⟨(nobor_tup (.cons .v (.cons .v .nil))), trivial⟩) .nil)) (by kernel_rfl) (by kernel_rfl) ?_
    refine tr_sr hT hm [(1, .call [] [] [.agg (eXMonad.b a0)] [] (.agg (eXMonad.o v3)))] [2, 4, 6, 8, 10, 24, 26, 28, 2011, 2029, 70003, 70005, 70007, 70009, 70013, 70015, 70017, 70019, 70021, 70023, 70025, 70027] ([(2, .d (iv a1)), (4, .d (iv a2)), (6, .d (iv a3)), (8, .d (iv a4)), (10, .d (.rp 1005 0)), (24, .d (iv v4.1)), (26, .d (iv v4.2)), (28, .d (.rp 1014 0)), bxB 2011 (eXMonad.b a0), bxO 2029 35000 (eXMonad.o v3)] ++ rsS 35000 (eXMonad.o v3)) (cc0 ok7 (laws_toMonad_c a0 _ hv3) (by kernel_rfl) (.cons (Nat.le_of_ble_eq_true (n := 14) (m := 14) rfl) .nil)) (by kernel_rfl) (by kernel_rfl) ?_
    obtain ⟨v5, hv5, hM⟩ := bind_some' hM
    refine tr_sr hT hm [(5, .call (rsR 35000 (eXMonad.o v3)) [] [.agg (eXMonad.b v3), iv a1, iv a2, iv a3, iv a4] [] (.tup [iv v5.1, iv v5.2]))] [10, 24, 26, 28, 30, 32, 2011, 2029, 70003, 70005, 70007, 70009, 70013, 70015, 70017, 70019, 70021, 70023, 70025, 70027] ([(10, .d (.rp 1005 0)), (24, .d (iv v4.1)), (26, .d (iv v4.2)), (28, .d (.rp 1014 0)), (30, .d (iv v5.1)), (32, .d (iv v5.2)), bxB 2011 (eXMonad.b a0), bxO 2029 35000 (eXMonad.o v3)] ++ rsS 35000 (eXMonad.o v3)) (cc (B := (rsR 35000 (eXMonad.o v3))) (ρ := []) (rB := (rsP 35000 (eXMonad.o v3))) ok8 (impl_BindArrows_c v3 a1 a2 a3 a4 _ hv5) (.cons (bor_rs eXMonad_r (q := 35000) (x := v3) (by kernel_rfl) (by kernel_rfl)) (.cons (.same rfl) (.cons (.same rfl) (.cons (.same rfl) (.cons (.same rfl) .nil))))) (.inr ⟨(nobor_tup (.cons .v (.cons .v .nil))), trivial⟩) .nil) (by kernel_rfl) (by kernel_rfl) ?_
    refine tr_seq ?_
    rcases Bool.eq_false_or_eq_true (v5.1 != v4.1) with h6 | h6
    · have hM := ite_true' hM h6
      refine tr_sr hT hm [(3, .val (bv true))] [10, 28, 100, 2011, 2029, 70003, 70005, 70007, 70009, 70013, 70015, 70017, 70019, 70021, 70023, 70025, 70027] ([(10, .d (.rp 1005 0)), (28, .d (.rp 1014 0)), (100, .d (bv true)), bxB 2011 (eXMonad.b a0), bxO 2029 35000 (eXMonad.o v3)] ++ rsS 35000 (eXMonad.o v3)) (.cons (congrArg (fun b => bv b) h6) .nil) (by kernel_rfl) (by kernel_rfl) ?_
      refine tr_condT (by kernel_rfl) ?_
      refine tr_sr hT hm [] [20] [(20, .d (bv false))] .nil (by kernel_rfl) (by kernel_rfl) ?_
      refine tr_ret (q_r (rg_r ?_))
      obtain rfl := Option.some.inj hM
      exact retg (names := []) .nil (by kernel_rfl)
    · have hM := ite_false' hM h6
      refine tr_sr hT hm [(3, .val (bv false))] [10, 28, 100, 2011, 2029, 70003, 70005, 70007, 70009, 70013, 70015, 70017, 70019, 70021, 70023, 70025, 70027] ([(10, .d (.rp 1005 0)), (28, .d (.rp 1014 0)), (100, .d (bv (v5.2 != v4.2))), bxB 2011 (eXMonad.b a0), bxO 2029 35000 (eXMonad.o v3)] ++ rsS 35000 (eXMonad.o v3)) (.cons (congrArg (fun b => bv b) h6) .nil) (by kernel_rfl) (by kernel_rfl) ?_
      rcases Bool.eq_false_or_eq_true (v5.2 != v4.2) with h7 | h7
      · have hM := ite_true' hM h7
        refine tr_condTe (e := v5.2 != v4.2) h7 (by kernel_rfl) ?_
        refine tr_sr hT hm [] [20] [(20, .d (bv false))] .nil (by kernel_rfl) (by kernel_rfl) ?_
        refine tr_ret (q_r (rg_r ?_))
        obtain rfl := Option.some.inj hM
        exact retg (names := []) .nil (by kernel_rfl)
      · have hM := ite_false' hM h7
        refine tr_condFe (e := v5.2 != v4.2) h7 (by kernel_rfl) ?_
        refine tr_skip (q_n ?_)
        refine tr_seq ?_
        obtain ⟨v8, hv8, hM⟩ := bind_some' hM
        refine tr_sr hT hm [(2, .call [] [] [.agg (eXMonad.b a0)] [] (.agg (eXMonad.o v3))), (3, .call (rsR 35000 (eXMonad.o v3) ++ rsR 55000 (eXMonad.o v3)) [] [.agg (eXMonad.b v3), .agg (eXMonad.b v3)] [] (bv v8))] [110] [(110, .d (bv (!v8)))] (cc0 ok7 (laws_toMonad_c a0 _ hv3) (by kernel_rfl) (cc (B := (rsR 35000 (eXMonad.o v3) ++ rsR 55000 (eXMonad.o v3))) (ρ := []) (rB := (rsP 35000 (eXMonad.o v3) ++ rsP 55000 (eXMonad.o v3))) ok9 (laws_eqMonad_c v3 v3 _ hv8) (.cons (bor_rs eXMonad_r (q := 35000) (x := v3) (by kernel_rfl) (by kernel_rfl)) (.cons (bor_rs eXMonad_r (q := 55000) (x := v3) (by kernel_rfl) (by kernel_rfl)) .nil)) (.inr ⟨.v, trivial⟩) .nil)) (by kernel_rfl) (by kernel_rfl) ?_
        rcases Bool.eq_false_or_eq_true v8 with h9 | h9
        · have hM := ite_true' hM h9
          refine tr_condFe (e := !v8) (congrArg not h9) (by kernel_rfl) ?_
          refine tr_skip (q_n ?_)
          refine tr_sr hT hm [] [20] [(20, .d (bv true))] .nil (by kernel_rfl) (by kernel_rfl) ?_
          refine tr_ret (rg_r ?_)
          obtain rfl := Option.some.inj hM
          exact retg (names := []) .nil (by kernel_rfl)
        · have hM := ite_false' hM h9
          refine tr_condTe (e := !v8) (congrArg not h9) (by kernel_rfl) ?_
          refine tr_sr hT hm [] [20] [(20, .d (bv false))] .nil (by kernel_rfl) (by kernel_rfl) ?_
          refine tr_ret (q_r (rg_r ?_))
          obtain rfl := Option.some.inj hM
          exact retg (names := []) .nil (by kernel_rfl)

end Go.Proofs.Ytfihadfjmbfpgaa.Ww35
