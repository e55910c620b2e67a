/- Walks. Printed by wip/gen. -/
import Derived.Test.YtknmijgiefkijaaDoorGxdAW0
namespace Go.Proofs.YtknmijgiefkijaaDoor.WdA
open Go.Gx

theorem ok15 : CallOk Tryd.prog 15 := callOk_of Tryd.func15 (by kernel_rfl) (by kernel_rfl)
theorem impl_Schema_isSchema_c (a0 : XSchema) (r : Bool) (hM : M.impl_Schema_isSchema a0 = some r) :
    FnC Tryd.prog 15 [] [.pt (eXSchema.b a0) 0] [] (bv r) := by
  refine fnc_startG (N := 128) (np := 500) hT Tryd.func15 rfl rfl (by kernel_rfl) ?_
  unfold M.impl_Schema_isSchema at hM
  refine tr_start (ks := [0]) (st' := [(0, .d (.pt (eXSchema.b a0) 0))]) (by kernel_rfl) ?_
  refine tr_sr hT hm [] [0] [(0, .d (.pt (eXSchema.b a0) 0))] .nil (by kernel_rfl) (by kernel_rfl) ?_
  refine tr_seq ?_
  obtain ⟨v1, hv1, hM⟩ := bind_some' hM
  rcases Bool.eq_false_or_eq_true v1 with h2 | h2
  · have hM := ite_true' hM h2
    rcases Bool.eq_false_or_eq_true (decide ((a0.From.length : Int) > 8)) with h3 | h3
    · have hM := ite_true' hM h3
      refine tr_sr hT hm [(4, .call [] [] [iv a0.Nodes, iv 0, iv 8] [] (bv v1)), (6, .val (bv false)), (14, .val (bv true))] [0, 120] [(0, .d (.pt (eXSchema.b a0) 0)), (120, .d (bv true))] (cc0 ok27 (impl_inRange_c a0.Nodes 0 8 _ hv1) (by kernel_rfl) (.cons (congrArg (fun b => bv b) (congrArg not h2)) (.cons (congrArg (fun b => bv b) h3) .nil))) (by kernel_rfl) (by kernel_rfl) ?_
      refine tr_condT (by kernel_rfl) ?_
      refine tr_sr hT hm [] [4] [(4, .d (bv false))] .nil (by kernel_rfl) (by kernel_rfl) ?_
      refine tr_ret (q_r (rg_r ?_))
      obtain rfl := Option.some.inj hM
      exact retg (names := []) .nil (by kernel_rfl)
    · have hM := ite_false' hM h3
      rcases Bool.eq_false_or_eq_true ((a0.To.length : Int) != (a0.From.length : Int)) with h4 | h4
      · have hM := ite_true' hM h4
        refine tr_sr hT hm [(4, .call [] [] [iv a0.Nodes, iv 0, iv 8] [] (bv v1)), (6, .val (bv false)), (14, .val (bv false)), (27, .val (bv true))] [0, 120] [(0, .d (.pt (eXSchema.b a0) 0)), (120, .d (bv true))] (cc0 ok27 (impl_inRange_c a0.Nodes 0 8 _ hv1) (by kernel_rfl) (.cons (congrArg (fun b => bv b) (congrArg not h2)) (.cons (congrArg (fun b => bv b) h3) (.cons (congrArg (fun b => bv b) h4) .nil)))) (by kernel_rfl) (by kernel_rfl) ?_
        refine tr_condT (by kernel_rfl) ?_
        refine tr_sr hT hm [] [4] [(4, .d (bv false))] .nil (by kernel_rfl) (by kernel_rfl) ?_
        refine tr_ret (q_r (rg_r ?_))
        obtain rfl := Option.some.inj hM
        exact retg (names := []) .nil (by kernel_rfl)
      · have hM := ite_false' hM h4
        obtain ⟨v5, hv5, hM⟩ := bind_some' hM
        rcases Bool.eq_false_or_eq_true v5 with h6 | h6
        · have hM := ite_true' hM h6
          obtain ⟨v7, hv7, hM⟩ := bind_some' hM
          refine tr_sr hT hm [(4, .call [] [] [iv a0.Nodes, iv 0, iv 8] [] (bv v1)), (6, .val (bv false)), (14, .val (bv false)), (27, .val (bv false)), (36, .call [] [] [.sl a0.From.length 0 (a0.From.flatMap eI.b), iv a0.Nodes] [] (bv v5)), (39, .val (bv false)), (48, .call [] [] [.sl a0.To.length 0 (a0.To.flatMap eI.b), iv a0.Nodes] [] (bv v7))] [0, 120] [(0, .d (.pt (eXSchema.b a0) 0)), (120, .d (bv (!v7)))] (cc0 ok27 (impl_inRange_c a0.Nodes 0 8 _ hv1) (by kernel_rfl) (.cons (congrArg (fun b => bv b) (congrArg not h2)) (.cons (congrArg (fun b => bv b) h3) (.cons (congrArg (fun b => bv b) h4) (cc0 ok28 (impl_within_c a0.From a0.Nodes _ hv5) (by kernel_rfl) (.cons (congrArg (fun b => bv b) (congrArg not h6)) (cc0 ok28 (impl_within_c a0.To a0.Nodes _ hv7) (by kernel_rfl) .nil))))))) (by kernel_rfl) (by kernel_rfl) ?_
          rcases Bool.eq_false_or_eq_true v7 with h8 | h8
          · have hM := ite_true' hM h8
            refine tr_condFe (e := !v7) (congrArg not h8) (by kernel_rfl) ?_
            refine tr_skip (q_n ?_)
            refine tr_seq ?_
            rcases Bool.eq_false_or_eq_true (decide ((a0.Left.length : Int) > 8)) with h9 | h9
            · have hM := ite_true' hM h9
              refine tr_sr hT hm [(6, .val (bv true))] [0, 158] [(0, .d (.pt (eXSchema.b a0) 0)), (158, .d (bv true))] (.cons (congrArg (fun b => bv b) h9) .nil) (by kernel_rfl) (by kernel_rfl) ?_
              refine tr_condT (by kernel_rfl) ?_
              refine tr_sr hT hm [] [4] [(4, .d (bv false))] .nil (by kernel_rfl) (by kernel_rfl) ?_
              refine tr_ret (q_r (rg_r ?_))
              obtain rfl := Option.some.inj hM
              exact retg (names := []) .nil (by kernel_rfl)
            · have hM := ite_false' hM h9
              refine tr_sr hT hm [(6, .val (bv false))] [0, 158] [(0, .d (.pt (eXSchema.b a0) 0)), (158, .d (bv ((a0.Right.length : Int) != (a0.Left.length : Int))))] (.cons (congrArg (fun b => bv b) h9) .nil) (by kernel_rfl) (by kernel_rfl) ?_
              rcases Bool.eq_false_or_eq_true ((a0.Right.length : Int) != (a0.Left.length : Int)) with h10 | h10
              · have hM := ite_true' hM h10
                refine tr_condTe (e := (a0.Right.length : Int) != (a0.Left.length : Int)) h10 (by kernel_rfl) ?_
                refine tr_sr hT hm [] [4] [(4, .d (bv false))] .nil (by kernel_rfl) (by kernel_rfl) ?_
                refine tr_ret (q_r (rg_r ?_))
                obtain rfl := Option.some.inj hM
                exact retg (names := []) .nil (by kernel_rfl)
              · have hM := ite_false' hM h10
                refine tr_condFe (e := (a0.Right.length : Int) != (a0.Left.length : Int)) h10 (by kernel_rfl) ?_
                refine tr_skip (q_n ?_)
                refine tr_seq ?_
                refine tr_sr hT hm [] [0, 166, 168, 170] [(0, .d (.pt (eXSchema.b a0) 0)), (166, .d (.sl a0.Left.length 0 (a0.Left.flatMap eXPath.b))), (168, .d (iv (a0.Left.length : Int))), (170, .d (iv 0))] .nil (by kernel_rfl) (by kernel_rfl) ?_
                refine tr_block ?_
                refine tr_iterS (fun (s11 : Int) => [(0, .d (.pt (eXSchema.b a0) 0)), (166, .d (.sl a0.Left.length 0 (a0.Left.flatMap eXPath.b))), (168, .d (iv (a0.Left.length : Int))), (170, .d (iv s11))]) 0 [0, 166, 168, 170] (by kernel_rfl) hM ?_
                intro n14 next12 ih13 s11 hM
                refine tr_sr hT hm [] [0, 166, 168, 170, 172] [(0, .d (.pt (eXSchema.b a0) 0)), (166, .d (.sl a0.Left.length 0 (a0.Left.flatMap eXPath.b))), (168, .d (iv (a0.Left.length : Int))), (170, .d (iv s11)), (172, .d (bv (decide (s11 < (a0.Left.length : Int)))))] .nil (by kernel_rfl) (by kernel_rfl) ?_
                refine tr_seq ?_
                rcases Bool.eq_false_or_eq_true (decide (s11 < (a0.Left.length : Int))) with h15 | h15
                · have hM := ite_true' hM h15
                  refine tr_condTe (e := decide (s11 < (a0.Left.length : Int))) h15 (by kernel_rfl) ?_
                  refine tr_skip (q_n ?_)
                  refine tr_seq ?_
                  refine tr_block ?_
                  obtain ⟨y16, hy16, hM⟩ := bind_some' hM
                  have hy16' := idx_some hy16
                  refine tr_sr hT hm [(2, .val (.agg [iv y16.Start, .sl y16.Edges.length 0 (y16.Edges.flatMap eI.b)]))] [0, 6, 8, 166, 168, 170, 2009] [(0, .d (.pt (eXSchema.b a0) 0)), (6, .d (iv s11)), (8, .d (.rp 1004 0)), (166, .d (.sl a0.Left.length 0 (a0.Left.flatMap eXPath.b))), (168, .d (iv (a0.Left.length : Int))), (170, .d (iv s11)), bxB 2009 (eXPath.b y16)] (.cons hy16'.1 (.cons hy16'.2.1 (.cons (sub_b eXPath_ok hy16'.2.2) (.cons (Nat.le_of_ble_eq_true (n := 2) (m := 2) rfl) .nil)))) (by kernel_rfl) (by kernel_rfl) ?_
                  obtain ⟨y17, hy17, hM⟩ := bind_some' hM
                  have hy17' := idx_some hy17
                  refine tr_sr hT hm [(6, .val (.agg [iv y17.Start, .sl y17.Edges.length 0 (y17.Edges.flatMap eI.b)]))] [0, 8, 10, 166, 168, 170, 2009, 2011] [(0, .d (.pt (eXSchema.b a0) 0)), (8, .d (.rp 1004 0)), (10, .d (.rp 1005 0)), (166, .d (.sl a0.Left.length 0 (a0.Left.flatMap eXPath.b))), (168, .d (iv (a0.Left.length : Int))), (170, .d (iv s11)), bxB 2009 (eXPath.b y16), bxB 2011 (eXPath.b y17)] (.cons hy17'.1 (.cons hy17'.2.1 (.cons (sub_b eXPath_ok hy17'.2.2) (.cons (Nat.le_of_ble_eq_true (n := 2) (m := 2) rfl) .nil)))) (by kernel_rfl) (by kernel_rfl) ?_
                  obtain ⟨v18, hv18, hM⟩ := bind_some' hM
                  refine tr_sr hT hm [(2, .call [] [] [.pt (eXSchema.b a0) 0, .agg (eXPath.b y16)] [] (.tup [iv v18.1, bv v18.2]))] [0, 8, 10, 12, 14, 166, 168, 170, 2009, 2011] [(0, .d (.pt (eXSchema.b a0) 0)), (8, .d (.rp 1004 0)), (10, .d (.rp 1005 0)), (12, .d (iv v18.1)), (14, .d (bv v18.2)), (166, .d (.sl a0.Left.length 0 (a0.Left.flatMap eXPath.b))), (168, .d (iv (a0.Left.length : Int))), (170, .d (iv s11)), bxB 2009 (eXPath.b y16), bxB 2011 (eXPath.b y17)] (cc0 ok29 (impl_Schema_end_c a0 y16 _ hv18) (by kernel_rfl) .nil) (by kernel_rfl) (by kernel_rfl) ?_
                  obtain ⟨v19, hv19, hM⟩ := bind_some' hM
                  refine tr_sr hT hm [(2, .call [] [] [.pt (eXSchema.b a0) 0, .agg (eXPath.b y17)] [] (.tup [iv v19.1, bv v19.2]))] [0, 8, 10, 12, 14, 16, 18, 166, 168, 170, 2009, 2011] [(0, .d (.pt (eXSchema.b a0) 0)), (8, .d (.rp 1004 0)), (10, .d (.rp 1005 0)), (12, .d (iv v18.1)), (14, .d (bv v18.2)), (16, .d (iv v19.1)), (18, .d (bv v19.2)), (166, .d (.sl a0.Left.length 0 (a0.Left.flatMap eXPath.b))), (168, .d (iv (a0.Left.length : Int))), (170, .d (iv s11)), bxB 2009 (eXPath.b y16), bxB 2011 (eXPath.b y17)] (cc0 ok29 (impl_Schema_end_c a0 y17 _ hv19) (by kernel_rfl) .nil) (by kernel_rfl) (by kernel_rfl) ?_
                  rcases Bool.eq_false_or_eq_true v18.2 with h20 | h20
                  · have hM := ite_true' hM h20
                    rcases Bool.eq_false_or_eq_true v19.2 with h21 | h21
                    · have hM := ite_true' hM h21
                      rcases Bool.eq_false_or_eq_true (y16.Start != y17.Start) with h22 | h22
                      · have hM := ite_true' hM h22
                        refine tr_sr hT hm [(2, .val (bv false)), (6, .val (bv false)), (13, .val (bv true))] [0, 166, 168, 170, 252] [(0, .d (.pt (eXSchema.b a0) 0)), (166, .d (.sl a0.Left.length 0 (a0.Left.flatMap eXPath.b))), (168, .d (iv (a0.Left.length : Int))), (170, .d (iv s11)), (252, .d (bv true))] (.cons (congrArg (fun b => bv b) (congrArg not h20)) (.cons (congrArg (fun b => bv b) (congrArg not h21)) (.cons (congrArg (fun b => bv b) h22) .nil))) (by kernel_rfl) (by kernel_rfl) ?_
                        refine tr_condT (by kernel_rfl) ?_
                        refine tr_sr hT hm [] [4] [(4, .d (bv false))] .nil (by kernel_rfl) (by kernel_rfl) ?_
                        refine tr_ret (b_r (q_r (l_r (b_r (q_r (rg_r ?_))))))
                        obtain rfl := Option.some.inj hM
                        exact retg (names := []) .nil (by kernel_rfl)
                      · have hM := ite_false' hM h22
                        refine tr_sr hT hm [(2, .val (bv false)), (6, .val (bv false)), (13, .val (bv false))] [0, 166, 168, 170, 252] [(0, .d (.pt (eXSchema.b a0) 0)), (166, .d (.sl a0.Left.length 0 (a0.Left.flatMap eXPath.b))), (168, .d (iv (a0.Left.length : Int))), (170, .d (iv s11)), (252, .d (bv (v18.1 != v19.1)))] (.cons (congrArg (fun b => bv b) (congrArg not h20)) (.cons (congrArg (fun b => bv b) (congrArg not h21)) (.cons (congrArg (fun b => bv b) h22) .nil))) (by kernel_rfl) (by kernel_rfl) ?_
                        rcases Bool.eq_false_or_eq_true (v18.1 != v19.1) with h23 | h23
                        · have hM := ite_true' hM h23
                          refine tr_condTe (e := v18.1 != v19.1) h23 (by kernel_rfl) ?_
                          refine tr_sr hT hm [] [4] [(4, .d (bv false))] .nil (by kernel_rfl) (by kernel_rfl) ?_
                          refine tr_ret (b_r (q_r (l_r (b_r (q_r (rg_r ?_))))))
                          obtain rfl := Option.some.inj hM
                          exact retg (names := []) .nil (by kernel_rfl)
                        · have hM := ite_false' hM h23
                          refine tr_condFe (e := v18.1 != v19.1) h23 (by kernel_rfl) ?_
                          refine tr_skip (b_n (q_n ?_))
                          refine tr_r hT hm [] [0, 166, 168, 170] [(0, .d (.pt (eXSchema.b a0) 0)), (166, .d (.sl a0.Left.length 0 (a0.Left.flatMap eXPath.b))), (168, .d (iv (a0.Left.length : Int))), (170, .d (iv (IntKind.i64.wrap (s11 + 1))))] .nil (by kernel_rfl) (by kernel_rfl) (l_n ?_)
                          exact trl_start (ks := [0, 166, 168, 170]) (by kernel_rfl) (ih13 (IntKind.i64.wrap (s11 + 1)) hM)
                    · have hM := ite_false' hM h21
                      refine tr_sr hT hm [(2, .val (bv false)), (6, .val (bv true))] [0, 166, 168, 170, 252] [(0, .d (.pt (eXSchema.b a0) 0)), (166, .d (.sl a0.Left.length 0 (a0.Left.flatMap eXPath.b))), (168, .d (iv (a0.Left.length : Int))), (170, .d (iv s11)), (252, .d (bv true))] (.cons (congrArg (fun b => bv b) (congrArg not h20)) (.cons (congrArg (fun b => bv b) (congrArg not h21)) .nil)) (by kernel_rfl) (by kernel_rfl) ?_
                      refine tr_condT (by kernel_rfl) ?_
                      refine tr_sr hT hm [] [4] [(4, .d (bv false))] .nil (by kernel_rfl) (by kernel_rfl) ?_
                      refine tr_ret (b_r (q_r (l_r (b_r (q_r (rg_r ?_))))))
                      obtain rfl := Option.some.inj hM
                      exact retg (names := []) .nil (by kernel_rfl)
                  · have hM := ite_false' hM h20
                    refine tr_sr hT hm [(2, .val (bv true))] [0, 166, 168, 170, 252] [(0, .d (.pt (eXSchema.b a0) 0)), (166, .d (.sl a0.Left.length 0 (a0.Left.flatMap eXPath.b))), (168, .d (iv (a0.Left.length : Int))), (170, .d (iv s11)), (252, .d (bv true))] (.cons (congrArg (fun b => bv b) (congrArg not h20)) .nil) (by kernel_rfl) (by kernel_rfl) ?_
                    refine tr_condT (by kernel_rfl) ?_
                    refine tr_sr hT hm [] [4] [(4, .d (bv false))] .nil (by kernel_rfl) (by kernel_rfl) ?_
                    refine tr_ret (b_r (q_r (l_r (b_r (q_r (rg_r ?_))))))
                    obtain rfl := Option.some.inj hM
                    exact retg (names := []) .nil (by kernel_rfl)
                · have hM := ite_false' hM h15
                  refine tr_condFe (e := decide (s11 < (a0.Left.length : Int))) h15 (by kernel_rfl) ?_
                  refine tr_exit (q_x (l_x (b_h (q_n ?_))))
                  refine tr_sr hT hm [] [4] [(4, .d (bv true))] .nil (by kernel_rfl) (by kernel_rfl) ?_
                  refine tr_ret (rg_r ?_)
                  obtain rfl := Option.some.inj hM
                  exact retg (names := []) .nil (by kernel_rfl)
          · have hM := ite_false' hM h8
            refine tr_condTe (e := !v7) (congrArg not h8) (by kernel_rfl) ?_
            refine tr_sr hT hm [] [4] [(4, .d (bv false))] .nil (by kernel_rfl) (by kernel_rfl) ?_
            refine tr_ret (q_r (rg_r ?_))
            obtain rfl := Option.some.inj hM
            exact retg (names := []) .nil (by kernel_rfl)
        · have hM := ite_false' hM h6
          refine tr_sr hT hm [(4, .call [] [] [iv a0.Nodes, iv 0, iv 8] [] (bv v1)), (6, .val (bv false)), (14, .val (bv false)), (27, .val (bv false)), (36, .call [] [] [.sl a0.From.length 0 (a0.From.flatMap eI.b), iv a0.Nodes] [] (bv v5)), (39, .val (bv true))] [0, 120] [(0, .d (.pt (eXSchema.b a0) 0)), (120, .d (bv true))] (cc0 ok27 (impl_inRange_c a0.Nodes 0 8 _ hv1) (by kernel_rfl) (.cons (congrArg (fun b => bv b) (congrArg not h2)) (.cons (congrArg (fun b => bv b) h3) (.cons (congrArg (fun b => bv b) h4) (cc0 ok28 (impl_within_c a0.From a0.Nodes _ hv5) (by kernel_rfl) (.cons (congrArg (fun b => bv b) (congrArg not h6)) .nil)))))) (by kernel_rfl) (by kernel_rfl) ?_
          refine tr_condT (by kernel_rfl) ?_
          refine tr_sr hT hm [] [4] [(4, .d (bv false))] .nil (by kernel_rfl) (by kernel_rfl) ?_
          refine tr_ret (q_r (rg_r ?_))
          obtain rfl := Option.some.inj hM
          exact retg (names := []) .nil (by kernel_rfl)
  · have hM := ite_false' hM h2
    refine tr_sr hT hm [(4, .call [] [] [iv a0.Nodes, iv 0, iv 8] [] (bv v1)), (6, .val (bv true))] [0, 120] [(0, .d (.pt (eXSchema.b a0) 0)), (120, .d (bv true))] (cc0 ok27 (impl_inRange_c a0.Nodes 0 8 _ hv1) (by kernel_rfl) (.cons (congrArg (fun b => bv b) (congrArg not h2)) .nil)) (by kernel_rfl) (by kernel_rfl) ?_
    refine tr_condT (by kernel_rfl) ?_
    refine tr_sr hT hm [] [4] [(4, .d (bv false))] .nil (by kernel_rfl) (by kernel_rfl) ?_
    refine tr_ret (q_r (rg_r ?_))
    obtain rfl := Option.some.inj hM
    exact retg (names := []) .nil (by kernel_rfl)

theorem ok17 : CallOk Tryd.prog 17 := callOk_of Tryd.func17 (by kernel_rfl) (by kernel_rfl)
theorem laws_eqInt64S_c (a0 : List Int) (a1 : List Int) (r : Bool) (hM : M.laws_eqInt64S a0 a1 = some r) :
    FnC Tryd.prog 17 [] [.sl a0.length 0 (a0.flatMap eI.b), .sl a1.length 0 (a1.flatMap eI.b)] [] (bv r) := by
  refine fnc_startG (N := 26) (np := 500) hT Tryd.func17 rfl rfl (by kernel_rfl) ?_
  unfold M.laws_eqInt64S at hM
  refine tr_start (ks := [0, 2]) (st' := [(0, .d (.sl a0.length 0 (a0.flatMap eI.b))), (2, .d (.sl a1.length 0 (a1.flatMap eI.b)))]) (by kernel_rfl) ?_
  refine tr_sr hT hm [] [0, 2] [(0, .d (.sl a0.length 0 (a0.flatMap eI.b))), (2, .d (.sl a1.length 0 (a1.flatMap eI.b)))] .nil (by kernel_rfl) (by kernel_rfl) ?_
  refine tr_seq ?_
  refine tr_sr hT hm [] [0, 2, 20] [(0, .d (.sl a0.length 0 (a0.flatMap eI.b))), (2, .d (.sl a1.length 0 (a1.flatMap eI.b))), (20, .d (bv ((a0.length : Int) != (a1.length : Int))))] .nil (by kernel_rfl) (by kernel_rfl) ?_
  rcases Bool.eq_false_or_eq_true ((a0.length : Int) != (a1.length : Int)) with h1 | h1
  · have hM := ite_true' hM h1
    refine tr_condTe (e := (a0.length : Int) != (a1.length : Int)) h1 (by kernel_rfl) ?_
    refine tr_sr hT hm [] [8] [(8, .d (bv false))] .nil (by kernel_rfl) (by kernel_rfl) ?_
    refine tr_ret (q_r (rg_r ?_))
    obtain rfl := Option.some.inj hM
    exact retg (names := []) .nil (by kernel_rfl)
  · have hM := ite_false' hM h1
    refine tr_condFe (e := (a0.length : Int) != (a1.length : Int)) h1 (by kernel_rfl) ?_
    refine tr_skip (q_n ?_)
    refine tr_seq ?_
    refine tr_sr hT hm [] [0, 2, 10] [(0, .d (.sl a0.length 0 (a0.flatMap eI.b))), (2, .d (.sl a1.length 0 (a1.flatMap eI.b))), (10, .d (iv 0))] .nil (by kernel_rfl) (by kernel_rfl) ?_
    refine tr_block ?_
    refine tr_iterS (fun (s2 : Int) => [(0, .d (.sl a0.length 0 (a0.flatMap eI.b))), (2, .d (.sl a1.length 0 (a1.flatMap eI.b))), (10, .d (iv s2))]) 0 [0, 2, 10] (by kernel_rfl) hM ?_
    intro n5 next3 ih4 s2 hM
    refine tr_seq ?_
    refine tr_sr hT hm [] [0, 2, 10, 28] [(0, .d (.sl a0.length 0 (a0.flatMap eI.b))), (2, .d (.sl a1.length 0 (a1.flatMap eI.b))), (10, .d (iv s2)), (28, .d (bv (decide (s2 < (a0.length : Int)))))] .nil (by kernel_rfl) (by kernel_rfl) ?_
    rcases Bool.eq_false_or_eq_true (decide (s2 < (a0.length : Int))) with h6 | h6
    · have hM := ite_true' hM h6
      refine tr_condTe (e := decide (s2 < (a0.length : Int))) h6 (by kernel_rfl) ?_
      refine tr_skip (q_n ?_)
      refine tr_seq ?_
      refine tr_block ?_
      obtain ⟨y7, hy7, hM⟩ := bind_some' hM
      have hy7' := idx_some hy7
      obtain ⟨y8, hy8, hM⟩ := bind_some' hM
      have hy8' := idx_some hy8
      refine tr_sr hT hm [(3, .val (iv y7)), (7, .val (iv y8))] [0, 2, 10, 50] [(0, .d (.sl a0.length 0 (a0.flatMap eI.b))), (2, .d (.sl a1.length 0 (a1.flatMap eI.b))), (10, .d (iv s2)), (50, .d (bv (y7 != y8)))] (.cons hy7'.1 (.cons hy7'.2.1 (.cons (at_b0 eI_ok hy7'.2.2 (d := iv y7) (by kernel_rfl)) (.cons hy8'.1 (.cons hy8'.2.1 (.cons (at_b0 eI_ok hy8'.2.2 (d := iv y8) (by kernel_rfl)) .nil)))))) (by kernel_rfl) (by kernel_rfl) ?_
      rcases Bool.eq_false_or_eq_true (y7 != y8) with h9 | h9
      · have hM := ite_true' hM h9
        refine tr_condTe (e := y7 != y8) h9 (by kernel_rfl) ?_
        refine tr_sr hT hm [] [8] [(8, .d (bv false))] .nil (by kernel_rfl) (by kernel_rfl) ?_
        refine tr_ret (b_r (q_r (l_r (b_r (q_r (rg_r ?_))))))
        obtain rfl := Option.some.inj hM
        exact retg (names := []) .nil (by kernel_rfl)
      · have hM := ite_false' hM h9
        refine tr_condFe (e := y7 != y8) h9 (by kernel_rfl) ?_
        refine tr_skip (b_n (q_n ?_))
        refine tr_r hT hm [] [0, 2, 10] [(0, .d (.sl a0.length 0 (a0.flatMap eI.b))), (2, .d (.sl a1.length 0 (a1.flatMap eI.b))), (10, .d (iv (IntKind.i64.wrap (s2 + 1))))] .nil (by kernel_rfl) (by kernel_rfl) (l_n ?_)
        exact trl_start (ks := [0, 2, 10]) (by kernel_rfl) (ih4 (IntKind.i64.wrap (s2 + 1)) hM)
    · have hM := ite_false' hM h6
      refine tr_condFe (e := decide (s2 < (a0.length : Int))) h6 (by kernel_rfl) ?_
      refine tr_exit (q_x (l_x (b_h (q_n ?_))))
      refine tr_sr hT hm [] [8] [(8, .d (bv true))] .nil (by kernel_rfl) (by kernel_rfl) ?_
      refine tr_ret (rg_r ?_)
      obtain rfl := Option.some.inj hM
      exact retg (names := []) .nil (by kernel_rfl)

theorem ok31 : CallOk Tryd.prog 31 := callOk_of Tryd.func31 (by kernel_rfl) (by kernel_rfl)
theorem laws_eqPath_c (a0 : XPath) (a1 : XPath) (r : Bool) (hM : M.laws_eqPath a0 a1 = some r) :
    FnC Tryd.prog 31 [] [.agg (eXPath.b a0), .agg (eXPath.b a1)] [] (bv r) := by
  refine fnc_startG (N := 16) (np := 500) hT Tryd.func31 rfl rfl (by kernel_rfl) ?_
  unfold M.laws_eqPath at hM
  refine tr_start (ks := [0, 2]) (st' := [(0, .d (.agg (eXPath.b a0))), (2, .d (.agg (eXPath.b a1)))]) (by kernel_rfl) ?_
  refine tr_sr hT hm [] [4, 6, 2005, 2007] [(4, .d (.rp 1002 0)), (6, .d (.rp 1003 0)), bxB 2005 (eXPath.b a0), bxB 2007 (eXPath.b a1)] .nil (by kernel_rfl) (by kernel_rfl) ?_
  refine tr_seq ?_
  refine tr_sr hT hm [] [4, 6, 18, 2005, 2007] [(4, .d (.rp 1002 0)), (6, .d (.rp 1003 0)), (18, .d (bv (a0.Start != a1.Start))), bxB 2005 (eXPath.b a0), bxB 2007 (eXPath.b a1)] .nil (by kernel_rfl) (by kernel_rfl) ?_
  rcases Bool.eq_false_or_eq_true (a0.Start != a1.Start) with h1 | h1
  · have hM := ite_true' hM h1
    refine tr_condTe (e := a0.Start != a1.Start) h1 (by kernel_rfl) ?_
    refine tr_sr hT hm [] [8] [(8, .d (bv false))] .nil (by kernel_rfl) (by kernel_rfl) ?_
    refine tr_ret (q_r (rg_r ?_))
    obtain rfl := Option.some.inj hM
    exact retg (names := []) .nil (by kernel_rfl)
  · have hM := ite_false' hM h1
    refine tr_condFe (e := a0.Start != a1.Start) h1 (by kernel_rfl) ?_
    refine tr_skip (q_n ?_)
    refine tr_seq ?_
    obtain ⟨v2, hv2, hM⟩ := bind_some' hM
    refine tr_sr hT hm [(4, .call [] [] [.sl a0.Edges.length 0 (a0.Edges.flatMap eI.b), .sl a1.Edges.length 0 (a1.Edges.flatMap eI.b)] [] (bv v2))] [30] [(30, .d (bv (!v2)))] (cc0 ok17 (laws_eqInt64S_c a0.Edges a1.Edges _ hv2) (by kernel_rfl) .nil) (by kernel_rfl) (by kernel_rfl) ?_
    rcases Bool.eq_false_or_eq_true v2 with h3 | h3
    · have hM := ite_true' hM h3
      refine tr_condFe (e := !v2) (congrArg not h3) (by kernel_rfl) ?_
      refine tr_skip (q_n ?_)
      refine tr_sr hT hm [] [8] [(8, .d (bv true))] .nil (by kernel_rfl) (by kernel_rfl) ?_
      refine tr_ret (rg_r ?_)
      obtain rfl := Option.some.inj hM
      exact retg (names := []) .nil (by kernel_rfl)
    · have hM := ite_false' hM h3
      refine tr_condTe (e := !v2) (congrArg not h3) (by kernel_rfl) ?_
      refine tr_sr hT hm [] [8] [(8, .d (bv false))] .nil (by kernel_rfl) (by kernel_rfl) ?_
      refine tr_ret (q_r (rg_r ?_))
      obtain rfl := Option.some.inj hM
      exact retg (names := []) .nil (by kernel_rfl)

theorem ok18 : CallOk Tryd.prog 18 := callOk_of Tryd.func18 (by kernel_rfl) (by kernel_rfl)
theorem laws_eqPathS_c (a0 : List XPath) (a1 : List XPath) (r : Bool) (hM : M.laws_eqPathS a0 a1 = some r) :
    FnC Tryd.prog 18 [] [.sl a0.length 0 (a0.flatMap eXPath.b), .sl a1.length 0 (a1.flatMap eXPath.b)] [] (bv r) := by
  refine fnc_startG (N := 27) (np := 500) hT Tryd.func18 rfl rfl (by kernel_rfl) ?_
  unfold M.laws_eqPathS at hM
  refine tr_start (ks := [0, 2]) (st' := [(0, .d (.sl a0.length 0 (a0.flatMap eXPath.b))), (2, .d (.sl a1.length 0 (a1.flatMap eXPath.b)))]) (by kernel_rfl) ?_
  refine tr_sr hT hm [] [0, 2] [(0, .d (.sl a0.length 0 (a0.flatMap eXPath.b))), (2, .d (.sl a1.length 0 (a1.flatMap eXPath.b)))] .nil (by kernel_rfl) (by kernel_rfl) ?_
  refine tr_seq ?_
  refine tr_sr hT hm [] [0, 2, 20] [(0, .d (.sl a0.length 0 (a0.flatMap eXPath.b))), (2, .d (.sl a1.length 0 (a1.flatMap eXPath.b))), (20, .d (bv ((a0.length : Int) != (a1.length : Int))))] .nil (by kernel_rfl) (by kernel_rfl) ?_
  rcases Bool.eq_false_or_eq_true ((a0.length : Int) != (a1.length : Int)) with h1 | h1
  · have hM := ite_true' hM h1
    refine tr_condTe (e := (a0.length : Int) != (a1.length : Int)) h1 (by kernel_rfl) ?_
    refine tr_sr hT hm [] [8] [(8, .d (bv false))] .nil (by kernel_rfl) (by kernel_rfl) ?_
    refine tr_ret (q_r (rg_r ?_))
    obtain rfl := Option.some.inj hM
    exact retg (names := []) .nil (by kernel_rfl)
  · have hM := ite_false' hM h1
    refine tr_condFe (e := (a0.length : Int) != (a1.length : Int)) h1 (by kernel_rfl) ?_
    refine tr_skip (q_n ?_)
    refine tr_seq ?_
    refine tr_sr hT hm [] [0, 2, 10] [(0, .d (.sl a0.length 0 (a0.flatMap eXPath.b))), (2, .d (.sl a1.length 0 (a1.flatMap eXPath.b))), (10, .d (iv 0))] .nil (by kernel_rfl) (by kernel_rfl) ?_
    refine tr_block ?_
    refine tr_iterS (fun (s2 : Int) => [(0, .d (.sl a0.length 0 (a0.flatMap eXPath.b))), (2, .d (.sl a1.length 0 (a1.flatMap eXPath.b))), (10, .d (iv s2))]) 0 [0, 2, 10] (by kernel_rfl) hM ?_
    intro n5 next3 ih4 s2 hM
    refine tr_seq ?_
    refine tr_sr hT hm [] [0, 2, 10, 28] [(0, .d (.sl a0.length 0 (a0.flatMap eXPath.b))), (2, .d (.sl a1.length 0 (a1.flatMap eXPath.b))), (10, .d (iv s2)), (28, .d (bv (decide (s2 < (a0.length : Int)))))] .nil (by kernel_rfl) (by kernel_rfl) ?_
    rcases Bool.eq_false_or_eq_true (decide (s2 < (a0.length : Int))) with h6 | h6
    · have hM := ite_true' hM h6
      refine tr_condTe (e := decide (s2 < (a0.length : Int))) h6 (by kernel_rfl) ?_
      refine tr_skip (q_n ?_)
      refine tr_seq ?_
      refine tr_block ?_
      obtain ⟨y7, hy7, hM⟩ := bind_some' hM
      have hy7' := idx_some hy7
      obtain ⟨y8, hy8, hM⟩ := bind_some' hM
      have hy8' := idx_some hy8
      obtain ⟨v9, hv9, hM⟩ := bind_some' hM
      refine tr_sr hT hm [(3, .val (.agg [iv y7.Start, .sl y7.Edges.length 0 (y7.Edges.flatMap eI.b)])), (7, .val (.agg [iv y8.Start, .sl y8.Edges.length 0 (y8.Edges.flatMap eI.b)])), (8, .call [] [] [.agg (eXPath.b y7), .agg (eXPath.b y8)] [] (bv v9))] [0, 2, 10, 52] [(0, .d (.sl a0.length 0 (a0.flatMap eXPath.b))), (2, .d (.sl a1.length 0 (a1.flatMap eXPath.b))), (10, .d (iv s2)), (52, .d (bv (!v9)))] (.cons hy7'.1 (.cons hy7'.2.1 (.cons (sub_b eXPath_ok hy7'.2.2) (.cons hy8'.1 (.cons hy8'.2.1 (.cons (sub_b eXPath_ok hy8'.2.2) (cc0 ok31 (laws_eqPath_c y7 y8 _ hv9) (by kernel_rfl) .nil))))))) (by kernel_rfl) (by kernel_rfl) ?_
      rcases Bool.eq_false_or_eq_true v9 with h10 | h10
      · have hM := ite_true' hM h10
        refine tr_condFe (e := !v9) (congrArg not h10) (by kernel_rfl) ?_
        refine tr_skip (b_n (q_n ?_))
        refine tr_r hT hm [] [0, 2, 10] [(0, .d (.sl a0.length 0 (a0.flatMap eXPath.b))), (2, .d (.sl a1.length 0 (a1.flatMap eXPath.b))), (10, .d (iv (IntKind.i64.wrap (s2 + 1))))] .nil (by kernel_rfl) (by kernel_rfl) (l_n ?_)
        exact trl_start (ks := [0, 2, 10]) (by kernel_rfl) (ih4 (IntKind.i64.wrap (s2 + 1)) hM)
      · have hM := ite_false' hM h10
        refine tr_condTe (e := !v9) (congrArg not h10) (by kernel_rfl) ?_
        refine tr_sr hT hm [] [8] [(8, .d (bv false))] .nil (by kernel_rfl) (by kernel_rfl) ?_
        refine tr_ret (b_r (q_r (l_r (b_r (q_r (rg_r ?_))))))
        obtain rfl := Option.some.inj hM
        exact retg (names := []) .nil (by kernel_rfl)
    · have hM := ite_false' hM h6
      refine tr_condFe (e := decide (s2 < (a0.length : Int))) h6 (by kernel_rfl) ?_
      refine tr_exit (q_x (l_x (b_h (q_n ?_))))
      refine tr_sr hT hm [] [8] [(8, .d (bv true))] .nil (by kernel_rfl) (by kernel_rfl) ?_
      refine tr_ret (rg_r ?_)
      obtain rfl := Option.some.inj hM
      exact retg (names := []) .nil (by kernel_rfl)

theorem ok8 : CallOk Tryd.prog 8 := callOk_of Tryd.func8 (by kernel_rfl) (by kernel_rfl)
theorem laws_eqSchema_c (a0 : XSchema) (a1 : XSchema) (r : Bool) (hM : M.laws_eqSchema a0 a1 = some r) :
    FnC Tryd.prog 8 [] [.agg (eXSchema.b a0), .agg (eXSchema.b a1)] [] (bv r) := by
  refine fnc_startG (N := 34) (np := 500) hT Tryd.func8 rfl rfl (by kernel_rfl) ?_
  unfold M.laws_eqSchema at hM
  refine tr_start (ks := [0, 2]) (st' := [(0, .d (.agg (eXSchema.b a0))), (2, .d (.agg (eXSchema.b a1)))]) (by kernel_rfl) ?_
  refine tr_sr hT hm [] [4, 6, 2005, 2007] [(4, .d (.rp 1002 0)), (6, .d (.rp 1003 0)), bxB 2005 (eXSchema.b a0), bxB 2007 (eXSchema.b a1)] .nil (by kernel_rfl) (by kernel_rfl) ?_
  refine tr_seq ?_
  refine tr_sr hT hm [] [4, 6, 18, 2005, 2007] [(4, .d (.rp 1002 0)), (6, .d (.rp 1003 0)), (18, .d (bv (a0.Nodes != a1.Nodes))), bxB 2005 (eXSchema.b a0), bxB 2007 (eXSchema.b a1)] .nil (by kernel_rfl) (by kernel_rfl) ?_
  rcases Bool.eq_false_or_eq_true (a0.Nodes != a1.Nodes) with h1 | h1
  · have hM := ite_true' hM h1
    refine tr_condTe (e := a0.Nodes != a1.Nodes) h1 (by kernel_rfl) ?_
    refine tr_sr hT hm [] [8] [(8, .d (bv false))] .nil (by kernel_rfl) (by kernel_rfl) ?_
    refine tr_ret (q_r (rg_r ?_))
    obtain rfl := Option.some.inj hM
    exact retg (names := []) .nil (by kernel_rfl)
  · have hM := ite_false' hM h1
    refine tr_condFe (e := a0.Nodes != a1.Nodes) h1 (by kernel_rfl) ?_
    refine tr_skip (q_n ?_)
    refine tr_seq ?_
    obtain ⟨v2, hv2, hM⟩ := bind_some' hM
    refine tr_sr hT hm [(4, .call [] [] [.sl a0.From.length 0 (a0.From.flatMap eI.b), .sl a1.From.length 0 (a1.From.flatMap eI.b)] [] (bv v2))] [4, 6, 30, 2005, 2007] [(4, .d (.rp 1002 0)), (6, .d (.rp 1003 0)), (30, .d (bv (!v2))), bxB 2005 (eXSchema.b a0), bxB 2007 (eXSchema.b a1)] (cc0 ok17 (laws_eqInt64S_c a0.From a1.From _ hv2) (by kernel_rfl) .nil) (by kernel_rfl) (by kernel_rfl) ?_
    rcases Bool.eq_false_or_eq_true v2 with h3 | h3
    · have hM := ite_true' hM h3
      refine tr_condFe (e := !v2) (congrArg not h3) (by kernel_rfl) ?_
      refine tr_skip (q_n ?_)
      refine tr_seq ?_
      obtain ⟨v4, hv4, hM⟩ := bind_some' hM
      refine tr_sr hT hm [(4, .call [] [] [.sl a0.To.length 0 (a0.To.flatMap eI.b), .sl a1.To.length 0 (a1.To.flatMap eI.b)] [] (bv v4))] [4, 6, 42, 2005, 2007] [(4, .d (.rp 1002 0)), (6, .d (.rp 1003 0)), (42, .d (bv (!v4))), bxB 2005 (eXSchema.b a0), bxB 2007 (eXSchema.b a1)] (cc0 ok17 (laws_eqInt64S_c a0.To a1.To _ hv4) (by kernel_rfl) .nil) (by kernel_rfl) (by kernel_rfl) ?_
      rcases Bool.eq_false_or_eq_true v4 with h5 | h5
      · have hM := ite_true' hM h5
        refine tr_condFe (e := !v4) (congrArg not h5) (by kernel_rfl) ?_
        refine tr_skip (q_n ?_)
        refine tr_seq ?_
        obtain ⟨v6, hv6, hM⟩ := bind_some' hM
        refine tr_sr hT hm [(4, .call [] [] [.sl a0.Left.length 0 (a0.Left.flatMap eXPath.b), .sl a1.Left.length 0 (a1.Left.flatMap eXPath.b)] [] (bv v6))] [4, 6, 54, 2005, 2007] [(4, .d (.rp 1002 0)), (6, .d (.rp 1003 0)), (54, .d (bv (!v6))), bxB 2005 (eXSchema.b a0), bxB 2007 (eXSchema.b a1)] (cc0 ok18 (laws_eqPathS_c a0.Left a1.Left _ hv6) (by kernel_rfl) .nil) (by kernel_rfl) (by kernel_rfl) ?_
        rcases Bool.eq_false_or_eq_true v6 with h7 | h7
        · have hM := ite_true' hM h7
          refine tr_condFe (e := !v6) (congrArg not h7) (by kernel_rfl) ?_
          refine tr_skip (q_n ?_)
          refine tr_seq ?_
          obtain ⟨v8, hv8, hM⟩ := bind_some' hM
          refine tr_sr hT hm [(4, .call [] [] [.sl a0.Right.length 0 (a0.Right.flatMap eXPath.b), .sl a1.Right.length 0 (a1.Right.flatMap eXPath.b)] [] (bv v8))] [66] [(66, .d (bv (!v8)))] (cc0 ok18 (laws_eqPathS_c a0.Right a1.Right _ hv8) (by kernel_rfl) .nil) (by kernel_rfl) (by kernel_rfl) ?_
          rcases Bool.eq_false_or_eq_true v8 with h9 | h9
          · have hM := ite_true' hM h9
            refine tr_condFe (e := !v8) (congrArg not h9) (by kernel_rfl) ?_
            refine tr_skip (q_n ?_)
            refine tr_sr hT hm [] [8] [(8, .d (bv true))] .nil (by kernel_rfl) (by kernel_rfl) ?_
            refine tr_ret (rg_r ?_)
            obtain rfl := Option.some.inj hM
            exact retg (names := []) .nil (by kernel_rfl)
          · have hM := ite_false' hM h9
            refine tr_condTe (e := !v8) (congrArg not h9) (by kernel_rfl) ?_
            refine tr_sr hT hm [] [8] [(8, .d (bv false))] .nil (by kernel_rfl) (by kernel_rfl) ?_
            refine tr_ret (q_r (rg_r ?_))
            obtain rfl := Option.some.inj hM
            exact retg (names := []) .nil (by kernel_rfl)
        · have hM := ite_false' hM h7
          refine tr_condTe (e := !v6) (congrArg not h7) (by kernel_rfl) ?_
          refine tr_sr hT hm [] [8] [(8, .d (bv false))] .nil (by kernel_rfl) (by kernel_rfl) ?_
          refine tr_ret (q_r (rg_r ?_))
          obtain rfl := Option.some.inj hM
          exact retg (names := []) .nil (by kernel_rfl)
      · have hM := ite_false' hM h5
        refine tr_condTe (e := !v4) (congrArg not h5) (by kernel_rfl) ?_
        refine tr_sr hT hm [] [8] [(8, .d (bv false))] .nil (by kernel_rfl) (by kernel_rfl) ?_
        refine tr_ret (q_r (rg_r ?_))
        obtain rfl := Option.some.inj hM
        exact retg (names := []) .nil (by kernel_rfl)
    · have hM := ite_false' hM h3
      refine tr_condTe (e := !v2) (congrArg not h3) (by kernel_rfl) ?_
      refine tr_sr hT hm [] [8] [(8, .d (bv false))] .nil (by kernel_rfl) (by kernel_rfl) ?_
      refine tr_ret (q_r (rg_r ?_))
      obtain rfl := Option.some.inj hM
      exact retg (names := []) .nil (by kernel_rfl)

end Go.Proofs.YtknmijgiefkijaaDoor.WdA
