/- Walks. Printed by wip/gen. -/
import Derived.Test.YtiikkfdehbcfaaaGxzKW1
namespace Go.Proofs.Ytiikkfdehbcfaaa.WzK
open Go.Gx Go.Proofs.Ytiikkfdehbcfaaa.WvB Go.Proofs.Ytiikkfdehbcfaaa.WyN Go.Proofs.Ytiikkfdehbcfaaa.WzS Go.Proofs.Ytiikkfdehbcfaaa.WzJ

theorem ok172 : CallOk Try.prog 172 := callOk_of Try.func172 (by kernel_rfl) (by kernel_rfl)
theorem impl_fitting_c (a0 : List Int) (r : Bool) (hM : M.impl_fitting a0 = some r) :
    FnC Try.prog 172 [] [.sl a0.length 0 (a0.flatMap eI.b)] [] (bv r) := by
  refine fnc_startG (N := 5) (np := 500) hT Try.func172 rfl rfl (by kernel_rfl) ?_
  unfold M.impl_fitting at hM
  refine tr_start (ks := [0]) (st' := [(0, .d (.sl a0.length 0 (a0.flatMap eI.b)))]) (by kernel_rfl) ?_
  refine tr_sr hT hm [] [0] [(0, .d (.sl a0.length 0 (a0.flatMap eI.b)))] .nil (by kernel_rfl) (by kernel_rfl) ?_
  obtain ⟨v1, hv1, hM⟩ := bind_some' hM
  refine tr_sr hT hm [(1, .call [] [] [.sl a0.length 0 (a0.flatMap eI.b), iv 17] [] (bv v1))] [4] [(4, .d (bv v1))] (cc0 ok160 (impl_within_c a0 17 _ hv1) (by kernel_rfl) .nil) (by kernel_rfl) (by kernel_rfl) ?_
  refine tr_ret (rg_r ?_)
  obtain rfl := Option.some.inj hM
  exact retg (names := []) .nil (by kernel_rfl)

theorem ok94 : CallOk Try.prog 94 := callOk_of Try.func94 (by kernel_rfl) (by kernel_rfl)
theorem impl_Schema_hasRows_c (a0 : XSchema) (a1 : List Int) (a2 : List (List Int)) (r : Bool) (hM : M.impl_Schema_hasRows a0 a1 a2 = some r) :
    FnC Try.prog 94 [] [.pt (eXSchema.b a0) 0, .sl a1.length 0 (a1.flatMap eI.b), .sl a2.length 0 (a2.flatMap (eS eI).b)] [] (bv r) := by
  refine fnc_startG (N := 62) (np := 500) hT Try.func94 rfl rfl (by kernel_rfl) ?_
  unfold M.impl_Schema_hasRows at hM
  refine tr_start (ks := [0, 2, 4]) (st' := [(0, .d (.pt (eXSchema.b a0) 0)), (2, .d (.sl a1.length 0 (a1.flatMap eI.b))), (4, .d (.sl a2.length 0 (a2.flatMap (eS eI).b)))]) (by kernel_rfl) ?_
  refine tr_sr hT hm [] [0, 2, 4] [(0, .d (.pt (eXSchema.b a0) 0)), (2, .d (.sl a1.length 0 (a1.flatMap eI.b))), (4, .d (.sl a2.length 0 (a2.flatMap (eS eI).b)))] .nil (by kernel_rfl) (by kernel_rfl) ?_
  refine tr_seq ?_
  rcases Bool.eq_false_or_eq_true ((a1.length : Int) != a0.Nodes) with h1 | h1
  · have hM := ite_true' hM h1
    refine tr_sr hT hm [(7, .val (bv true))] [0, 2, 4, 60] [(0, .d (.pt (eXSchema.b a0) 0)), (2, .d (.sl a1.length 0 (a1.flatMap eI.b))), (4, .d (.sl a2.length 0 (a2.flatMap (eS eI).b))), (60, .d (bv true))] (.cons (congrArg (fun b => bv b) h1) .nil) (by kernel_rfl) (by kernel_rfl) ?_
    refine tr_condT (by kernel_rfl) ?_
    refine tr_sr hT hm [] [12] [(12, .d (bv false))] .nil (by kernel_rfl) (by kernel_rfl) ?_
    refine tr_ret (q_r (rg_r ?_))
    obtain rfl := Option.some.inj hM
    exact retg (names := []) .nil (by kernel_rfl)
  · have hM := ite_false' hM h1
    obtain ⟨v2, hv2, hM⟩ := bind_some' hM
    rcases Bool.eq_false_or_eq_true v2 with h3 | h3
    · have hM := ite_true' hM h3
      refine tr_sr hT hm [(7, .val (bv false)), (9, .call [] [] [.sl a1.length 0 (a1.flatMap eI.b)] [] (bv v2)), (12, .val (bv false))] [0, 2, 4, 60] [(0, .d (.pt (eXSchema.b a0) 0)), (2, .d (.sl a1.length 0 (a1.flatMap eI.b))), (4, .d (.sl a2.length 0 (a2.flatMap (eS eI).b))), (60, .d (bv ((a2.length : Int) != (a0.From.length : Int))))] (.cons (congrArg (fun b => bv b) h1) (cc0 ok172 (impl_fitting_c a1 _ hv2) (by kernel_rfl) (.cons (congrArg (fun b => bv b) (congrArg not h3)) .nil))) (by kernel_rfl) (by kernel_rfl) ?_
      rcases Bool.eq_false_or_eq_true ((a2.length : Int) != (a0.From.length : Int)) with h4 | h4
      · have hM := ite_true' hM h4
        refine tr_condTe (e := (a2.length : Int) != (a0.From.length : Int)) h4 (by kernel_rfl) ?_
        refine tr_sr hT hm [] [12] [(12, .d (bv false))] .nil (by kernel_rfl) (by kernel_rfl) ?_
        refine tr_ret (q_r (rg_r ?_))
        obtain rfl := Option.some.inj hM
        exact retg (names := []) .nil (by kernel_rfl)
      · have hM := ite_false' hM h4
        refine tr_condFe (e := (a2.length : Int) != (a0.From.length : Int)) h4 (by kernel_rfl) ?_
        refine tr_skip (q_n ?_)
        refine tr_seq ?_
        refine tr_sr hT hm [] [0, 2, 62, 64, 66] [(0, .d (.pt (eXSchema.b a0) 0)), (2, .d (.sl a1.length 0 (a1.flatMap eI.b))), (62, .d (.sl a2.length 0 (a2.flatMap (eS eI).b))), (64, .d (iv (a2.length : Int))), (66, .d (iv 0))] .nil (by kernel_rfl) (by kernel_rfl) ?_
        refine tr_block ?_
        refine tr_iterS (fun (s5 : Int) => [(0, .d (.pt (eXSchema.b a0) 0)), (2, .d (.sl a1.length 0 (a1.flatMap eI.b))), (62, .d (.sl a2.length 0 (a2.flatMap (eS eI).b))), (64, .d (iv (a2.length : Int))), (66, .d (iv s5))]) 0 [0, 2, 62, 64, 66] (by kernel_rfl) hM ?_
        intro n8 next6 ih7 s5 hM
        refine tr_sr hT hm [] [0, 2, 62, 64, 66, 68] [(0, .d (.pt (eXSchema.b a0) 0)), (2, .d (.sl a1.length 0 (a1.flatMap eI.b))), (62, .d (.sl a2.length 0 (a2.flatMap (eS eI).b))), (64, .d (iv (a2.length : Int))), (66, .d (iv s5)), (68, .d (bv (decide (s5 < (a2.length : Int)))))] .nil (by kernel_rfl) (by kernel_rfl) ?_
        refine tr_seq ?_
        rcases Bool.eq_false_or_eq_true (decide (s5 < (a2.length : Int))) with h9 | h9
        · have hM := ite_true' hM h9
          refine tr_condTe (e := decide (s5 < (a2.length : Int))) h9 (by kernel_rfl) ?_
          refine tr_skip (q_n ?_)
          refine tr_seq ?_
          refine tr_block ?_
          obtain ⟨y10, hy10, hM⟩ := bind_some' hM
          have hy10' := idx_some hy10
          refine tr_sr hT hm [(2, .val (.sl y10.length 0 (y10.flatMap eI.b)))] [0, 2, 14, 16, 62, 64, 66] [(0, .d (.pt (eXSchema.b a0) 0)), (2, .d (.sl a1.length 0 (a1.flatMap eI.b))), (14, .d (iv s5)), (16, .d (.sl y10.length 0 (y10.flatMap eI.b))), (62, .d (.sl a2.length 0 (a2.flatMap (eS eI).b))), (64, .d (iv (a2.length : Int))), (66, .d (iv s5))] (.cons hy10'.1 (.cons hy10'.2.1 (.cons (at_b0 (eS_ok eI_ok) hy10'.2.2 (d := .sl y10.length 0 (y10.flatMap eI.b)) (by kernel_rfl)) .nil))) (by kernel_rfl) (by kernel_rfl) ?_
          obtain ⟨y11, hy11, hM⟩ := bind_some' hM
          have hy11' := idx_some hy11
          obtain ⟨y12, hy12, hM⟩ := bind_some' hM
          have hy12' := idx_some hy12
          obtain ⟨y13, hy13, hM⟩ := bind_some' hM
          have hy13' := idx_some hy13
          obtain ⟨y14, hy14, hM⟩ := bind_some' hM
          have hy14' := idx_some hy14
          obtain ⟨v15, hv15, hM⟩ := bind_some' hM
          refine tr_sr hT hm [(8, .val (iv y11)), (10, .val (iv y12)), (18, .val (iv y13)), (20, .val (iv y14)), (21, .call [] [] [.sl y10.length 0 (y10.flatMap eI.b), iv y12, iv y14] [] (bv v15))] [0, 2, 62, 64, 66, 120] [(0, .d (.pt (eXSchema.b a0) 0)), (2, .d (.sl a1.length 0 (a1.flatMap eI.b))), (62, .d (.sl a2.length 0 (a2.flatMap (eS eI).b))), (64, .d (iv (a2.length : Int))), (66, .d (iv s5)), (120, .d (bv (!v15)))] (.cons hy11'.1 (.cons hy11'.2.1 (.cons (at_b0 eI_ok hy11'.2.2 (d := iv y11) (by kernel_rfl)) (.cons hy12'.1 (.cons hy12'.2.1 (.cons (at_b0 eI_ok hy12'.2.2 (d := iv y12) (by kernel_rfl)) (.cons hy13'.1 (.cons hy13'.2.1 (.cons (at_b0 eI_ok hy13'.2.2 (d := iv y13) (by kernel_rfl)) (.cons hy14'.1 (.cons hy14'.2.1 (.cons (at_b0 eI_ok hy14'.2.2 (d := iv y14) (by kernel_rfl)) (cc0 ok173 (impl_isMapOf_c y10 y12 y14 _ hv15) (by kernel_rfl) .nil))))))))))))) (by kernel_rfl) (by kernel_rfl) ?_
          rcases Bool.eq_false_or_eq_true v15 with h16 | h16
          · have hM := ite_true' hM h16
            refine tr_condFe (e := !v15) (congrArg not h16) (by kernel_rfl) ?_
            refine tr_skip (b_n (q_n ?_))
            refine tr_r hT hm [] [0, 2, 62, 64, 66] [(0, .d (.pt (eXSchema.b a0) 0)), (2, .d (.sl a1.length 0 (a1.flatMap eI.b))), (62, .d (.sl a2.length 0 (a2.flatMap (eS eI).b))), (64, .d (iv (a2.length : Int))), (66, .d (iv (IntKind.i64.wrap (s5 + 1))))] .nil (by kernel_rfl) (by kernel_rfl) (l_n ?_)
            exact trl_start (ks := [0, 2, 62, 64, 66]) (by kernel_rfl) (ih7 (IntKind.i64.wrap (s5 + 1)) hM)
          · have hM := ite_false' hM h16
            refine tr_condTe (e := !v15) (congrArg not h16) (by kernel_rfl) ?_
            refine tr_sr hT hm [] [12] [(12, .d (bv false))] .nil (by kernel_rfl) (by kernel_rfl) ?_
            refine tr_ret (b_r (q_r (l_r (b_r (q_r (rg_r ?_))))))
            obtain rfl := Option.some.inj hM
            exact retg (names := []) .nil (by kernel_rfl)
        · have hM := ite_false' hM h9
          refine tr_condFe (e := decide (s5 < (a2.length : Int))) h9 (by kernel_rfl) ?_
          refine tr_exit (q_x (l_x (b_h (q_n ?_))))
          refine tr_sr hT hm [] [12] [(12, .d (bv true))] .nil (by kernel_rfl) (by kernel_rfl) ?_
          refine tr_ret (rg_r ?_)
          obtain rfl := Option.some.inj hM
          exact retg (names := []) .nil (by kernel_rfl)
    · have hM := ite_false' hM h3
      refine tr_sr hT hm [(7, .val (bv false)), (9, .call [] [] [.sl a1.length 0 (a1.flatMap eI.b)] [] (bv v2)), (12, .val (bv true))] [0, 2, 4, 60] [(0, .d (.pt (eXSchema.b a0) 0)), (2, .d (.sl a1.length 0 (a1.flatMap eI.b))), (4, .d (.sl a2.length 0 (a2.flatMap (eS eI).b))), (60, .d (bv true))] (.cons (congrArg (fun b => bv b) h1) (cc0 ok172 (impl_fitting_c a1 _ hv2) (by kernel_rfl) (.cons (congrArg (fun b => bv b) (congrArg not h3)) .nil))) (by kernel_rfl) (by kernel_rfl) ?_
      refine tr_condT (by kernel_rfl) ?_
      refine tr_sr hT hm [] [12] [(12, .d (bv false))] .nil (by kernel_rfl) (by kernel_rfl) ?_
      refine tr_ret (q_r (rg_r ?_))
      obtain rfl := Option.some.inj hM
      exact retg (names := []) .nil (by kernel_rfl)

theorem ok174 : CallOk Try.prog 174 := callOk_of Try.func174 (by kernel_rfl) (by kernel_rfl)
theorem impl_data_copy_c (a0 : Xdata) (r : Xdata) (hM : M.impl_data_copy a0 = some r) :
    FnC Try.prog 174 [] [.agg (eXdata.b a0)] [] (.agg (eXdata.o r)) := by
  refine fnc_startG (N := 10) (np := 500) hT Try.func174 rfl rfl (by kernel_rfl) ?_
  unfold M.impl_data_copy at hM
  refine tr_start (ks := [0]) (st' := [(0, .d (.agg (eXdata.b a0)))]) (by kernel_rfl) ?_
  refine tr_sr hT hm [] [2, 4, 2003, 2005] [(2, .d (.rp 1001 0)), (4, .d (.rp 1002 0)), bxB 2003 (eXdata.b a0), (2005, .r (.arr 1 [nilv, nilv] []))] .nil (by kernel_rfl) (by kernel_rfl) ?_
  obtain ⟨v1, hv1, hM⟩ := bind_some' hM
  obtain ⟨v2, hv2, hM⟩ := bind_some' hM
  refine tr_sr hT hm [(2, .call [] [] [.sl a0.sizes_.length 0 (a0.sizes_.flatMap eI.b)] [] (.fr 1 v1.length (v1.flatMap eI.o))), (5, .call [] [] [.sl a0.maps_.length 0 (a0.maps_.flatMap (eS eI).b)] [] (.fr 1 v2.length (v2.flatMap (eS eI).o)))] [4, 2005, 14001, 20001] [(4, .d (.rp 1002 0)), (2005, .r (.arr 1 [.rs 7000 0 v1.length, .rs 10000 0 v2.length] [7000, 10000])), (14001, .r (.arr 1 (v1.flatMap eI.o) [])), (20001, .r (.arr 1 (v2.flatMap (eS eI).o) []))] (cc0 ok187 (impl_clone_c a0.sizes_ _ hv1) (by kernel_rfl) (cc0 ok252 (impl_clones_c a0.maps_ _ hv2) (by kernel_rfl) (.cons (Nat.le_of_ble_eq_true (n := 2) (m := 2) rfl) .nil))) (by kernel_rfl) (by kernel_rfl) ?_
  refine tr_ret (rg_r ?_)
  obtain rfl := Option.some.inj hM
  exact retg (names := []) (.cons (lenO_flat eI_ok v1) (.cons (lenO_flat (eS_ok eI_ok) v2) .nil)) (by kernel_rfl)

theorem ok253 : CallOk Try.prog 253 := callOk_of Try.func253 (by kernel_rfl) (by kernel_rfl)
theorem impl_Change_isChange_c (a0 : XChange) (r : Bool) (hM : M.impl_Change_isChange a0 = some r) :
    FnC Try.prog 253 [] [.agg (eXChange.b a0)] [] (bv r) := by
  refine fnc_startG (N := 17) (np := 500) hT Try.func253 rfl rfl (by kernel_rfl) ?_
  unfold M.impl_Change_isChange at hM
  refine tr_start (ks := [0]) (st' := [(0, .d (.agg (eXChange.b a0)))]) (by kernel_rfl) ?_
  refine tr_sr hT hm [] [2, 2003] [(2, .d (.rp 1001 0)), bxB 2003 (eXChange.b a0)] .nil (by kernel_rfl) (by kernel_rfl) ?_
  refine tr_seq ?_
  refine tr_sr hT hm [] [2, 8, 2003] [(2, .d (.rp 1001 0)), (8, .d (iv a0.Kind)), bxB 2003 (eXChange.b a0)] .nil (by kernel_rfl) (by kernel_rfl) ?_
  refine tr_block ?_
  refine tr_sr hT hm [] [2, 8, 10, 2003] [(2, .d (.rp 1001 0)), (8, .d (iv a0.Kind)), (10, .d (bv (a0.Kind == 1))), bxB 2003 (eXChange.b a0)] .nil (by kernel_rfl) (by kernel_rfl) ?_
  rcases Bool.eq_false_or_eq_true (a0.Kind == 1) with h1 | h1
  · have hM := ite_true' hM h1
    refine tr_condTe (e := a0.Kind == 1) h1 (by kernel_rfl) ?_
    rcases Bool.eq_false_or_eq_true (a0.Second == 0) with h2 | h2
    · have hM := ite_true' hM h2
      refine tr_sr hT hm [(3, .val (bv true))] [4] [(4, .d (bv (a0.Third == 0)))] (.cons (congrArg (fun b => bv b) h2) .nil) (by kernel_rfl) (by kernel_rfl) ?_
      refine tr_ret (b_r (q_r (rg_r ?_)))
      obtain rfl := Option.some.inj hM
      exact retg (names := []) .nil (by kernel_rfl)
    · have hM := ite_false' hM h2
      refine tr_sr hT hm [(3, .val (bv false))] [4] [(4, .d (bv false))] (.cons (congrArg (fun b => bv b) h2) .nil) (by kernel_rfl) (by kernel_rfl) ?_
      refine tr_ret (b_r (q_r (rg_r ?_)))
      obtain rfl := Option.some.inj hM
      exact retg (names := []) .nil (by kernel_rfl)
  · have hM := ite_false' hM h1
    refine tr_condFe (e := a0.Kind == 1) h1 (by kernel_rfl) ?_
    refine tr_sr hT hm [] [30] [(30, .d (bv (a0.Kind == 2)))] .nil (by kernel_rfl) (by kernel_rfl) ?_
    rcases Bool.eq_false_or_eq_true (a0.Kind == 2) with h3 | h3
    · have hM := ite_true' hM h3
      refine tr_condTe (e := a0.Kind == 2) h3 (by kernel_rfl) ?_
      refine tr_sr hT hm [] [4] [(4, .d (bv true))] .nil (by kernel_rfl) (by kernel_rfl) ?_
      refine tr_ret (b_r (q_r (rg_r ?_)))
      obtain rfl := Option.some.inj hM
      exact retg (names := []) .nil (by kernel_rfl)
    · have hM := ite_false' hM h3
      refine tr_condFe (e := a0.Kind == 2) h3 (by kernel_rfl) ?_
      refine tr_skip (b_n (q_n ?_))
      refine tr_sr hT hm [] [4] [(4, .d (bv false))] .nil (by kernel_rfl) (by kernel_rfl) ?_
      refine tr_ret (rg_r ?_)
      obtain rfl := Option.some.inj hM
      exact retg (names := []) .nil (by kernel_rfl)

theorem ok254 : CallOk Try.prog 254 := callOk_of Try.func254 (by kernel_rfl) (by kernel_rfl)
theorem impl_Schema_outOf_c (a0 : XSchema) (a1 : Int) (r : (List Int)) (hM : M.impl_Schema_outOf a0 a1 = some r) :
    FnC Try.prog 254 [] [.pt (eXSchema.b a0) 0, iv a1] [] (.fr 1 r.length (r.flatMap eI.o)) := by
  refine fnc_startG (N := 28) (np := 500) hT Try.func254 rfl rfl (by kernel_rfl) ?_
  unfold M.impl_Schema_outOf at hM
  refine tr_start (ks := [0, 2]) (st' := [(0, .d (.pt (eXSchema.b a0) 0)), (2, .d (iv a1))]) (by kernel_rfl) ?_
  refine tr_sr hT hm [] [0, 2] [(0, .d (.pt (eXSchema.b a0) 0)), (2, .d (iv a1))] .nil (by kernel_rfl) (by kernel_rfl) ?_
  refine tr_sr hT hm [] [0, 2, 10, 2017] [(0, .d (.pt (eXSchema.b a0) 0)), (2, .d (iv a1)), (10, .d (.rs 1008 0 (([] : List Int).length))), (2017, .r (.arr 1 (([] : List Int).flatMap eI.o) []))] .nil (by kernel_rfl) (by kernel_rfl) ?_
  refine tr_seq ?_
  refine tr_sr hT hm [] [2, 10, 24, 26, 28, 2017] [(2, .d (iv a1)), (10, .d (.rs 1008 0 (([] : List Int).length))), (24, .d (.sl a0.From.length 0 (a0.From.flatMap eI.b))), (26, .d (iv (a0.From.length : Int))), (28, .d (iv 0)), (2017, .r (.arr 1 (([] : List Int).flatMap eI.o) []))] .nil (by kernel_rfl) (by kernel_rfl) ?_
  refine tr_block ?_
  refine tr_iterS (fun (s1 : (List Int) × Int) => [(2, .d (iv a1)), (10, .d (.rs 1008 0 s1.1.length)), (24, .d (.sl a0.From.length 0 (a0.From.flatMap eI.b))), (26, .d (iv (a0.From.length : Int))), (28, .d (iv s1.2)), (2017, .r (.arr 1 (s1.1.flatMap eI.o) []))]) (([] : List Int), 0) [2, 10, 24, 26, 28, 2017] (by kernel_rfl) hM ?_
  intro n4 next2 ih3 s1 hM
  refine tr_sr hT hm [] [2, 10, 24, 26, 28, 30, 2017] [(2, .d (iv a1)), (10, .d (.rs 1008 0 s1.1.length)), (24, .d (.sl a0.From.length 0 (a0.From.flatMap eI.b))), (26, .d (iv (a0.From.length : Int))), (28, .d (iv s1.2)), (30, .d (bv (decide (s1.2 < (a0.From.length : Int))))), (2017, .r (.arr 1 (s1.1.flatMap eI.o) []))] .nil (by kernel_rfl) (by kernel_rfl) ?_
  refine tr_seq ?_
  rcases Bool.eq_false_or_eq_true (decide (s1.2 < (a0.From.length : Int))) with h5 | h5
  · have hM := ite_true' hM h5
    refine tr_condTe (e := decide (s1.2 < (a0.From.length : Int))) h5 (by kernel_rfl) ?_
    refine tr_skip (q_n ?_)
    refine tr_seq ?_
    refine tr_block ?_
    obtain ⟨y6, hy6, hM⟩ := bind_some' hM
    have hy6' := idx_some hy6
    refine tr_sr hT hm [(2, .val (iv y6))] [2, 10, 12, 14, 24, 26, 28, 2017] [(2, .d (iv a1)), (10, .d (.rs 1008 0 s1.1.length)), (12, .d (iv s1.2)), (14, .d (iv y6)), (24, .d (.sl a0.From.length 0 (a0.From.flatMap eI.b))), (26, .d (iv (a0.From.length : Int))), (28, .d (iv s1.2)), (2017, .r (.arr 1 (s1.1.flatMap eI.o) []))] (.cons hy6'.1 (.cons hy6'.2.1 (.cons (at_b0 eI_ok hy6'.2.2 (d := iv y6) (by kernel_rfl)) .nil))) (by kernel_rfl) (by kernel_rfl) ?_
    refine tr_sr hT hm [] [2, 10, 12, 24, 26, 28, 42, 2017] [(2, .d (iv a1)), (10, .d (.rs 1008 0 s1.1.length)), (12, .d (iv s1.2)), (24, .d (.sl a0.From.length 0 (a0.From.flatMap eI.b))), (26, .d (iv (a0.From.length : Int))), (28, .d (iv s1.2)), (42, .d (bv (a1 == y6))), (2017, .r (.arr 1 (s1.1.flatMap eI.o) []))] .nil (by kernel_rfl) (by kernel_rfl) ?_
    rcases Bool.eq_false_or_eq_true (a1 == y6) with h7 | h7
    · have hM := ite_true' hM h7
      refine tr_condTe (e := a1 == y6) h7 (by kernel_rfl) ?_
      obtain ⟨h8, hM⟩ := chk_some hM
      refine tr_r hT hm [(3, .app true)] [2, 10, 24, 26, 28, 2051] [(2, .d (iv a1)), (10, .d (.rs 1025 0 (s1.1.length + (([s1.2] : List Int).length)))), (24, .d (.sl a0.From.length 0 (a0.From.flatMap eI.b))), (26, .d (iv (a0.From.length : Int))), (28, .d (iv s1.2)), (2051, .r (.arr 1 (s1.1.flatMap eI.o ++ ([s1.2] : List Int).flatMap eI.o) []))] (.cons (lenO_flat eI_ok s1.1) (.cons (lenO_flat eI_ok ([s1.2] : List Int)) (.cons h8 .nil))) (by kernel_rfl) (by kernel_rfl) (b_n (q_n ?_))
      refine Tr.by (imp_cvE (r := 1025) (sz := 1) (refs := []) (flat_app eI.o s1.1 ([s1.2] : List Int)) (menO_flat eI_ok _) (by kernel_rfl)) ?_
      refine Tr.by (imp_cvD (k := 10) (congrArg (D.rs 1025 0) ((len_app s1.1 ([s1.2] : List Int)) : s1.1.length + (([s1.2] : List Int).length) = (s1.1 ++ ([s1.2] : List Int)).length)) (by kernel_rfl)) ?_
      refine tr_r hT hm [] [2, 10, 24, 26, 28, 2051] [(2, .d (iv a1)), (10, .d (.rs 1025 0 ((s1.1 ++ ([s1.2] : List Int)).length))), (24, .d (.sl a0.From.length 0 (a0.From.flatMap eI.b))), (26, .d (iv (a0.From.length : Int))), (28, .d (iv (IntKind.i64.wrap (s1.2 + 1)))), (2051, .r (.arr 1 ((s1.1 ++ ([s1.2] : List Int)).flatMap eI.o) []))] .nil (by kernel_rfl) (by kernel_rfl) (l_n ?_)
      refine TrL.by (imp_sel (ks := [2, 10, 24, 26, 28, 2051]) (st' := [(2, .d (iv a1)), (10, .d (.rs 1025 0 ((s1.1 ++ ([s1.2] : List Int)).length))), (24, .d (.sl a0.From.length 0 (a0.From.flatMap eI.b))), (26, .d (iv (a0.From.length : Int))), (28, .d (iv (IntKind.i64.wrap (s1.2 + 1)))), (2051, .r (.arr 1 ((s1.1 ++ ([s1.2] : List Int)).flatMap eI.o) []))]) (by kernel_rfl)) ?_
      refine TrL.by (imp_rename (r := 1025) (q := 1008) (by kernel_rfl) (Nat.le_of_ble_eq_true rfl)) ?_
      exact trl_start (ks := [2, 10, 24, 26, 28, 2017]) (by kernel_rfl) (ih3 (s1.1 ++ ([s1.2] : List Int), IntKind.i64.wrap (s1.2 + 1)) hM)
    · have hM := ite_false' hM h7
      refine tr_condFe (e := a1 == y6) h7 (by kernel_rfl) ?_
      refine tr_skip (b_n (q_n ?_))
      refine tr_r hT hm [] [2, 10, 24, 26, 28, 2017] [(2, .d (iv a1)), (10, .d (.rs 1008 0 s1.1.length)), (24, .d (.sl a0.From.length 0 (a0.From.flatMap eI.b))), (26, .d (iv (a0.From.length : Int))), (28, .d (iv (IntKind.i64.wrap (s1.2 + 1)))), (2017, .r (.arr 1 (s1.1.flatMap eI.o) []))] .nil (by kernel_rfl) (by kernel_rfl) (l_n ?_)
      exact trl_start (ks := [2, 10, 24, 26, 28, 2017]) (by kernel_rfl) (ih3 (s1.1, IntKind.i64.wrap (s1.2 + 1)) hM)
  · have hM := ite_false' hM h5
    refine tr_condFe (e := decide (s1.2 < (a0.From.length : Int))) h5 (by kernel_rfl) ?_
    refine tr_exit (q_x (l_x (b_h (q_n ?_))))
    refine tr_sr hT hm [] [8, 2017] [(8, .d (.rs 1008 0 s1.1.length)), (2017, .r (.arr 1 (s1.1.flatMap eI.o) []))] .nil (by kernel_rfl) (by kernel_rfl) ?_
    refine tr_ret (rg_r ?_)
    obtain rfl := Option.some.inj hM
    exact retg (names := []) (.cons (lenO_flat eI_ok s1.1) .nil) (by kernel_rfl)

theorem ok175 : CallOk Try.prog 175 := callOk_of Try.func175 (by kernel_rfl) (by kernel_rfl)
theorem impl_data_apply_c (a0 : Xdata) (a1 : XSchema) (a2 : XChange) (r : Bool × Xdata) (hM : M.impl_data_apply a0 a1 a2 = some r) :
    FnC Try.prog 175 [(0, .arr 1 [.fr 1 a0.sizes_.length (a0.sizes_.flatMap eI.o), .fr 1 a0.maps_.length (a0.maps_.flatMap (eS eI).o)] [])] [.rp 0 0, .pt (eXSchema.b a1) 0, .agg (eXChange.b a2)] [(0, .arr 1 [.fr 1 r.2.sizes_.length (r.2.sizes_.flatMap eI.o), .fr 1 r.2.maps_.length (r.2.maps_.flatMap (eS eI).o)] [])] (bv r.1) := by
  refine fnc_startG (N := 135) (np := 500) hT Try.func175 rfl rfl (by kernel_rfl) ?_
  unfold M.impl_data_apply at hM
  refine tr_start (ks := [0, 1, 2, 4]) (st' := [(0, .d (.rp 0 0)), (1, .r (.arr 1 [.fr 1 a0.sizes_.length (a0.sizes_.flatMap eI.o), .fr 1 a0.maps_.length (a0.maps_.flatMap (eS eI).o)] [])), (2, .d (.pt (eXSchema.b a1) 0)), (4, .d (.agg (eXChange.b a2)))]) (by kernel_rfl) ?_
  refine tr_sr hT hm [] [0, 1, 2, 10, 2011] [(0, .d (.rp 0 0)), (1, .r (.arr 1 [.fr 1 a0.sizes_.length (a0.sizes_.flatMap eI.o), .fr 1 a0.maps_.length (a0.maps_.flatMap (eS eI).o)] [])), (2, .d (.pt (eXSchema.b a1) 0)), (10, .d (.rp 1005 0)), bxB 2011 (eXChange.b a2)] .nil (by kernel_rfl) (by kernel_rfl) ?_
  refine tr_seq ?_
  obtain ⟨v1, hv1, hM⟩ := bind_some' hM
  refine tr_sr hT hm [(1, .call [] [] [.agg (eXChange.b a2)] [] (bv v1))] [0, 1, 2, 10, 22, 2011] [(0, .d (.rp 0 0)), (1, .r (.arr 1 [.fr 1 a0.sizes_.length (a0.sizes_.flatMap eI.o), .fr 1 a0.maps_.length (a0.maps_.flatMap (eS eI).o)] [])), (2, .d (.pt (eXSchema.b a1) 0)), (10, .d (.rp 1005 0)), (22, .d (bv (!v1))), bxB 2011 (eXChange.b a2)] (cc0 ok253 (impl_Change_isChange_c a2 _ hv1) (by kernel_rfl) .nil) (by kernel_rfl) (by kernel_rfl) ?_
  rcases Bool.eq_false_or_eq_true v1 with h2 | h2
  · have hM := ite_true' hM h2
    refine tr_condFe (e := !v1) (congrArg not h2) (by kernel_rfl) ?_
    refine tr_skip (q_n ?_)
    refine tr_seq ?_
    refine tr_sr hT hm [] [0, 1, 2, 10, 28, 2011] [(0, .d (.rp 0 0)), (1, .r (.arr 1 [.fr 1 a0.sizes_.length (a0.sizes_.flatMap eI.o), .fr 1 a0.maps_.length (a0.maps_.flatMap (eS eI).o)] [])), (2, .d (.pt (eXSchema.b a1) 0)), (10, .d (.rp 1005 0)), (28, .d (bv (a2.Kind == 1))), bxB 2011 (eXChange.b a2)] .nil (by kernel_rfl) (by kernel_rfl) ?_
    rcases Bool.eq_false_or_eq_true (a2.Kind == 1) with h3 | h3
    · have hM := ite_true' hM h3
      refine tr_condTe (e := a2.Kind == 1) h3 (by kernel_rfl) ?_
      refine tr_seq ?_
      obtain ⟨v4, hv4, hM⟩ := bind_some' hM
      rcases Bool.eq_false_or_eq_true v4 with h5 | h5
      · have hM := ite_true' hM h5
        refine Tr.by (imp_promote (r := 0) (i := 0) (q := 700048) (sz := 1) (sz' := 1) (n := a0.sizes_.length) (cells := [.fr 1 a0.sizes_.length (a0.sizes_.flatMap eI.o), .fr 1 a0.maps_.length (a0.maps_.flatMap (eS eI).o)]) (ds := a0.sizes_.flatMap eI.o) (refs := []) (by kernel_rfl) (by kernel_rfl) (by kernel_rfl)) ?_
        obtain ⟨y6, hy6, hM⟩ := bind_some' hM
        have hy6' := idx_some hy6
        refine tr_sr hT hm [(7, .call [] [] [iv a2.First, iv 0, iv (IntKind.i64.wrap (a1.Nodes - 1))] [] (bv v4)), (9, .val (bv false)), (17, .val (iv y6))] [0, 1, 2, 10, 68, 2011, 1400097] [(0, .d (.rp 0 0)), (1, .r (.arr 1 [.rs 700048 0 a0.sizes_.length, .fr 1 a0.maps_.length (a0.maps_.flatMap (eS eI).o)] [700048])), (2, .d (.pt (eXSchema.b a1) 0)), (10, .d (.rp 1005 0)), (68, .d (bv (y6 == 16))), bxB 2011 (eXChange.b a2), (1400097, .r (.arr 1 (a0.sizes_.flatMap eI.o) []))] (cc0 ok159 (impl_inRange_c a2.First 0 (IntKind.i64.wrap (a1.Nodes - 1)) _ hv4) (by kernel_rfl) (.cons (congrArg (fun b => bv b) (congrArg not h5)) (.cons hy6'.1 (.cons hy6'.2.1 (.cons (at_o0 eI_ok hy6'.2.2 (d := iv y6) (by kernel_rfl)) .nil))))) (by kernel_rfl) (by kernel_rfl) ?_
        rcases Bool.eq_false_or_eq_true (y6 == 16) with h7 | h7
        · have hM := ite_true' hM h7
          refine tr_condTe (e := y6 == 16) h7 (by kernel_rfl) ?_
          refine tr_sr hT hm [] [1, 12, 1400097] [(1, .r (.arr 1 [.rs 700048 0 a0.sizes_.length, .fr 1 a0.maps_.length (a0.maps_.flatMap (eS eI).o)] [700048])), (12, .d (bv false)), (1400097, .r (.arr 1 (a0.sizes_.flatMap eI.o) []))] .nil (by kernel_rfl) (by kernel_rfl) ?_
          refine tr_ret (q_r (q_r (rg_r ?_)))
          refine RetG.by (imp_dem (r := 0) (q := 700048) (sz := 1) (n := a0.sizes_.length) (j := 0) (pre := []) (l := [.rs 700048 0 a0.sizes_.length, .fr 1 a0.maps_.length (a0.maps_.flatMap (eS eI).o)]) (post := []) (refs := [700048]) (refs' := []) rfl rfl (lenO_flat eI_ok a0.sizes_) (by kernel_rfl) (by kernel_rfl) (by kernel_rfl) (by kernel_rfl) (by kernel_rfl)) ?_
          obtain rfl := Option.some.inj hM
          exact retg (names := [0]) .nil (by kernel_rfl)
        · have hM := ite_false' hM h7
          refine tr_condFe (e := y6 == 16) h7 (by kernel_rfl) ?_
          refine tr_skip (q_n ?_)
          refine tr_sr hT hm [(7, .val (iv y6))] [0, 1, 2, 10, 2011, 1400097] [(0, .d (.rp 0 0)), (1, .r (.arr 1 [.rs 700048 0 a0.sizes_.length, .fr 1 a0.maps_.length (a0.maps_.flatMap (eS eI).o)] [700048])), (2, .d (.pt (eXSchema.b a1) 0)), (10, .d (.rp 1005 0)), bxB 2011 (eXChange.b a2), (1400097, .r (.arr 1 ((a0.sizes_.flatMap eI.o).take (0 + a2.First.toNat * 1) ++ [iv (IntKind.i64.wrap (y6 + 1))] ++ (a0.sizes_.flatMap eI.o).drop (0 + a2.First.toNat * 1 + 1)) []))] (.cons hy6'.1 (.cons hy6'.2.1 (.cons (at_o0 eI_ok hy6'.2.2 (d := iv y6) (by kernel_rfl)) (.cons hy6'.1 (.cons hy6'.2.1 (.cons (store_le eI_ok hy6'.2.2) .nil)))))) (by kernel_rfl) (by kernel_rfl) ?_
          refine Tr.by (imp_cvE (r := 700048) (sz := 1) (refs := []) (set_flat eI_ok.lenO (y := IntKind.i64.wrap (y6 + 1)) hy6'.2.2) (menO_flat eI_ok _) (by kernel_rfl)) ?_
          refine Tr.by (imp_cvB (r := 0) (sz := 1) (cells := [.rs 700048 0 a0.sizes_.length, .fr 1 a0.maps_.length (a0.maps_.flatMap (eS eI).o)]) (cells' := [.rs 700048 0 ((a0.sizes_.set a2.First.toNat (IntKind.i64.wrap (y6 + 1))).length), .fr 1 a0.maps_.length (a0.maps_.flatMap (eS eI).o)]) (refs := [700048]) (refs' := [700048]) (.cons (Sub.of_eq (congrArg (D.rs 700048 0) (List.length_set.symm : a0.sizes_.length = (a0.sizes_.set a2.First.toNat (IntKind.i64.wrap (y6 + 1))).length))) (.cons (.refl _) .nil)) (by kernel_rfl) (by kernel_rfl) (by kernel_rfl)) ?_
          refine tr_seq ?_
          obtain ⟨v8, hv8, hM⟩ := bind_some' hM
          refine tr_sr hT hm [(3, .call [] [] [.pt (eXSchema.b a1) 0, iv a2.First] [] (.fr 1 v8.length (v8.flatMap eI.o)))] [0, 1, 96, 98, 100, 100001, 1400097] [(0, .d (.rp 0 0)), (1, .r (.arr 1 [.rs 700048 0 ((a0.sizes_.set a2.First.toNat (IntKind.i64.wrap (y6 + 1))).length), .fr 1 a0.maps_.length (a0.maps_.flatMap (eS eI).o)] [700048])), (96, .d (.rs 50000 0 v8.length)), (98, .d (iv (v8.length : Int))), (100, .d (iv 0)), (100001, .r (.arr 1 (v8.flatMap eI.o) [])), (1400097, .r (.arr 1 ((a0.sizes_.set a2.First.toNat (IntKind.i64.wrap (y6 + 1))).flatMap eI.o) []))] (cc0 ok254 (impl_Schema_outOf_c a1 a2.First _ hv8) (by kernel_rfl) .nil) (by kernel_rfl) (by kernel_rfl) ?_
          refine tr_block ?_
          refine tr_iterS (fun (s9 : (List (List Int)) × Int) => [(0, .d (.rp 0 0)), (1, .r (.arr 1 [.rs 700048 0 ((a0.sizes_.set a2.First.toNat (IntKind.i64.wrap (y6 + 1))).length), .fr 1 s9.1.length (s9.1.flatMap (eS eI).o)] [700048])), (96, .d (.rs 50000 0 v8.length)), (98, .d (iv (v8.length : Int))), (100, .d (iv s9.2)), (100001, .r (.arr 1 (v8.flatMap eI.o) [])), (1400097, .r (.arr 1 ((a0.sizes_.set a2.First.toNat (IntKind.i64.wrap (y6 + 1))).flatMap eI.o) []))]) (a0.maps_, 0) [0, 1, 96, 98, 100, 100001, 1400097] (by kernel_rfl) hM ?_
          intro n12 next10 ih11 s9 hM
          refine tr_sr hT hm [] [0, 1, 96, 98, 100, 102, 100001, 1400097] [(0, .d (.rp 0 0)), (1, .r (.arr 1 [.rs 700048 0 ((a0.sizes_.set a2.First.toNat (IntKind.i64.wrap (y6 + 1))).length), .fr 1 s9.1.length (s9.1.flatMap (eS eI).o)] [700048])), (96, .d (.rs 50000 0 v8.length)), (98, .d (iv (v8.length : Int))), (100, .d (iv s9.2)), (102, .d (bv (decide (s9.2 < (v8.length : Int))))), (100001, .r (.arr 1 (v8.flatMap eI.o) [])), (1400097, .r (.arr 1 ((a0.sizes_.set a2.First.toNat (IntKind.i64.wrap (y6 + 1))).flatMap eI.o) []))] .nil (by kernel_rfl) (by kernel_rfl) ?_
          refine tr_seq ?_
          rcases Bool.eq_false_or_eq_true (decide (s9.2 < (v8.length : Int))) with h13 | h13
          · have hM := ite_true' hM h13
            refine tr_condTe (e := decide (s9.2 < (v8.length : Int))) h13 (by kernel_rfl) ?_
            refine tr_skip (q_n ?_)
            refine tr_seq ?_
            refine tr_block ?_
            obtain ⟨y14, hy14, hM⟩ := bind_some' hM
            have hy14' := idx_some hy14
            refine tr_sr hT hm [(1, .val (iv y14))] [0, 1, 16, 96, 98, 100, 100001, 1400097] [(0, .d (.rp 0 0)), (1, .r (.arr 1 [.rs 700048 0 ((a0.sizes_.set a2.First.toNat (IntKind.i64.wrap (y6 + 1))).length), .fr 1 s9.1.length (s9.1.flatMap (eS eI).o)] [700048])), (16, .d (iv y14)), (96, .d (.rs 50000 0 v8.length)), (98, .d (iv (v8.length : Int))), (100, .d (iv s9.2)), (100001, .r (.arr 1 (v8.flatMap eI.o) [])), (1400097, .r (.arr 1 ((a0.sizes_.set a2.First.toNat (IntKind.i64.wrap (y6 + 1))).flatMap eI.o) []))] (.cons hy14'.1 (.cons hy14'.2.1 (.cons (at_o0 eI_ok hy14'.2.2 (d := iv y14) (by kernel_rfl)) .nil))) (by kernel_rfl) (by kernel_rfl) ?_
            refine Tr.by (imp_promote (r := 0) (i := 1) (q := 700059) (sz := 1) (sz' := 1) (n := s9.1.length) (cells := [.rs 700048 0 ((a0.sizes_.set a2.First.toNat (IntKind.i64.wrap (y6 + 1))).length), .fr 1 s9.1.length (s9.1.flatMap (eS eI).o)]) (ds := s9.1.flatMap (eS eI).o) (refs := [700048]) (by kernel_rfl) (by kernel_rfl) (by kernel_rfl)) ?_
            obtain ⟨y15, hy15, hM⟩ := bind_some' hM
            have hy15' := idx_some hy15
            refine Tr.by (imp_rowOut (r := 700059) (q := 700060) (i := y14) (xs := s9.1) (e := eI) (eS_ok eI_ok) hy15'.2.2 (by kernel_rfl) (by kernel_rfl)) ?_
            obtain ⟨h16, hM⟩ := chk_some hM
            refine tr_r hT hm [(11, .val (.rs 700060 0 y15.length)), (13, .app true)] [0, 1, 96, 98, 100, 2135, 100001, 1400097, 1400119] [(0, .d (.rp 0 0)), (1, .r (.arr 1 [.rs 700048 0 ((a0.sizes_.set a2.First.toNat (IntKind.i64.wrap (y6 + 1))).length), .rs 700059 0 s9.1.length] [700059, 700048])), (96, .d (.rs 50000 0 v8.length)), (98, .d (iv (v8.length : Int))), (100, .d (iv s9.2)), (2135, .r (.arr 1 (y15.flatMap eI.o ++ ([(-1)] : List Int).flatMap eI.o) [])), (100001, .r (.arr 1 (v8.flatMap eI.o) [])), (1400097, .r (.arr 1 ((a0.sizes_.set a2.First.toNat (IntKind.i64.wrap (y6 + 1))).flatMap eI.o) [])), (1400119, .r (.arr 1 (((s9.1.flatMap (eS eI).o).set (0 + y14.toNat * 1) (.rs 700060 0 y15.length)).take (0 + y14.toNat * 1) ++ [.rs 1067 0 (y15.length + (([(-1)] : List Int).length))] ++ ((s9.1.flatMap (eS eI).o).set (0 + y14.toNat * 1) (.rs 700060 0 y15.length)).drop (0 + y14.toNat * 1 + 1)) [700060, 1067]))] (.cons hy15'.1 (.cons hy15'.2.1 (.cons (set_at (d := .rs 700060 0 y15.length) (lt_flat (eS_ok eI_ok) (by kernel_rfl) hy15'.2.2)) (.cons (lenO_flat eI_ok y15) (.cons (lenO_flat eI_ok ([(-1)] : List Int)) (.cons h16 (.cons hy15'.1 (.cons hy15'.2.1 (.cons (store_le_set (j := 0 + y14.toNat * 1) (d := .rs 700060 0 y15.length) (eS_ok eI_ok) hy15'.2.2) .nil))))))))) (by kernel_rfl) (by kernel_rfl) (b_n (q_n ?_))
            refine Tr.by (imp_cvE (r := 1067) (sz := 1) (refs := []) (flat_app eI.o y15 ([(-1)] : List Int)) (menO_flat eI_ok _) (by kernel_rfl)) ?_
            refine Tr.by (imp_rowPut (r := 700059) (t := 1067) (q := 700060) (n := y15.length) eI_ok (y := (y15 ++ ([(-1)] : List Int))) hy15'.2.2 (((len_app y15 ([(-1)] : List Int))).symm) (by kernel_rfl) (by kernel_rfl) (by kernel_rfl)) ?_
            refine Tr.by (imp_cvB (r := 0) (sz := 1) (cells := [.rs 700048 0 ((a0.sizes_.set a2.First.toNat (IntKind.i64.wrap (y6 + 1))).length), .rs 700059 0 s9.1.length]) (cells' := [.rs 700048 0 ((a0.sizes_.set a2.First.toNat (IntKind.i64.wrap (y6 + 1))).length), .rs 700059 0 ((s9.1.set y14.toNat (y15 ++ ([(-1)] : List Int))).length)]) (refs := [700059, 700048]) (refs' := [700059, 700048]) (.cons (.refl _) (.cons (Sub.of_eq (congrArg (D.rs 700059 0) (List.length_set.symm : s9.1.length = (s9.1.set y14.toNat (y15 ++ ([(-1)] : List Int))).length))) .nil)) (by kernel_rfl) (by kernel_rfl) (by kernel_rfl)) ?_
            refine tr_r hT hm [] [0, 1, 96, 98, 100, 100001, 1400097, 1400119] [(0, .d (.rp 0 0)), (1, .r (.arr 1 [.rs 700048 0 ((a0.sizes_.set a2.First.toNat (IntKind.i64.wrap (y6 + 1))).length), .rs 700059 0 ((s9.1.set y14.toNat (y15 ++ ([(-1)] : List Int))).length)] [700059, 700048])), (96, .d (.rs 50000 0 v8.length)), (98, .d (iv (v8.length : Int))), (100, .d (iv (IntKind.i64.wrap (s9.2 + 1)))), (100001, .r (.arr 1 (v8.flatMap eI.o) [])), (1400097, .r (.arr 1 ((a0.sizes_.set a2.First.toNat (IntKind.i64.wrap (y6 + 1))).flatMap eI.o) [])), (1400119, .r (.arr 1 ((s9.1.set y14.toNat (y15 ++ ([(-1)] : List Int))).flatMap (eS eI).o) []))] .nil (by kernel_rfl) (by kernel_rfl) (l_n ?_)
            refine TrL.by (imp_dem (r := 0) (q := 700059) (sz := 1) (n := ((s9.1.set y14.toNat (y15 ++ ([(-1)] : List Int))).length)) (j := 1) (pre := []) (l := [.rs 700048 0 ((a0.sizes_.set a2.First.toNat (IntKind.i64.wrap (y6 + 1))).length), .rs 700059 0 ((s9.1.set y14.toNat (y15 ++ ([(-1)] : List Int))).length)]) (post := []) (refs := [700059, 700048]) (refs' := [700048]) rfl rfl (lenO_flat (eS_ok eI_ok) (s9.1.set y14.toNat (y15 ++ ([(-1)] : List Int)))) (by kernel_rfl) (by kernel_rfl) (by kernel_rfl) (by kernel_rfl) (by kernel_rfl)) ?_
            exact trl_start (ks := [0, 1, 96, 98, 100, 100001, 1400097]) (by kernel_rfl) (ih11 (s9.1.set y14.toNat (y15 ++ ([(-1)] : List Int)), IntKind.i64.wrap (s9.2 + 1)) hM)
          · have hM := ite_false' hM h13
            refine tr_condFe (e := decide (s9.2 < (v8.length : Int))) h13 (by kernel_rfl) ?_
            refine tr_exit (q_x (l_x (b_h (q_n ?_))))
            refine tr_sr hT hm [] [1, 12, 1400097] [(1, .r (.arr 1 [.rs 700048 0 ((a0.sizes_.set a2.First.toNat (IntKind.i64.wrap (y6 + 1))).length), .fr 1 s9.1.length (s9.1.flatMap (eS eI).o)] [700048])), (12, .d (bv true)), (1400097, .r (.arr 1 ((a0.sizes_.set a2.First.toNat (IntKind.i64.wrap (y6 + 1))).flatMap eI.o) []))] .nil (by kernel_rfl) (by kernel_rfl) ?_
            refine tr_ret (q_r (rg_r ?_))
            refine RetG.by (imp_dem (r := 0) (q := 700048) (sz := 1) (n := ((a0.sizes_.set a2.First.toNat (IntKind.i64.wrap (y6 + 1))).length)) (j := 0) (pre := []) (l := [.rs 700048 0 ((a0.sizes_.set a2.First.toNat (IntKind.i64.wrap (y6 + 1))).length), .fr 1 s9.1.length (s9.1.flatMap (eS eI).o)]) (post := []) (refs := [700048]) (refs' := []) rfl rfl (lenO_flat eI_ok (a0.sizes_.set a2.First.toNat (IntKind.i64.wrap (y6 + 1)))) (by kernel_rfl) (by kernel_rfl) (by kernel_rfl) (by kernel_rfl) (by kernel_rfl)) ?_
            obtain rfl := Option.some.inj hM
            exact retg (names := [0]) .nil (by kernel_rfl)
      · have hM := ite_false' hM h5
        refine tr_sr hT hm [(7, .call [] [] [iv a2.First, iv 0, iv (IntKind.i64.wrap (a1.Nodes - 1))] [] (bv v4)), (9, .val (bv true))] [0, 1, 2, 10, 68, 2011] [(0, .d (.rp 0 0)), (1, .r (.arr 1 [.fr 1 a0.sizes_.length (a0.sizes_.flatMap eI.o), .fr 1 a0.maps_.length (a0.maps_.flatMap (eS eI).o)] [])), (2, .d (.pt (eXSchema.b a1) 0)), (10, .d (.rp 1005 0)), (68, .d (bv true)), bxB 2011 (eXChange.b a2)] (cc0 ok159 (impl_inRange_c a2.First 0 (IntKind.i64.wrap (a1.Nodes - 1)) _ hv4) (by kernel_rfl) (.cons (congrArg (fun b => bv b) (congrArg not h5)) .nil)) (by kernel_rfl) (by kernel_rfl) ?_
        refine tr_condT (by kernel_rfl) ?_
        refine tr_sr hT hm [] [1, 12] [(1, .r (.arr 1 [.fr 1 a0.sizes_.length (a0.sizes_.flatMap eI.o), .fr 1 a0.maps_.length (a0.maps_.flatMap (eS eI).o)] [])), (12, .d (bv false))] .nil (by kernel_rfl) (by kernel_rfl) ?_
        refine tr_ret (q_r (q_r (rg_r ?_)))
        obtain rfl := Option.some.inj hM
        exact retg (names := [0]) .nil (by kernel_rfl)
    · have hM := ite_false' hM h3
      refine tr_condFe (e := a2.Kind == 1) h3 (by kernel_rfl) ?_
      refine tr_skip (q_n ?_)
      refine tr_seq ?_
      obtain ⟨v17, hv17, hM⟩ := bind_some' hM
      rcases Bool.eq_false_or_eq_true v17 with h18 | h18
      · have hM := ite_true' hM h18
        refine Tr.by (imp_promote (r := 0) (i := 0) (q := 700062) (sz := 1) (sz' := 1) (n := a0.sizes_.length) (cells := [.fr 1 a0.sizes_.length (a0.sizes_.flatMap eI.o), .fr 1 a0.maps_.length (a0.maps_.flatMap (eS eI).o)]) (ds := a0.sizes_.flatMap eI.o) (refs := []) (by kernel_rfl) (by kernel_rfl) (by kernel_rfl)) ?_
        obtain ⟨y19, hy19, hM⟩ := bind_some' hM
        have hy19' := idx_some hy19
        obtain ⟨y20, hy20, hM⟩ := bind_some' hM
        have hy20' := idx_some hy20
        obtain ⟨v21, hv21, hM⟩ := bind_some' hM
        rcases Bool.eq_false_or_eq_true v21 with h22 | h22
        · have hM := ite_true' hM h22
          obtain ⟨y23, hy23, hM⟩ := bind_some' hM
          have hy23' := idx_some hy23
          obtain ⟨y24, hy24, hM⟩ := bind_some' hM
          have hy24' := idx_some hy24
          obtain ⟨v25, hv25, hM⟩ := bind_some' hM
          refine tr_sr hT hm [(8, .call [] [] [iv a2.First, iv 0, iv (IntKind.i64.wrap ((a1.From.length : Int) - 1))] [] (bv v17)), (10, .val (bv false)), (24, .val (iv y19)), (26, .val (iv y20)), (28, .call [] [] [iv a2.Second, iv 0, iv (IntKind.i64.wrap (y20 - 1))] [] (bv v21)), (31, .val (bv false)), (45, .val (iv y23)), (47, .val (iv y24)), (49, .call [] [] [iv a2.Third, iv 0, iv (IntKind.i64.wrap (y24 - 1))] [] (bv v25))] [0, 1, 10, 242, 2011, 1400125] [(0, .d (.rp 0 0)), (1, .r (.arr 1 [.rs 700062 0 a0.sizes_.length, .fr 1 a0.maps_.length (a0.maps_.flatMap (eS eI).o)] [700062])), (10, .d (.rp 1005 0)), (242, .d (bv (!v25))), bxB 2011 (eXChange.b a2), (1400125, .r (.arr 1 (a0.sizes_.flatMap eI.o) []))] (cc0 ok159 (impl_inRange_c a2.First 0 (IntKind.i64.wrap ((a1.From.length : Int) - 1)) _ hv17) (by kernel_rfl) (.cons (congrArg (fun b => bv b) (congrArg not h18)) (.cons hy19'.1 (.cons hy19'.2.1 (.cons (at_b0 eI_ok hy19'.2.2 (d := iv y19) (by kernel_rfl)) (.cons hy20'.1 (.cons hy20'.2.1 (.cons (at_o0 eI_ok hy20'.2.2 (d := iv y20) (by kernel_rfl)) (cc0 ok159 (impl_inRange_c a2.Second 0 (IntKind.i64.wrap (y20 - 1)) _ hv21) (by kernel_rfl) (.cons (congrArg (fun b => bv b) (congrArg not h22)) (.cons hy23'.1 (.cons hy23'.2.1 (.cons (at_b0 eI_ok hy23'.2.2 (d := iv y23) (by kernel_rfl)) (.cons hy24'.1 (.cons hy24'.2.1 (.cons (at_o0 eI_ok hy24'.2.2 (d := iv y24) (by kernel_rfl)) (cc0 ok159 (impl_inRange_c a2.Third 0 (IntKind.i64.wrap (y24 - 1)) _ hv25) (by kernel_rfl) .nil))))))))))))))))) (by kernel_rfl) (by kernel_rfl) ?_
          rcases Bool.eq_false_or_eq_true v25 with h26 | h26
          · have hM := ite_true' hM h26
            refine tr_condFe (e := !v25) (congrArg not h26) (by kernel_rfl) ?_
            refine tr_skip (q_n ?_)
            refine Tr.by (imp_promote (r := 0) (i := 1) (q := 700063) (sz := 1) (sz' := 1) (n := a0.maps_.length) (cells := [.rs 700062 0 a0.sizes_.length, .fr 1 a0.maps_.length (a0.maps_.flatMap (eS eI).o)]) (ds := a0.maps_.flatMap (eS eI).o) (refs := [700062]) (by kernel_rfl) (by kernel_rfl) (by kernel_rfl)) ?_
            obtain ⟨y27, hy27, hM⟩ := bind_some' hM
            have hy27' := idx_some hy27
            refine Tr.by (imp_rowOut (r := 700063) (q := 700064) (i := a2.First) (xs := a0.maps_) (e := eI) (eS_ok eI_ok) hy27'.2.2 (by kernel_rfl) (by kernel_rfl)) ?_
            obtain ⟨y28, hy28, hM⟩ := bind_some' hM
            have hy28' := idx_some hy28
            refine tr_sr hT hm [(7, .val (.rs 700064 0 y27.length))] [1, 1400125, 1400127, 1400129] [(1, .r (.arr 1 [.rs 700062 0 a0.sizes_.length, .rs 700063 0 a0.maps_.length] [700063, 700062])), (1400125, .r (.arr 1 (a0.sizes_.flatMap eI.o) [])), (1400127, .r (.arr 1 ((a0.maps_.flatMap (eS eI).o).set (0 + a2.First.toNat * 1) (.rs 700064 0 y27.length)) [700064])), (1400129, .r (.arr 1 ((y27.flatMap eI.o).take (0 + a2.Second.toNat * 1) ++ [iv a2.Third] ++ (y27.flatMap eI.o).drop (0 + a2.Second.toNat * 1 + 1)) []))] (.cons hy27'.1 (.cons hy27'.2.1 (.cons (set_at (d := .rs 700064 0 y27.length) (lt_flat (eS_ok eI_ok) (by kernel_rfl) hy27'.2.2)) (.cons hy28'.1 (.cons hy28'.2.1 (.cons (store_le eI_ok hy28'.2.2) .nil)))))) (by kernel_rfl) (by kernel_rfl) ?_
            refine Tr.by (imp_cvE (r := 700064) (sz := 1) (refs := []) (set_flat eI_ok.lenO (y := a2.Third) hy28'.2.2) (menO_flat eI_ok _) (by kernel_rfl)) ?_
            refine Tr.by (imp_rowBack (r := 700063) (q := 700064) (n := y27.length) (i := a2.First) (xs := a0.maps_) (e := eI) (x' := (y27.set a2.Second.toNat a2.Third)) eI_ok hy27'.2.2 List.length_set.symm (by kernel_rfl) (by kernel_rfl) (by kernel_rfl)) ?_
            refine Tr.by (imp_cvB (r := 0) (sz := 1) (cells := [.rs 700062 0 a0.sizes_.length, .rs 700063 0 a0.maps_.length]) (cells' := [.rs 700062 0 a0.sizes_.length, .rs 700063 0 ((a0.maps_.set a2.First.toNat (y27.set a2.Second.toNat a2.Third)).length)]) (refs := [700063, 700062]) (refs' := [700063, 700062]) (.cons (.refl _) (.cons (Sub.of_eq (congrArg (D.rs 700063 0) (List.length_set.symm : a0.maps_.length = (a0.maps_.set a2.First.toNat (y27.set a2.Second.toNat a2.Third)).length))) .nil)) (by kernel_rfl) (by kernel_rfl) (by kernel_rfl)) ?_
            refine tr_sr hT hm [] [1, 12, 1400125, 1400127] [(1, .r (.arr 1 [.rs 700062 0 a0.sizes_.length, .rs 700063 0 ((a0.maps_.set a2.First.toNat (y27.set a2.Second.toNat a2.Third)).length)] [700063, 700062])), (12, .d (bv true)), (1400125, .r (.arr 1 (a0.sizes_.flatMap eI.o) [])), (1400127, .r (.arr 1 ((a0.maps_.set a2.First.toNat (y27.set a2.Second.toNat a2.Third)).flatMap (eS eI).o) []))] .nil (by kernel_rfl) (by kernel_rfl) ?_
            refine tr_ret (rg_r ?_)
            refine RetG.by (imp_dem (r := 0) (q := 700062) (sz := 1) (n := a0.sizes_.length) (j := 0) (pre := []) (l := [.rs 700062 0 a0.sizes_.length, .rs 700063 0 ((a0.maps_.set a2.First.toNat (y27.set a2.Second.toNat a2.Third)).length)]) (post := []) (refs := [700063, 700062]) (refs' := [700063]) rfl rfl (lenO_flat eI_ok a0.sizes_) (by kernel_rfl) (by kernel_rfl) (by kernel_rfl) (by kernel_rfl) (by kernel_rfl)) ?_
            refine RetG.by (imp_dem (r := 0) (q := 700063) (sz := 1) (n := ((a0.maps_.set a2.First.toNat (y27.set a2.Second.toNat a2.Third)).length)) (j := 1) (pre := []) (l := [.fr 1 a0.sizes_.length (a0.sizes_.flatMap eI.o), .rs 700063 0 ((a0.maps_.set a2.First.toNat (y27.set a2.Second.toNat a2.Third)).length)]) (post := []) (refs := [700063]) (refs' := []) rfl rfl (lenO_flat (eS_ok eI_ok) (a0.maps_.set a2.First.toNat (y27.set a2.Second.toNat a2.Third))) (by kernel_rfl) (by kernel_rfl) (by kernel_rfl) (by kernel_rfl) (by kernel_rfl)) ?_
            obtain rfl := Option.some.inj hM
            exact retg (names := [0]) .nil (by kernel_rfl)
          · have hM := ite_false' hM h26
            refine tr_condTe (e := !v25) (congrArg not h26) (by kernel_rfl) ?_
            refine tr_sr hT hm [] [1, 12, 1400125] [(1, .r (.arr 1 [.rs 700062 0 a0.sizes_.length, .fr 1 a0.maps_.length (a0.maps_.flatMap (eS eI).o)] [700062])), (12, .d (bv false)), (1400125, .r (.arr 1 (a0.sizes_.flatMap eI.o) []))] .nil (by kernel_rfl) (by kernel_rfl) ?_
            refine tr_ret (q_r (rg_r ?_))
            refine RetG.by (imp_dem (r := 0) (q := 700062) (sz := 1) (n := a0.sizes_.length) (j := 0) (pre := []) (l := [.rs 700062 0 a0.sizes_.length, .fr 1 a0.maps_.length (a0.maps_.flatMap (eS eI).o)]) (post := []) (refs := [700062]) (refs' := []) rfl rfl (lenO_flat eI_ok a0.sizes_) (by kernel_rfl) (by kernel_rfl) (by kernel_rfl) (by kernel_rfl) (by kernel_rfl)) ?_
            obtain rfl := Option.some.inj hM
            exact retg (names := [0]) .nil (by kernel_rfl)
        · have hM := ite_false' hM h22
          refine tr_sr hT hm [(8, .call [] [] [iv a2.First, iv 0, iv (IntKind.i64.wrap ((a1.From.length : Int) - 1))] [] (bv v17)), (10, .val (bv false)), (24, .val (iv y19)), (26, .val (iv y20)), (28, .call [] [] [iv a2.Second, iv 0, iv (IntKind.i64.wrap (y20 - 1))] [] (bv v21)), (31, .val (bv true))] [0, 1, 10, 242, 2011, 1400125] [(0, .d (.rp 0 0)), (1, .r (.arr 1 [.rs 700062 0 a0.sizes_.length, .fr 1 a0.maps_.length (a0.maps_.flatMap (eS eI).o)] [700062])), (10, .d (.rp 1005 0)), (242, .d (bv true)), bxB 2011 (eXChange.b a2), (1400125, .r (.arr 1 (a0.sizes_.flatMap eI.o) []))] (cc0 ok159 (impl_inRange_c a2.First 0 (IntKind.i64.wrap ((a1.From.length : Int) - 1)) _ hv17) (by kernel_rfl) (.cons (congrArg (fun b => bv b) (congrArg not h18)) (.cons hy19'.1 (.cons hy19'.2.1 (.cons (at_b0 eI_ok hy19'.2.2 (d := iv y19) (by kernel_rfl)) (.cons hy20'.1 (.cons hy20'.2.1 (.cons (at_o0 eI_ok hy20'.2.2 (d := iv y20) (by kernel_rfl)) (cc0 ok159 (impl_inRange_c a2.Second 0 (IntKind.i64.wrap (y20 - 1)) _ hv21) (by kernel_rfl) (.cons (congrArg (fun b => bv b) (congrArg not h22)) .nil)))))))))) (by kernel_rfl) (by kernel_rfl) ?_
          refine tr_condT (by kernel_rfl) ?_
          refine tr_sr hT hm [] [1, 12, 1400125] [(1, .r (.arr 1 [.rs 700062 0 a0.sizes_.length, .fr 1 a0.maps_.length (a0.maps_.flatMap (eS eI).o)] [700062])), (12, .d (bv false)), (1400125, .r (.arr 1 (a0.sizes_.flatMap eI.o) []))] .nil (by kernel_rfl) (by kernel_rfl) ?_
          refine tr_ret (q_r (rg_r ?_))
          refine RetG.by (imp_dem (r := 0) (q := 700062) (sz := 1) (n := a0.sizes_.length) (j := 0) (pre := []) (l := [.rs 700062 0 a0.sizes_.length, .fr 1 a0.maps_.length (a0.maps_.flatMap (eS eI).o)]) (post := []) (refs := [700062]) (refs' := []) rfl rfl (lenO_flat eI_ok a0.sizes_) (by kernel_rfl) (by kernel_rfl) (by kernel_rfl) (by kernel_rfl) (by kernel_rfl)) ?_
          obtain rfl := Option.some.inj hM
          exact retg (names := [0]) .nil (by kernel_rfl)
      · have hM := ite_false' hM h18
        refine tr_sr hT hm [(8, .call [] [] [iv a2.First, iv 0, iv (IntKind.i64.wrap ((a1.From.length : Int) - 1))] [] (bv v17)), (10, .val (bv true))] [0, 1, 10, 242, 2011] [(0, .d (.rp 0 0)), (1, .r (.arr 1 [.fr 1 a0.sizes_.length (a0.sizes_.flatMap eI.o), .fr 1 a0.maps_.length (a0.maps_.flatMap (eS eI).o)] [])), (10, .d (.rp 1005 0)), (242, .d (bv true)), bxB 2011 (eXChange.b a2)] (cc0 ok159 (impl_inRange_c a2.First 0 (IntKind.i64.wrap ((a1.From.length : Int) - 1)) _ hv17) (by kernel_rfl) (.cons (congrArg (fun b => bv b) (congrArg not h18)) .nil)) (by kernel_rfl) (by kernel_rfl) ?_
        refine tr_condT (by kernel_rfl) ?_
        refine tr_sr hT hm [] [1, 12] [(1, .r (.arr 1 [.fr 1 a0.sizes_.length (a0.sizes_.flatMap eI.o), .fr 1 a0.maps_.length (a0.maps_.flatMap (eS eI).o)] [])), (12, .d (bv false))] .nil (by kernel_rfl) (by kernel_rfl) ?_
        refine tr_ret (q_r (rg_r ?_))
        obtain rfl := Option.some.inj hM
        exact retg (names := [0]) .nil (by kernel_rfl)
  · have hM := ite_false' hM h2
    refine tr_condTe (e := !v1) (congrArg not h2) (by kernel_rfl) ?_
    refine tr_sr hT hm [] [1, 12] [(1, .r (.arr 1 [.fr 1 a0.sizes_.length (a0.sizes_.flatMap eI.o), .fr 1 a0.maps_.length (a0.maps_.flatMap (eS eI).o)] [])), (12, .d (bv false))] .nil (by kernel_rfl) (by kernel_rfl) ?_
    refine tr_ret (q_r (rg_r ?_))
    obtain rfl := Option.some.inj hM
    exact retg (names := [0]) .nil (by kernel_rfl)

theorem ok255 : CallOk Try.prog 255 := callOk_of Try.func255 (by kernel_rfl) (by kernel_rfl)
theorem impl_lead_c (a0 : List (List Int)) (a1 : List Int) (a2 : Int) (r : Int) (hM : M.impl_lead a0 a1 a2 = some r) :
    FnC Try.prog 255 [] [.sl a0.length 0 (a0.flatMap (eS eI).b), .sl a1.length 0 (a1.flatMap eI.b), iv a2] [] (iv r) := by
  refine fnc_startG (N := 24) (np := 500) hT Try.func255 rfl rfl (by kernel_rfl) ?_
  unfold M.impl_lead at hM
  refine tr_start (ks := [0, 2, 4]) (st' := [(0, .d (.sl a0.length 0 (a0.flatMap (eS eI).b))), (2, .d (.sl a1.length 0 (a1.flatMap eI.b))), (4, .d (iv a2))]) (by kernel_rfl) ?_
  refine tr_sr hT hm [] [0, 2, 4] [(0, .d (.sl a0.length 0 (a0.flatMap (eS eI).b))), (2, .d (.sl a1.length 0 (a1.flatMap eI.b))), (4, .d (iv a2))] .nil (by kernel_rfl) (by kernel_rfl) ?_
  refine tr_seq ?_
  refine tr_sr hT hm [] [0, 4, 18, 20, 22] [(0, .d (.sl a0.length 0 (a0.flatMap (eS eI).b))), (4, .d (iv a2)), (18, .d (.sl a1.length 0 (a1.flatMap eI.b))), (20, .d (iv (a1.length : Int))), (22, .d (iv 0))] .nil (by kernel_rfl) (by kernel_rfl) ?_
  refine tr_block ?_
  refine tr_iterS (fun (s1 : Int × Int) => [(0, .d (.sl a0.length 0 (a0.flatMap (eS eI).b))), (4, .d (iv s1.2)), (18, .d (.sl a1.length 0 (a1.flatMap eI.b))), (20, .d (iv (a1.length : Int))), (22, .d (iv s1.1))]) (0, a2) [0, 4, 18, 20, 22] (by kernel_rfl) hM ?_
  intro n4 next2 ih3 s1 hM
  refine tr_sr hT hm [] [0, 4, 18, 20, 22, 24] [(0, .d (.sl a0.length 0 (a0.flatMap (eS eI).b))), (4, .d (iv s1.2)), (18, .d (.sl a1.length 0 (a1.flatMap eI.b))), (20, .d (iv (a1.length : Int))), (22, .d (iv s1.1)), (24, .d (bv (decide (s1.1 < (a1.length : Int)))))] .nil (by kernel_rfl) (by kernel_rfl) ?_
  refine tr_seq ?_
  rcases Bool.eq_false_or_eq_true (decide (s1.1 < (a1.length : Int))) with h5 | h5
  · have hM := ite_true' hM h5
    refine tr_condTe (e := decide (s1.1 < (a1.length : Int))) h5 (by kernel_rfl) ?_
    refine tr_skip (q_n ?_)
    refine tr_seq ?_
    refine tr_block ?_
    obtain ⟨y6, hy6, hM⟩ := bind_some' hM
    have hy6' := idx_some hy6
    refine tr_sr hT hm [(1, .val (iv y6))] [0, 4, 16, 18, 20, 22] [(0, .d (.sl a0.length 0 (a0.flatMap (eS eI).b))), (4, .d (iv s1.2)), (16, .d (iv y6)), (18, .d (.sl a1.length 0 (a1.flatMap eI.b))), (20, .d (iv (a1.length : Int))), (22, .d (iv s1.1))] (.cons hy6'.1 (.cons hy6'.2.1 (.cons (at_b0 eI_ok hy6'.2.2 (d := iv y6) (by kernel_rfl)) .nil))) (by kernel_rfl) (by kernel_rfl) ?_
    obtain ⟨y7, hy7, hM⟩ := bind_some' hM
    have hy7' := idx_some hy7
    obtain ⟨y8, hy8, hM⟩ := bind_some' hM
    have hy8' := idx_some hy8
    refine tr_r hT hm [(3, .val (.sl y7.length 0 (y7.flatMap eI.b))), (6, .val (iv y8))] [0, 4, 18, 20, 22] [(0, .d (.sl a0.length 0 (a0.flatMap (eS eI).b))), (4, .d (iv y8)), (18, .d (.sl a1.length 0 (a1.flatMap eI.b))), (20, .d (iv (a1.length : Int))), (22, .d (iv s1.1))] (.cons hy7'.1 (.cons hy7'.2.1 (.cons (at_b0 (eS_ok eI_ok) hy7'.2.2 (d := .sl y7.length 0 (y7.flatMap eI.b)) (by kernel_rfl)) (.cons hy8'.1 (.cons hy8'.2.1 (.cons (at_b0 eI_ok hy8'.2.2 (d := iv y8) (by kernel_rfl)) .nil)))))) (by kernel_rfl) (by kernel_rfl) (b_n (q_n ?_))
    refine tr_r hT hm [] [0, 4, 18, 20, 22] [(0, .d (.sl a0.length 0 (a0.flatMap (eS eI).b))), (4, .d (iv y8)), (18, .d (.sl a1.length 0 (a1.flatMap eI.b))), (20, .d (iv (a1.length : Int))), (22, .d (iv (IntKind.i64.wrap (s1.1 + 1))))] .nil (by kernel_rfl) (by kernel_rfl) (l_n ?_)
    exact trl_start (ks := [0, 4, 18, 20, 22]) (by kernel_rfl) (ih3 (IntKind.i64.wrap (s1.1 + 1), y8) hM)
  · have hM := ite_false' hM h5
    refine tr_condFe (e := decide (s1.1 < (a1.length : Int))) h5 (by kernel_rfl) ?_
    refine tr_exit (q_x (l_x (b_h (q_n ?_))))
    refine tr_sr hT hm [] [12] [(12, .d (iv s1.2))] .nil (by kernel_rfl) (by kernel_rfl) ?_
    refine tr_ret (rg_r ?_)
    obtain rfl := Option.some.inj hM
    exact retg (names := []) .nil (by kernel_rfl)

theorem ok176 : CallOk Try.prog 176 := callOk_of Try.func176 (by kernel_rfl) (by kernel_rfl)
theorem impl_Schema_broken_c (a0 : XSchema) (a1 : List Int) (a2 : List (List Int)) (r : Int × Int) (hM : M.impl_Schema_broken a0 a1 a2 = some r) :
    FnC Try.prog 176 [] [.pt (eXSchema.b a0) 0, .sl a1.length 0 (a1.flatMap eI.b), .sl a2.length 0 (a2.flatMap (eS eI).b)] [] (.tup [iv r.1, iv r.2]) := by
  refine fnc_startG (N := 50) (np := 500) hT Try.func176 rfl rfl (by kernel_rfl) ?_
  unfold M.impl_Schema_broken at hM
  refine tr_start (ks := [0, 2, 4]) (st' := [(0, .d (.pt (eXSchema.b a0) 0)), (2, .d (.sl a1.length 0 (a1.flatMap eI.b))), (4, .d (.sl a2.length 0 (a2.flatMap (eS eI).b)))]) (by kernel_rfl) ?_
  refine tr_sr hT hm [] [0, 2, 4] [(0, .d (.pt (eXSchema.b a0) 0)), (2, .d (.sl a1.length 0 (a1.flatMap eI.b))), (4, .d (.sl a2.length 0 (a2.flatMap (eS eI).b)))] .nil (by kernel_rfl) (by kernel_rfl) ?_
  refine tr_seq ?_
  refine tr_sr hT hm [] [0, 2, 4, 28, 30, 32] [(0, .d (.pt (eXSchema.b a0) 0)), (2, .d (.sl a1.length 0 (a1.flatMap eI.b))), (4, .d (.sl a2.length 0 (a2.flatMap (eS eI).b))), (28, .d (.sl a0.Left.length 0 (a0.Left.flatMap eXPath.b))), (30, .d (iv (a0.Left.length : Int))), (32, .d (iv 0))] .nil (by kernel_rfl) (by kernel_rfl) ?_
  refine tr_block ?_
  refine tr_iterS (fun (s1 : Int) => [(0, .d (.pt (eXSchema.b a0) 0)), (2, .d (.sl a1.length 0 (a1.flatMap eI.b))), (4, .d (.sl a2.length 0 (a2.flatMap (eS eI).b))), (28, .d (.sl a0.Left.length 0 (a0.Left.flatMap eXPath.b))), (30, .d (iv (a0.Left.length : Int))), (32, .d (iv s1))]) 0 [0, 2, 4, 28, 30, 32] (by kernel_rfl) hM ?_
  intro n4 next2 ih3 s1 hM
  refine tr_sr hT hm [] [0, 2, 4, 28, 30, 32, 34] [(0, .d (.pt (eXSchema.b a0) 0)), (2, .d (.sl a1.length 0 (a1.flatMap eI.b))), (4, .d (.sl a2.length 0 (a2.flatMap (eS eI).b))), (28, .d (.sl a0.Left.length 0 (a0.Left.flatMap eXPath.b))), (30, .d (iv (a0.Left.length : Int))), (32, .d (iv s1)), (34, .d (bv (decide (s1 < (a0.Left.length : Int)))))] .nil (by kernel_rfl) (by kernel_rfl) ?_
  refine tr_seq ?_
  rcases Bool.eq_false_or_eq_true (decide (s1 < (a0.Left.length : Int))) with h5 | h5
  · have hM := ite_true' hM h5
    refine tr_condTe (e := decide (s1 < (a0.Left.length : Int))) h5 (by kernel_rfl) ?_
    refine tr_skip (q_n ?_)
    refine tr_seq ?_
    refine tr_block ?_
    obtain ⟨y6, hy6, hM⟩ := bind_some' hM
    have hy6' := idx_some hy6
    refine tr_sr hT hm [(2, .val (.agg [iv y6.Start, .sl y6.Edges.length 0 (y6.Edges.flatMap eI.b)]))] [0, 2, 4, 16, 18, 28, 30, 32, 2019] [(0, .d (.pt (eXSchema.b a0) 0)), (2, .d (.sl a1.length 0 (a1.flatMap eI.b))), (4, .d (.sl a2.length 0 (a2.flatMap (eS eI).b))), (16, .d (iv s1)), (18, .d (.rp 1009 0)), (28, .d (.sl a0.Left.length 0 (a0.Left.flatMap eXPath.b))), (30, .d (iv (a0.Left.length : Int))), (32, .d (iv s1)), bxB 2019 (eXPath.b y6)] (.cons hy6'.1 (.cons hy6'.2.1 (.cons (sub_b eXPath_ok hy6'.2.2) (.cons (Nat.le_of_ble_eq_true (n := 2) (m := 2) rfl) .nil)))) (by kernel_rfl) (by kernel_rfl) ?_
    obtain ⟨y7, hy7, hM⟩ := bind_some' hM
    have hy7' := idx_some hy7
    refine tr_sr hT hm [(4, .val (iv y7))] [0, 2, 4, 16, 18, 28, 30, 32, 50, 52, 2019] [(0, .d (.pt (eXSchema.b a0) 0)), (2, .d (.sl a1.length 0 (a1.flatMap eI.b))), (4, .d (.sl a2.length 0 (a2.flatMap (eS eI).b))), (16, .d (iv s1)), (18, .d (.rp 1009 0)), (28, .d (.sl a0.Left.length 0 (a0.Left.flatMap eXPath.b))), (30, .d (iv (a0.Left.length : Int))), (32, .d (iv s1)), (50, .d (iv y7)), (52, .d (iv 0)), bxB 2019 (eXPath.b y6)] (.cons hy7'.1 (.cons hy7'.2.1 (.cons (at_b0 eI_ok hy7'.2.2 (d := iv y7) (by kernel_rfl)) .nil))) (by kernel_rfl) (by kernel_rfl) ?_
    refine tr_block ?_
    refine tr_iterS (fun (s8 : Int) => [(0, .d (.pt (eXSchema.b a0) 0)), (2, .d (.sl a1.length 0 (a1.flatMap eI.b))), (4, .d (.sl a2.length 0 (a2.flatMap (eS eI).b))), (16, .d (iv s1)), (18, .d (.rp 1009 0)), (28, .d (.sl a0.Left.length 0 (a0.Left.flatMap eXPath.b))), (30, .d (iv (a0.Left.length : Int))), (32, .d (iv s1)), (50, .d (iv y7)), (52, .d (iv s8)), bxB 2019 (eXPath.b y6)]) 0 [0, 2, 4, 16, 18, 28, 30, 32, 50, 52, 2019] (by kernel_rfl) hM ?_
    intro n11 next9 ih10 s8 hM
    refine tr_sr hT hm [] [0, 2, 4, 16, 18, 28, 30, 32, 50, 52, 54, 2019] [(0, .d (.pt (eXSchema.b a0) 0)), (2, .d (.sl a1.length 0 (a1.flatMap eI.b))), (4, .d (.sl a2.length 0 (a2.flatMap (eS eI).b))), (16, .d (iv s1)), (18, .d (.rp 1009 0)), (28, .d (.sl a0.Left.length 0 (a0.Left.flatMap eXPath.b))), (30, .d (iv (a0.Left.length : Int))), (32, .d (iv s1)), (50, .d (iv y7)), (52, .d (iv s8)), (54, .d (bv (decide (s8 < y7)))), bxB 2019 (eXPath.b y6)] .nil (by kernel_rfl) (by kernel_rfl) ?_
    refine tr_seq ?_
    rcases Bool.eq_false_or_eq_true (decide (s8 < y7)) with h12 | h12
    · have hM := ite_true' hM h12
      refine tr_condTe (e := decide (s8 < y7)) h12 (by kernel_rfl) ?_
      refine tr_skip (q_n ?_)
      refine tr_seq ?_
      refine tr_block ?_
      refine tr_sr hT hm [] [0, 2, 4, 16, 18, 20, 28, 30, 32, 50, 52, 2019] [(0, .d (.pt (eXSchema.b a0) 0)), (2, .d (.sl a1.length 0 (a1.flatMap eI.b))), (4, .d (.sl a2.length 0 (a2.flatMap (eS eI).b))), (16, .d (iv s1)), (18, .d (.rp 1009 0)), (20, .d (iv s8)), (28, .d (.sl a0.Left.length 0 (a0.Left.flatMap eXPath.b))), (30, .d (iv (a0.Left.length : Int))), (32, .d (iv s1)), (50, .d (iv y7)), (52, .d (iv s8)), bxB 2019 (eXPath.b y6)] .nil (by kernel_rfl) (by kernel_rfl) ?_
      obtain ⟨v13, hv13, hM⟩ := bind_some' hM
      obtain ⟨y14, hy14, hM⟩ := bind_some' hM
      have hy14' := idx_some hy14
      obtain ⟨v15, hv15, hM⟩ := bind_some' hM
      refine tr_sr hT hm [(4, .call [] [] [.sl a2.length 0 (a2.flatMap (eS eI).b), .sl y6.Edges.length 0 (y6.Edges.flatMap eI.b), iv s8] [] (iv v13)), (13, .val (.sl y14.Edges.length 0 (y14.Edges.flatMap eI.b))), (15, .call [] [] [.sl a2.length 0 (a2.flatMap (eS eI).b), .sl y14.Edges.length 0 (y14.Edges.flatMap eI.b), iv s8] [] (iv v15))] [0, 2, 4, 16, 18, 20, 28, 30, 32, 50, 52, 90, 2019] [(0, .d (.pt (eXSchema.b a0) 0)), (2, .d (.sl a1.length 0 (a1.flatMap eI.b))), (4, .d (.sl a2.length 0 (a2.flatMap (eS eI).b))), (16, .d (iv s1)), (18, .d (.rp 1009 0)), (20, .d (iv s8)), (28, .d (.sl a0.Left.length 0 (a0.Left.flatMap eXPath.b))), (30, .d (iv (a0.Left.length : Int))), (32, .d (iv s1)), (50, .d (iv y7)), (52, .d (iv s8)), (90, .d (bv (v13 != v15))), bxB 2019 (eXPath.b y6)] (cc0 ok255 (impl_lead_c a2 y6.Edges s8 _ hv13) (by kernel_rfl) (.cons hy14'.1 (.cons hy14'.2.1 (.cons (at_bj (j := 1) eXPath_ok hy14'.2.2 (d := .sl y14.Edges.length 0 (y14.Edges.flatMap eI.b)) (by kernel_rfl)) (cc0 ok255 (impl_lead_c a2 y14.Edges s8 _ hv15) (by kernel_rfl) .nil))))) (by kernel_rfl) (by kernel_rfl) ?_
      rcases Bool.eq_false_or_eq_true (v13 != v15) with h16 | h16
      · have hM := ite_true' hM h16
        refine tr_condTe (e := v13 != v15) h16 (by kernel_rfl) ?_
        refine tr_sr hT hm [] [12, 14] [(12, .d (iv s1)), (14, .d (iv s8))] .nil (by kernel_rfl) (by kernel_rfl) ?_
        refine tr_ret (b_r (q_r (l_r (b_r (b_r (q_r (l_r (b_r (q_r (rg_r ?_))))))))))
        obtain rfl := Option.some.inj hM
        exact retg (names := []) .nil (by kernel_rfl)
      · have hM := ite_false' hM h16
        refine tr_condFe (e := v13 != v15) h16 (by kernel_rfl) ?_
        refine tr_skip (b_n (q_n ?_))
        refine tr_r hT hm [] [0, 2, 4, 16, 18, 28, 30, 32, 50, 52, 2019] [(0, .d (.pt (eXSchema.b a0) 0)), (2, .d (.sl a1.length 0 (a1.flatMap eI.b))), (4, .d (.sl a2.length 0 (a2.flatMap (eS eI).b))), (16, .d (iv s1)), (18, .d (.rp 1009 0)), (28, .d (.sl a0.Left.length 0 (a0.Left.flatMap eXPath.b))), (30, .d (iv (a0.Left.length : Int))), (32, .d (iv s1)), (50, .d (iv y7)), (52, .d (iv (IntKind.i64.wrap (s8 + 1)))), bxB 2019 (eXPath.b y6)] .nil (by kernel_rfl) (by kernel_rfl) (l_n ?_)
        exact trl_start (ks := [0, 2, 4, 16, 18, 28, 30, 32, 50, 52, 2019]) (by kernel_rfl) (ih10 (IntKind.i64.wrap (s8 + 1)) hM)
    · have hM := ite_false' hM h12
      refine tr_condFe (e := decide (s8 < y7)) h12 (by kernel_rfl) ?_
      refine tr_exit (q_x (l_x (b_h (b_n (q_n ?_)))))
      refine tr_r hT hm [] [0, 2, 4, 28, 30, 32] [(0, .d (.pt (eXSchema.b a0) 0)), (2, .d (.sl a1.length 0 (a1.flatMap eI.b))), (4, .d (.sl a2.length 0 (a2.flatMap (eS eI).b))), (28, .d (.sl a0.Left.length 0 (a0.Left.flatMap eXPath.b))), (30, .d (iv (a0.Left.length : Int))), (32, .d (iv (IntKind.i64.wrap (s1 + 1))))] .nil (by kernel_rfl) (by kernel_rfl) (l_n ?_)
      exact trl_start (ks := [0, 2, 4, 28, 30, 32]) (by kernel_rfl) (ih3 (IntKind.i64.wrap (s1 + 1)) hM)
  · have hM := ite_false' hM h5
    refine tr_condFe (e := decide (s1 < (a0.Left.length : Int))) h5 (by kernel_rfl) ?_
    refine tr_exit (q_x (l_x (b_h (q_n ?_))))
    refine tr_sr hT hm [] [12, 14] [(12, .d (iv (-1))), (14, .d (iv 0))] .nil (by kernel_rfl) (by kernel_rfl) ?_
    refine tr_ret (rg_r ?_)
    obtain rfl := Option.some.inj hM
    exact retg (names := []) .nil (by kernel_rfl)

theorem ok96 : CallOk Try.prog 96 := callOk_of Try.func96 (by kernel_rfl) (by kernel_rfl)
theorem impl_data_isWhole_c (a0 : Xdata) (a1 : XSchema) (r : Bool) (hM : M.impl_data_isWhole a0 a1 = some r) :
    FnC Try.prog 96 [] [.agg (eXdata.b a0), .pt (eXSchema.b a1) 0] [] (bv r) := by
  refine fnc_startG (N := 25) (np := 500) hT Try.func96 rfl rfl (by kernel_rfl) ?_
  unfold M.impl_data_isWhole at hM
  refine tr_start (ks := [0, 2]) (st' := [(0, .d (.agg (eXdata.b a0))), (2, .d (.pt (eXSchema.b a1) 0))]) (by kernel_rfl) ?_
  refine tr_sr hT hm [] [2, 4, 2005] [(2, .d (.pt (eXSchema.b a1) 0)), (4, .d (.rp 1002 0)), bxB 2005 (eXdata.b a0)] .nil (by kernel_rfl) (by kernel_rfl) ?_
  refine tr_seq ?_
  obtain ⟨v1, hv1, hM⟩ := bind_some' hM
  refine tr_sr hT hm [(5, .call [] [] [.pt (eXSchema.b a1) 0, .sl a0.sizes_.length 0 (a0.sizes_.flatMap eI.b), .sl a0.maps_.length 0 (a0.maps_.flatMap (eS eI).b)] [] (bv v1))] [2, 4, 26, 2005] [(2, .d (.pt (eXSchema.b a1) 0)), (4, .d (.rp 1002 0)), (26, .d (bv (!v1))), bxB 2005 (eXdata.b a0)] (cc0 ok94 (impl_Schema_hasRows_c a1 a0.sizes_ a0.maps_ _ hv1) (by kernel_rfl) .nil) (by kernel_rfl) (by kernel_rfl) ?_
  rcases Bool.eq_false_or_eq_true v1 with h2 | h2
  · have hM := ite_true' hM h2
    refine tr_condFe (e := !v1) (congrArg not h2) (by kernel_rfl) ?_
    refine tr_skip (q_n ?_)
    obtain ⟨v3, hv3, hM⟩ := bind_some' hM
    refine tr_sr hT hm [(5, .call [] [] [.pt (eXSchema.b a1) 0, .sl a0.sizes_.length 0 (a0.sizes_.flatMap eI.b), .sl a0.maps_.length 0 (a0.maps_.flatMap (eS eI).b)] [] (.tup [iv v3.1, iv v3.2]))] [10] [(10, .d (iv v3.1))] (cc0 ok176 (impl_Schema_broken_c a1 a0.sizes_ a0.maps_ _ hv3) (by kernel_rfl) .nil) (by kernel_rfl) (by kernel_rfl) ?_
    refine tr_sr hT hm [] [8] [(8, .d (bv (decide (v3.1 < 0))))] .nil (by kernel_rfl) (by kernel_rfl) ?_
    refine tr_ret (rg_r ?_)
    obtain rfl := Option.some.inj hM
    exact retg (names := []) .nil (by kernel_rfl)
  · have hM := ite_false' hM h2
    refine tr_condTe (e := !v1) (congrArg not h2) (by kernel_rfl) ?_
    refine tr_sr hT hm [] [8] [(8, .d (bv false))] .nil (by kernel_rfl) (by kernel_rfl) ?_
    refine tr_ret (q_r (rg_r ?_))
    obtain rfl := Option.some.inj hM
    exact retg (names := []) .nil (by kernel_rfl)

theorem ok95 : CallOk Try.prog 95 := callOk_of Try.func95 (by kernel_rfl) (by kernel_rfl)
theorem impl_data_after_c (a0 : Xdata) (a1 : XSchema) (a2 : List XChange) (r : Xdata × Bool) (hM : M.impl_data_after a0 a1 a2 = some r) :
    FnC Try.prog 95 [] [.agg (eXdata.b a0), .pt (eXSchema.b a1) 0, .sl a2.length 0 (a2.flatMap eXChange.b)] [] (.tup [.agg (eXdata.o r.1), bv r.2]) := by
  refine fnc_startG (N := 29) (np := 500) hT Try.func95 rfl rfl (by kernel_rfl) ?_
  unfold M.impl_data_after at hM
  refine tr_start (ks := [0, 2, 4]) (st' := [(0, .d (.agg (eXdata.b a0))), (2, .d (.pt (eXSchema.b a1) 0)), (4, .d (.sl a2.length 0 (a2.flatMap eXChange.b)))]) (by kernel_rfl) ?_
  refine tr_sr hT hm [] [2, 4, 6, 12, 2007, 2013] [(2, .d (.pt (eXSchema.b a1) 0)), (4, .d (.sl a2.length 0 (a2.flatMap eXChange.b))), (6, .d (.rp 1003 0)), (12, .d (.rp 1006 0)), bxB 2007 (eXdata.b a0), (2013, .r (.arr 1 [nilv, nilv] []))] .nil (by kernel_rfl) (by kernel_rfl) ?_
  obtain ⟨v1, hv1, hM⟩ := bind_some' hM
  refine tr_sr hT hm [(1, .call [] [] [.agg (eXdata.b a0)] [] (.agg (eXdata.o v1)))] [2, 4, 12, 16, 2013, 2017, 28001, 28003] ([(2, .d (.pt (eXSchema.b a1) 0)), (4, .d (.sl a2.length 0 (a2.flatMap eXChange.b))), (12, .d (.rp 1006 0)), (16, .d (.rp 1008 0)), (2013, .r (.arr 1 [nilv, nilv] [])), bxO 2017 14000 (eXdata.o v1)] ++ rsS 14000 (eXdata.o v1)) (cc0 ok174 (impl_data_copy_c a0 _ hv1) (by kernel_rfl) (.cons (Nat.le_of_ble_eq_true (n := 2) (m := 2) rfl) .nil)) (by kernel_rfl) (by kernel_rfl) ?_
  refine tr_seq ?_
  refine tr_sr hT hm [] [2, 12, 16, 26, 28, 30, 2013, 2017, 28001, 28003] ([(2, .d (.pt (eXSchema.b a1) 0)), (12, .d (.rp 1006 0)), (16, .d (.rp 1008 0)), (26, .d (.sl a2.length 0 (a2.flatMap eXChange.b))), (28, .d (iv (a2.length : Int))), (30, .d (iv 0)), (2013, .r (.arr 1 [nilv, nilv] [])), bxO 2017 14000 (eXdata.o v1)] ++ rsS 14000 (eXdata.o v1)) .nil (by kernel_rfl) (by kernel_rfl) ?_
  refine tr_block ?_
  refine tr_iterS (fun (s2 : (List Int) × (List (List Int)) × Int) => [(2, .d (.pt (eXSchema.b a1) 0)), (12, .d (.rp 1006 0)), (16, .d (.rp 1008 0)), (26, .d (.sl a2.length 0 (a2.flatMap eXChange.b))), (28, .d (iv (a2.length : Int))), (30, .d (iv s2.2.2)), (2013, .r (.arr 1 [nilv, nilv] [])), (2017, .r (.arr 1 [.rs 14000 0 s2.1.length, .rs 14001 0 s2.2.1.length] [14000, 14001])), (28001, .r (.arr 1 (s2.1.flatMap eI.o) [])), (28003, .r (.arr 1 (s2.2.1.flatMap (eS eI).o) []))]) (v1.sizes_, v1.maps_, 0) [2, 12, 16, 26, 28, 30, 2013, 2017, 28001, 28003] (by kernel_rfl) hM ?_
  intro n5 next3 ih4 s2 hM
  refine tr_sr hT hm [] [2, 12, 16, 26, 28, 30, 32, 2013, 2017, 28001, 28003] [(2, .d (.pt (eXSchema.b a1) 0)), (12, .d (.rp 1006 0)), (16, .d (.rp 1008 0)), (26, .d (.sl a2.length 0 (a2.flatMap eXChange.b))), (28, .d (iv (a2.length : Int))), (30, .d (iv s2.2.2)), (32, .d (bv (decide (s2.2.2 < (a2.length : Int))))), (2013, .r (.arr 1 [nilv, nilv] [])), (2017, .r (.arr 1 [.rs 14000 0 s2.1.length, .rs 14001 0 s2.2.1.length] [14000, 14001])), (28001, .r (.arr 1 (s2.1.flatMap eI.o) [])), (28003, .r (.arr 1 (s2.2.1.flatMap (eS eI).o) []))] .nil (by kernel_rfl) (by kernel_rfl) ?_
  refine tr_seq ?_
  rcases Bool.eq_false_or_eq_true (decide (s2.2.2 < (a2.length : Int))) with h6 | h6
  · have hM := ite_true' hM h6
    refine tr_condTe (e := decide (s2.2.2 < (a2.length : Int))) h6 (by kernel_rfl) ?_
    refine tr_skip (q_n ?_)
    refine tr_seq ?_
    refine tr_block ?_
    obtain ⟨y7, hy7, hM⟩ := bind_some' hM
    have hy7' := idx_some hy7
    refine tr_sr hT hm [(1, .val (.agg [iv y7.Kind, iv y7.First, iv y7.Second, iv y7.Third]))] [2, 12, 16, 20, 26, 28, 30, 2013, 2017, 2021, 28001, 28003] [(2, .d (.pt (eXSchema.b a1) 0)), (12, .d (.rp 1006 0)), (16, .d (.rp 1008 0)), (20, .d (.rp 1010 0)), (26, .d (.sl a2.length 0 (a2.flatMap eXChange.b))), (28, .d (iv (a2.length : Int))), (30, .d (iv s2.2.2)), (2013, .r (.arr 1 [nilv, nilv] [])), (2017, .r (.arr 1 [.rs 14000 0 s2.1.length, .rs 14001 0 s2.2.1.length] [14000, 14001])), bxB 2021 (eXChange.b y7), (28001, .r (.arr 1 (s2.1.flatMap eI.o) [])), (28003, .r (.arr 1 (s2.2.1.flatMap (eS eI).o) []))] (.cons hy7'.1 (.cons hy7'.2.1 (.cons (sub_b eXChange_ok hy7'.2.2) (.cons (Nat.le_of_ble_eq_true (n := 4) (m := 4) rfl) .nil)))) (by kernel_rfl) (by kernel_rfl) ?_
    refine Tr.by (imp_dem (r := 1008) (q := 14000) (sz := 1) (n := s2.1.length) (j := 0) (pre := []) (l := [.rs 14000 0 s2.1.length, .rs 14001 0 s2.2.1.length]) (post := []) (refs := [14000, 14001]) (refs' := [14001]) rfl rfl (lenO_flat eI_ok s2.1) (by kernel_rfl) (by kernel_rfl) (by kernel_rfl) (by kernel_rfl) (by kernel_rfl)) ?_
    refine Tr.by (imp_dem (r := 1008) (q := 14001) (sz := 1) (n := s2.2.1.length) (j := 1) (pre := []) (l := [.fr 1 s2.1.length (s2.1.flatMap eI.o), .rs 14001 0 s2.2.1.length]) (post := []) (refs := [14001]) (refs' := []) rfl rfl (lenO_flat (eS_ok eI_ok) s2.2.1) (by kernel_rfl) (by kernel_rfl) (by kernel_rfl) (by kernel_rfl) (by kernel_rfl)) ?_
    obtain ⟨v8, hv8, hM⟩ := bind_some' hM
    refine tr_sr hT hm [(2, .call [] [(0, 1008)] [.rp 0 0, .pt (eXSchema.b a1) 0, .agg (eXChange.b y7)] [(0, .arr 1 [.fr 1 v8.2.sizes_.length (v8.2.sizes_.flatMap eI.o), .fr 1 v8.2.maps_.length (v8.2.maps_.flatMap (eS eI).o)] [])] (bv v8.1))] [2, 12, 16, 26, 28, 30, 44, 2013, 2017] [(2, .d (.pt (eXSchema.b a1) 0)), (12, .d (.rp 1006 0)), (16, .d (.rp 1008 0)), (26, .d (.sl a2.length 0 (a2.flatMap eXChange.b))), (28, .d (iv (a2.length : Int))), (30, .d (iv s2.2.2)), (44, .d (bv (!v8.1))), (2013, .r (.arr 1 [nilv, nilv] [])), (2017, .r (.arr 1 [.fr 1 v8.2.sizes_.length (v8.2.sizes_.flatMap eI.o), .fr 1 v8.2.maps_.length (v8.2.maps_.flatMap (eS eI).o)] []))] (cc (B := []) (ρ := [(0, 1008)]) (rB := []) ok175 (impl_data_apply_c (⟨s2.1, s2.2.1⟩ : Xdata) a1 y7 _ hv8) (.cons (.pass (.rp rfl)) (.cons (.same rfl) (.cons (.same rfl) .nil))) (.inl rfl) .nil) (by kernel_rfl) (by kernel_rfl) ?_
    rcases Bool.eq_false_or_eq_true v8.1 with h9 | h9
    · have hM := ite_true' hM h9
      refine tr_condFe (e := !v8.1) (congrArg not h9) (by kernel_rfl) ?_
      refine tr_skip (b_n (q_n ?_))
      refine tr_r hT hm [] [2, 12, 16, 26, 28, 30, 2013, 2017] [(2, .d (.pt (eXSchema.b a1) 0)), (12, .d (.rp 1006 0)), (16, .d (.rp 1008 0)), (26, .d (.sl a2.length 0 (a2.flatMap eXChange.b))), (28, .d (iv (a2.length : Int))), (30, .d (iv (IntKind.i64.wrap (s2.2.2 + 1)))), (2013, .r (.arr 1 [nilv, nilv] [])), (2017, .r (.arr 1 [.fr 1 v8.2.sizes_.length (v8.2.sizes_.flatMap eI.o), .fr 1 v8.2.maps_.length (v8.2.maps_.flatMap (eS eI).o)] []))] .nil (by kernel_rfl) (by kernel_rfl) (l_n ?_)
      refine TrL.by (imp_promote (r := 1008) (i := 0) (q := 700007) (sz := 1) (sz' := 1) (n := v8.2.sizes_.length) (cells := [.fr 1 v8.2.sizes_.length (v8.2.sizes_.flatMap eI.o), .fr 1 v8.2.maps_.length (v8.2.maps_.flatMap (eS eI).o)]) (ds := v8.2.sizes_.flatMap eI.o) (refs := []) (by kernel_rfl) (by kernel_rfl) (by kernel_rfl)) ?_
      refine TrL.by (imp_promote (r := 1008) (i := 1) (q := 700008) (sz := 1) (sz' := 1) (n := v8.2.maps_.length) (cells := [.rs 700007 0 v8.2.sizes_.length, .fr 1 v8.2.maps_.length (v8.2.maps_.flatMap (eS eI).o)]) (ds := v8.2.maps_.flatMap (eS eI).o) (refs := [700007]) (by kernel_rfl) (by kernel_rfl) (by kernel_rfl)) ?_
      refine TrL.by (imp_cvB (r := 1008) (sz := 1) (cells := [.rs 700007 0 v8.2.sizes_.length, .rs 700008 0 v8.2.maps_.length]) (cells' := [.rs 700007 0 v8.2.sizes_.length, .rs 700008 0 v8.2.maps_.length]) (refs := [700008, 700007]) (refs' := [700007, 700008]) (.cons (.refl _) (.cons (.refl _) .nil)) (by kernel_rfl) (by kernel_rfl) (by kernel_rfl)) ?_
      refine TrL.by (imp_sel (ks := [2, 12, 16, 26, 28, 30, 2013, 2017, 1400015, 1400017]) (st' := [(2, .d (.pt (eXSchema.b a1) 0)), (12, .d (.rp 1006 0)), (16, .d (.rp 1008 0)), (26, .d (.sl a2.length 0 (a2.flatMap eXChange.b))), (28, .d (iv (a2.length : Int))), (30, .d (iv (IntKind.i64.wrap (s2.2.2 + 1)))), (2013, .r (.arr 1 [nilv, nilv] [])), (2017, .r (.arr 1 [.rs 700007 0 v8.2.sizes_.length, .rs 700008 0 v8.2.maps_.length] [700007, 700008])), (1400015, .r (.arr 1 (v8.2.sizes_.flatMap eI.o) [])), (1400017, .r (.arr 1 (v8.2.maps_.flatMap (eS eI).o) []))]) (by kernel_rfl)) ?_
      refine TrL.by (imp_rename (r := 700007) (q := 14000) (by kernel_rfl) (Nat.le_of_ble_eq_true rfl)) ?_
      refine TrL.by (imp_rename (r := 700008) (q := 14001) (by kernel_rfl) (Nat.le_of_ble_eq_true rfl)) ?_
      exact trl_start (ks := [2, 12, 16, 26, 28, 30, 2013, 2017, 28001, 28003]) (by kernel_rfl) (ih4 (v8.2.sizes_, v8.2.maps_, IntKind.i64.wrap (s2.2.2 + 1)) hM)
    · have hM := ite_false' hM h9
      refine tr_condTe (e := !v8.1) (congrArg not h9) (by kernel_rfl) ?_
      refine tr_sr hT hm [] [12, 14, 2013] [(12, .d (.rp 1006 0)), (14, .d (bv false)), (2013, .r (.arr 1 [nilv, nilv] []))] (.cons (Nat.le_of_ble_eq_true (n := 2) (m := 2) rfl) .nil) (by kernel_rfl) (by kernel_rfl) ?_
      refine tr_ret (b_r (q_r (l_r (b_r (q_r (rg_r ?_))))))
      refine RetG.by (imp_cvB (r := 1006) (sz := 1) (cells := [nilv, nilv]) (cells' := [.fr 1 ([] : List Int).length (([] : List Int).flatMap eI.o), .fr 1 ([] : List (List Int)).length (([] : List (List Int)).flatMap (eS eI).o)]) (refs := []) (refs' := []) (.cons Sub.nil_fr (.cons Sub.nil_fr .nil)) (by kernel_rfl) (by kernel_rfl) (by kernel_rfl)) ?_
      obtain rfl := Option.some.inj hM
      exact retg (names := []) .nil (by kernel_rfl)
  · have hM := ite_false' hM h6
    refine tr_condFe (e := decide (s2.2.2 < (a2.length : Int))) h6 (by kernel_rfl) ?_
    refine tr_exit (q_x (l_x (b_h (q_n ?_))))
    obtain ⟨v10, hv10, hM⟩ := bind_some' hM
    refine tr_sr hT hm [(3, .call [14000, 14001] [] [.agg (eXdata.b (⟨s2.1, s2.2.1⟩ : Xdata)), .pt (eXSchema.b a1) 0] [] (bv v10))] [12, 14, 2013, 28001, 28003] [(12, .d (.rp 1006 0)), (14, .d (bv v10)), (2013, .r (.arr 1 [.rs 14000 0 s2.1.length, .rs 14001 0 s2.2.1.length] [14000, 14001])), (28001, .r (.arr 1 (s2.1.flatMap eI.o) [])), (28003, .r (.arr 1 (s2.2.1.flatMap (eS eI).o) []))] (cc (B := [14000, 14001]) (ρ := []) (rB := [(14000, .arr 1 (s2.1.flatMap eI.o) []), (14001, .arr 1 (s2.2.1.flatMap (eS eI).o) [])]) ok96 (impl_data_isWhole_c (⟨s2.1, s2.2.1⟩ : Xdata) a1 _ hv10) (.cons (.agg (.cons (.rs (r := 14000) (sz := 1) (refs := []) (memB (by kernel_rfl)) (by kernel_rfl) (bor_flat eI_ok _ _ _)) (.cons (.rs (r := 14001) (sz := 1) (refs := []) (memB (by kernel_rfl)) (by kernel_rfl) (bor_flat (eS_ok eI_ok) _ _ _)) .nil))) (.cons (.same rfl) .nil)) (.inr ⟨.v, trivial⟩) (.cons (Nat.le_of_ble_eq_true (n := 2) (m := 2) rfl) .nil)) (by kernel_rfl) (by kernel_rfl) ?_
    refine tr_ret (rg_r ?_)
    obtain rfl := Option.some.inj hM
    exact retg (names := []) (.cons (lenO_flat eI_ok s2.1) (.cons (lenO_flat (eS_ok eI_ok) s2.2.1) .nil)) (by kernel_rfl)

theorem ok31 : CallOk Try.prog 31 := callOk_of Try.func31 (by kernel_rfl) (by kernel_rfl)
theorem impl_ApplyChanges_c (a0 : XSchema) (a1 : List Int) (a2 : List (List Int)) (a3 : List XChange) (r : (List Int) × (List (List Int)) × Int) (hM : M.impl_ApplyChanges a0 a1 a2 a3 = some r) :
    FnC Try.prog 31 [] [.agg (eXSchema.b a0), .sl a1.length 0 (a1.flatMap eI.b), .sl a2.length 0 (a2.flatMap (eS eI).b), .sl a3.length 0 (a3.flatMap eXChange.b)] [] (.tup [.fr 1 r.1.length (r.1.flatMap eI.o), .fr 1 r.2.1.length (r.2.1.flatMap (eS eI).o), iv r.2.2]) := by
  refine fnc_startG (N := 45) (np := 500) hT Try.func31 rfl rfl (by kernel_rfl) ?_
  unfold M.impl_ApplyChanges at hM
  refine tr_start (ks := [0, 2, 4, 6]) (st' := [(0, .d (.agg (eXSchema.b a0))), (2, .d (.sl a1.length 0 (a1.flatMap eI.b))), (4, .d (.sl a2.length 0 (a2.flatMap (eS eI).b))), (6, .d (.sl a3.length 0 (a3.flatMap eXChange.b)))]) (by kernel_rfl) ?_
  refine tr_sr hT hm [] [2, 4, 6, 8, 2009] [(2, .d (.sl a1.length 0 (a1.flatMap eI.b))), (4, .d (.sl a2.length 0 (a2.flatMap (eS eI).b))), (6, .d (.sl a3.length 0 (a3.flatMap eXChange.b))), (8, .d (.rp 1004 0)), bxB 2009 (eXSchema.b a0)] .nil (by kernel_rfl) (by kernel_rfl) ?_
  refine tr_seq ?_
  obtain ⟨v1, hv1, hM⟩ := bind_some' hM
  refine tr_sr hT hm [(0, .call [1004] [] [.pt (eXSchema.b a0) 0] [] (bv v1))] [2, 4, 6, 8, 30, 2009] [(2, .d (.sl a1.length 0 (a1.flatMap eI.b))), (4, .d (.sl a2.length 0 (a2.flatMap (eS eI).b))), (6, .d (.sl a3.length 0 (a3.flatMap eXChange.b))), (8, .d (.rp 1004 0)), (30, .d (bv (!v1))), bxB 2009 (eXSchema.b a0)] (cc (B := [1004]) (ρ := []) (rB := [(1004, .arr 1 [iv a0.Nodes, .sl a0.From.length 0 (a0.From.flatMap eI.b), .sl a0.To.length 0 (a0.To.flatMap eI.b), .sl a0.Left.length 0 (a0.Left.flatMap eXPath.b), .sl a0.Right.length 0 (a0.Right.flatMap eXPath.b)] [])]) ok93 (impl_Schema_isSchema_c a0 _ hv1) (.cons (.of1 (.rp (r := 1004) (sz := 1) (cells := [iv a0.Nodes, .sl a0.From.length 0 (a0.From.flatMap eI.b), .sl a0.To.length 0 (a0.To.flatMap eI.b), .sl a0.Left.length 0 (a0.Left.flatMap eXPath.b), .sl a0.Right.length 0 (a0.Right.flatMap eXPath.b)]) (refs := []) (memB (by kernel_rfl)) (by kernel_rfl) (.cons .v (.cons (.same rfl rfl) (.cons (.same rfl rfl) (.cons (.same rfl rfl) (.cons (.same rfl rfl) .nil))))))) .nil) (.inr ⟨.v, trivial⟩) .nil) (by kernel_rfl) (by kernel_rfl) ?_
  rcases Bool.eq_false_or_eq_true v1 with h2 | h2
  · have hM := ite_true' hM h2
    refine tr_condFe (e := !v1) (congrArg not h2) (by kernel_rfl) ?_
    refine tr_skip (q_n ?_)
    refine tr_seq ?_
    obtain ⟨v3, hv3, hM⟩ := bind_some' hM
    rcases Bool.eq_false_or_eq_true v3 with h4 | h4
    · have hM := ite_true' hM h4
      refine tr_sr hT hm [(2, .call [1004] [] [.pt (eXSchema.b a0) 0, .sl a1.length 0 (a1.flatMap eI.b), .sl a2.length 0 (a2.flatMap (eS eI).b)] [] (bv v3)), (4, .val (bv false))] [2, 4, 6, 8, 48, 2009] [(2, .d (.sl a1.length 0 (a1.flatMap eI.b))), (4, .d (.sl a2.length 0 (a2.flatMap (eS eI).b))), (6, .d (.sl a3.length 0 (a3.flatMap eXChange.b))), (8, .d (.rp 1004 0)), (48, .d (bv (decide ((a3.length : Int) > 40)))), bxB 2009 (eXSchema.b a0)] (cc (B := [1004]) (ρ := []) (rB := [(1004, .arr 1 [iv a0.Nodes, .sl a0.From.length 0 (a0.From.flatMap eI.b), .sl a0.To.length 0 (a0.To.flatMap eI.b), .sl a0.Left.length 0 (a0.Left.flatMap eXPath.b), .sl a0.Right.length 0 (a0.Right.flatMap eXPath.b)] [])]) ok94 (impl_Schema_hasRows_c a0 a1 a2 _ hv3) (.cons (.of1 (.rp (r := 1004) (sz := 1) (cells := [iv a0.Nodes, .sl a0.From.length 0 (a0.From.flatMap eI.b), .sl a0.To.length 0 (a0.To.flatMap eI.b), .sl a0.Left.length 0 (a0.Left.flatMap eXPath.b), .sl a0.Right.length 0 (a0.Right.flatMap eXPath.b)]) (refs := []) (memB (by kernel_rfl)) (by kernel_rfl) (.cons .v (.cons (.same rfl rfl) (.cons (.same rfl rfl) (.cons (.same rfl rfl) (.cons (.same rfl rfl) .nil))))))) (.cons (.same rfl) (.cons (.same rfl) .nil))) (.inr ⟨.v, trivial⟩) (.cons (congrArg (fun b => bv b) (congrArg not h4)) .nil)) (by kernel_rfl) (by kernel_rfl) ?_
      rcases Bool.eq_false_or_eq_true (decide ((a3.length : Int) > 40)) with h5 | h5
      · have hM := ite_true' hM h5
        refine tr_condTe (e := decide ((a3.length : Int) > 40)) h5 (by kernel_rfl) ?_
        refine tr_sr hT hm [] [16, 18, 20] [(16, .d (nilv)), (18, .d (nilv)), (20, .d (iv 2))] .nil (by kernel_rfl) (by kernel_rfl) ?_
        refine tr_ret (q_r (rg_r ?_))
        refine RetG.by (imp_cvS (k := 16) (d' := .fr 1 ([] : List Int).length (([] : List Int).flatMap eI.o)) Sub.nil_fr (by kernel_rfl)) ?_
        refine RetG.by (imp_cvS (k := 18) (d' := .fr 1 ([] : List (List Int)).length (([] : List (List Int)).flatMap (eS eI).o)) Sub.nil_fr (by kernel_rfl)) ?_
        obtain rfl := Option.some.inj hM
        exact retg (names := []) .nil (by kernel_rfl)
      · have hM := ite_false' hM h5
        refine tr_condFe (e := decide ((a3.length : Int) > 40)) h5 (by kernel_rfl) ?_
        refine tr_skip (q_n ?_)
        refine tr_sr hT hm [] [6, 8, 22, 2009, 2023] [(6, .d (.sl a3.length 0 (a3.flatMap eXChange.b))), (8, .d (.rp 1004 0)), (22, .d (.rp 1011 0)), bxB 2009 (eXSchema.b a0), (2023, .r (.arr 1 [.sl a1.length 0 (a1.flatMap eI.b), .sl a2.length 0 (a2.flatMap (eS eI).b)] []))] (.cons (Nat.le_of_ble_eq_true (n := 2) (m := 2) rfl) .nil) (by kernel_rfl) (by kernel_rfl) ?_
        obtain ⟨v6, hv6, hM⟩ := bind_some' hM
        refine tr_sr hT hm [(2, .call [1004] [] [.agg [.sl a1.length 0 (a1.flatMap eI.b), .sl a2.length 0 (a2.flatMap (eS eI).b)], .pt (eXSchema.b a0) 0, .sl a3.length 0 (a3.flatMap eXChange.b)] [] (.tup [.agg (eXdata.o v6.1), bv v6.2]))] [8, 22, 24, 26, 2009, 2023, 2025, 66001, 66003] ([(8, .d (.rp 1004 0)), (22, .d (.rp 1011 0)), (24, .d (.rp 1012 0)), (26, .d (bv v6.2)), bxB 2009 (eXSchema.b a0), (2023, .r (.arr 1 [.sl a1.length 0 (a1.flatMap eI.b), .sl a2.length 0 (a2.flatMap (eS eI).b)] [])), bxO 2025 33000 (eXdata.o v6.1)] ++ rsS 33000 (eXdata.o v6.1)) (cc (B := [1004]) (ρ := []) (rB := [(1004, .arr 1 [iv a0.Nodes, .sl a0.From.length 0 (a0.From.flatMap eI.b), .sl a0.To.length 0 (a0.To.flatMap eI.b), .sl a0.Left.length 0 (a0.Left.flatMap eXPath.b), .sl a0.Right.length 0 (a0.Right.flatMap eXPath.b)] [])]) ok95 (impl_data_after_c (⟨a1, a2⟩ : Xdata) a0 a3 _ hv6) (.cons (.same rfl) (.cons (.of1 (.rp (r := 1004) (sz := 1) (cells := [iv a0.Nodes, .sl a0.From.length 0 (a0.From.flatMap eI.b), .sl a0.To.length 0 (a0.To.flatMap eI.b), .sl a0.Left.length 0 (a0.Left.flatMap eXPath.b), .sl a0.Right.length 0 (a0.Right.flatMap eXPath.b)]) (refs := []) (memB (by kernel_rfl)) (by kernel_rfl) (.cons .v (.cons (.same rfl rfl) (.cons (.same rfl rfl) (.cons (.same rfl rfl) (.cons (.same rfl rfl) .nil))))))) (.cons (.same rfl) .nil))) (.inr ⟨(nobor_tup (.cons (.agg (eXdata_nb _)) (.cons .v .nil))), trivial⟩) (.cons (Nat.le_of_ble_eq_true (n := 2) (m := 2) rfl) .nil)) (by kernel_rfl) (by kernel_rfl) ?_
        refine tr_seq ?_
        rcases Bool.eq_false_or_eq_true v6.2 with h7 | h7
        · have hM := ite_true' hM h7
          obtain ⟨v8, hv8, hM⟩ := bind_some' hM
          refine tr_sr hT hm [(2, .val (bv false)), (4, .call [1004] [] [.agg [.sl a1.length 0 (a1.flatMap eI.b), .sl a2.length 0 (a2.flatMap (eS eI).b)], .pt (eXSchema.b a0) 0] [] (bv v8))] [24, 80, 2025, 66001, 66003] ([(24, .d (.rp 1012 0)), (80, .d (bv (!v8))), bxO 2025 33000 (eXdata.o v6.1)] ++ rsS 33000 (eXdata.o v6.1)) (.cons (congrArg (fun b => bv b) (congrArg not h7)) (cc (B := [1004]) (ρ := []) (rB := [(1004, .arr 1 [iv a0.Nodes, .sl a0.From.length 0 (a0.From.flatMap eI.b), .sl a0.To.length 0 (a0.To.flatMap eI.b), .sl a0.Left.length 0 (a0.Left.flatMap eXPath.b), .sl a0.Right.length 0 (a0.Right.flatMap eXPath.b)] [])]) ok96 (impl_data_isWhole_c (⟨a1, a2⟩ : Xdata) a0 _ hv8) (.cons (.same rfl) (.cons (.of1 (.rp (r := 1004) (sz := 1) (cells := [iv a0.Nodes, .sl a0.From.length 0 (a0.From.flatMap eI.b), .sl a0.To.length 0 (a0.To.flatMap eI.b), .sl a0.Left.length 0 (a0.Left.flatMap eXPath.b), .sl a0.Right.length 0 (a0.Right.flatMap eXPath.b)]) (refs := []) (memB (by kernel_rfl)) (by kernel_rfl) (.cons .v (.cons (.same rfl rfl) (.cons (.same rfl rfl) (.cons (.same rfl rfl) (.cons (.same rfl rfl) .nil))))))) .nil)) (.inr ⟨.v, trivial⟩) .nil)) (by kernel_rfl) (by kernel_rfl) ?_
          rcases Bool.eq_false_or_eq_true v8 with h9 | h9
          · have hM := ite_true' hM h9
            refine tr_condFe (e := !v8) (congrArg not h9) (by kernel_rfl) ?_
            refine tr_skip (q_n ?_)
            refine tr_sr hT hm [] [16, 18, 20, 66001, 66003] ([(16, .d (.rs 33000 0 v6.1.sizes_.length)), (18, .d (.rs 33001 0 v6.1.maps_.length)), (20, .d (iv 0))] ++ rsS 33000 (eXdata.o v6.1)) .nil (by kernel_rfl) (by kernel_rfl) ?_
            refine tr_ret (rg_r ?_)
            obtain rfl := Option.some.inj hM
            exact retg (names := []) (.cons (lenO_flat eI_ok v6.1.sizes_) (.cons (lenO_flat (eS_ok eI_ok) v6.1.maps_) .nil)) (by kernel_rfl)
          · have hM := ite_false' hM h9
            refine tr_condTe (e := !v8) (congrArg not h9) (by kernel_rfl) ?_
            refine tr_sr hT hm [] [16, 18, 20] [(16, .d (nilv)), (18, .d (nilv)), (20, .d (iv 5))] .nil (by kernel_rfl) (by kernel_rfl) ?_
            refine tr_ret (q_r (rg_r ?_))
            refine RetG.by (imp_cvS (k := 16) (d' := .fr 1 ([] : List Int).length (([] : List Int).flatMap eI.o)) Sub.nil_fr (by kernel_rfl)) ?_
            refine RetG.by (imp_cvS (k := 18) (d' := .fr 1 ([] : List (List Int)).length (([] : List (List Int)).flatMap (eS eI).o)) Sub.nil_fr (by kernel_rfl)) ?_
            obtain rfl := Option.some.inj hM
            exact retg (names := []) .nil (by kernel_rfl)
        · have hM := ite_false' hM h7
          refine tr_sr hT hm [(2, .val (bv true))] [24, 80, 2025, 66001, 66003] ([(24, .d (.rp 1012 0)), (80, .d (bv true)), bxO 2025 33000 (eXdata.o v6.1)] ++ rsS 33000 (eXdata.o v6.1)) (.cons (congrArg (fun b => bv b) (congrArg not h7)) .nil) (by kernel_rfl) (by kernel_rfl) ?_
          refine tr_condT (by kernel_rfl) ?_
          refine tr_sr hT hm [] [16, 18, 20] [(16, .d (nilv)), (18, .d (nilv)), (20, .d (iv 5))] .nil (by kernel_rfl) (by kernel_rfl) ?_
          refine tr_ret (q_r (rg_r ?_))
          refine RetG.by (imp_cvS (k := 16) (d' := .fr 1 ([] : List Int).length (([] : List Int).flatMap eI.o)) Sub.nil_fr (by kernel_rfl)) ?_
          refine RetG.by (imp_cvS (k := 18) (d' := .fr 1 ([] : List (List Int)).length (([] : List (List Int)).flatMap (eS eI).o)) Sub.nil_fr (by kernel_rfl)) ?_
          obtain rfl := Option.some.inj hM
          exact retg (names := []) .nil (by kernel_rfl)
    · have hM := ite_false' hM h4
      refine tr_sr hT hm [(2, .call [1004] [] [.pt (eXSchema.b a0) 0, .sl a1.length 0 (a1.flatMap eI.b), .sl a2.length 0 (a2.flatMap (eS eI).b)] [] (bv v3)), (4, .val (bv true))] [2, 4, 6, 8, 48, 2009] [(2, .d (.sl a1.length 0 (a1.flatMap eI.b))), (4, .d (.sl a2.length 0 (a2.flatMap (eS eI).b))), (6, .d (.sl a3.length 0 (a3.flatMap eXChange.b))), (8, .d (.rp 1004 0)), (48, .d (bv true)), bxB 2009 (eXSchema.b a0)] (cc (B := [1004]) (ρ := []) (rB := [(1004, .arr 1 [iv a0.Nodes, .sl a0.From.length 0 (a0.From.flatMap eI.b), .sl a0.To.length 0 (a0.To.flatMap eI.b), .sl a0.Left.length 0 (a0.Left.flatMap eXPath.b), .sl a0.Right.length 0 (a0.Right.flatMap eXPath.b)] [])]) ok94 (impl_Schema_hasRows_c a0 a1 a2 _ hv3) (.cons (.of1 (.rp (r := 1004) (sz := 1) (cells := [iv a0.Nodes, .sl a0.From.length 0 (a0.From.flatMap eI.b), .sl a0.To.length 0 (a0.To.flatMap eI.b), .sl a0.Left.length 0 (a0.Left.flatMap eXPath.b), .sl a0.Right.length 0 (a0.Right.flatMap eXPath.b)]) (refs := []) (memB (by kernel_rfl)) (by kernel_rfl) (.cons .v (.cons (.same rfl rfl) (.cons (.same rfl rfl) (.cons (.same rfl rfl) (.cons (.same rfl rfl) .nil))))))) (.cons (.same rfl) (.cons (.same rfl) .nil))) (.inr ⟨.v, trivial⟩) (.cons (congrArg (fun b => bv b) (congrArg not h4)) .nil)) (by kernel_rfl) (by kernel_rfl) ?_
      refine tr_condT (by kernel_rfl) ?_
      refine tr_sr hT hm [] [16, 18, 20] [(16, .d (nilv)), (18, .d (nilv)), (20, .d (iv 2))] .nil (by kernel_rfl) (by kernel_rfl) ?_
      refine tr_ret (q_r (rg_r ?_))
      refine RetG.by (imp_cvS (k := 16) (d' := .fr 1 ([] : List Int).length (([] : List Int).flatMap eI.o)) Sub.nil_fr (by kernel_rfl)) ?_
      refine RetG.by (imp_cvS (k := 18) (d' := .fr 1 ([] : List (List Int)).length (([] : List (List Int)).flatMap (eS eI).o)) Sub.nil_fr (by kernel_rfl)) ?_
      obtain rfl := Option.some.inj hM
      exact retg (names := []) .nil (by kernel_rfl)
  · have hM := ite_false' hM h2
    refine tr_condTe (e := !v1) (congrArg not h2) (by kernel_rfl) ?_
    refine tr_sr hT hm [] [16, 18, 20] [(16, .d (nilv)), (18, .d (nilv)), (20, .d (iv 1))] .nil (by kernel_rfl) (by kernel_rfl) ?_
    refine tr_ret (q_r (rg_r ?_))
    refine RetG.by (imp_cvS (k := 16) (d' := .fr 1 ([] : List Int).length (([] : List Int).flatMap eI.o)) Sub.nil_fr (by kernel_rfl)) ?_
    refine RetG.by (imp_cvS (k := 18) (d' := .fr 1 ([] : List (List Int)).length (([] : List (List Int)).flatMap (eS eI).o)) Sub.nil_fr (by kernel_rfl)) ?_
    obtain rfl := Option.some.inj hM
    exact retg (names := []) .nil (by kernel_rfl)

end Go.Proofs.Ytiikkfdehbcfaaa.WzK
