/- Walks. Printed by wip/gen. -/
import Derived.Test.YtiikkfdehbcfaaaGxEM1
import Derived.Test.YtiikkfdehbcfaaaGxEO0
import Derived.Test.YtiikkfdehbcfaaaGxzCW
import Derived.Test.YtiikkfdehbcfaaaGxvIW
import Derived.KernelRfl
namespace Go.Proofs.Ytiikkfdehbcfaaa.WzU
open Go.Gx Go.Proofs.Ytiikkfdehbcfaaa.WvB Go.Proofs.Ytiikkfdehbcfaaa.WyN Go.Proofs.Ytiikkfdehbcfaaa.WzC Go.Proofs.Ytiikkfdehbcfaaa.WvI

theorem eXCategory_r : EncR eXCategory := (eA_r (eC_r eI_r _) (eA_r (eC_r (eS_r eI_ok) _) (eA_r (eC_r (eS_r eI_ok) _) (eA_r (eC_r (eS_r eI_ok) _) (eC_r (eS_r (eS_ok eI_ok)) _)))))
theorem eXFunctor_r : EncR eXFunctor := (eA_r (eC_r eXCategory_r _) (eA_r (eC_r eXCategory_r _) (eA_r (eC_r (eS_r eI_ok) _) (eC_r (eS_r eI_ok) _))))
def T : Tab := [(2, ⟨.int .i64, 1, 8, [.int .i64 0]⟩),
  (3, ⟨.int .i64, 1, 8, [.int .i64 0]⟩),
  (22, ⟨.slice 2, 1, 24, [.slice .none 0 0]⟩),
  (23, ⟨.slice 22, 1, 24, [.slice .none 0 0]⟩),
  (268, ⟨.slice 2, 1, 24, [.slice .none 0 0]⟩)]
theorem hT : TabOk Try.prog T := ⟨tiok (by kernel_rfl) (by kernel_rfl), tiok (by kernel_rfl) (by kernel_rfl), tiok (by kernel_rfl) (by kernel_rfl), tiok (by kernel_rfl) (by kernel_rfl), tiok (by kernel_rfl) (by kernel_rfl), trivial⟩
theorem hm : Try.prog.follows .mixedOrders = true := by kernel_rfl

theorem ok215 : CallOk Try.prog 215 := callOk_of Try.func215 (by kernel_rfl) (by kernel_rfl)
theorem spec_l01Join_c (a0 : Int) (a1 : List (List Int)) (r : (List Int)) (hM : M.spec_l01Join a0 a1 = some r) :
    FnC Try.prog 215 [] [iv a0, .sl a1.length 0 (a1.flatMap (eS eI).b)] [] (.fr 1 r.length (r.flatMap eI.o)) := by
  refine fnc_startG (N := 68) (np := 500) hT Try.func215 rfl rfl (by kernel_rfl) ?_
  unfold M.spec_l01Join at hM
  refine tr_start (ks := [0, 2]) (st' := [(0, .d (iv a0)), (2, .d (.sl a1.length 0 (a1.flatMap (eS eI).b)))]) (by kernel_rfl) ?_
  refine tr_sr hT hm [] [0, 2] [(0, .d (iv a0)), (2, .d (.sl a1.length 0 (a1.flatMap (eS eI).b)))] .nil (by kernel_rfl) (by kernel_rfl) ?_
  refine tr_sr hT hm [] [0, 2, 10, 2023] [(0, .d (iv a0)), (2, .d (.sl a1.length 0 (a1.flatMap (eS eI).b))), (10, .d (.rs 1011 0 (([] : List Int).length))), (2023, .r (.arr 1 (([] : List Int).flatMap eI.o) []))] .nil (by kernel_rfl) (by kernel_rfl) ?_
  refine tr_seq ?_
  refine tr_sr hT hm [] [0, 2, 10, 12, 2023] [(0, .d (iv a0)), (2, .d (.sl a1.length 0 (a1.flatMap (eS eI).b))), (10, .d (.rs 1011 0 (([] : List Int).length))), (12, .d (iv 0)), (2023, .r (.arr 1 (([] : List Int).flatMap eI.o) []))] .nil (by kernel_rfl) (by kernel_rfl) ?_
  refine tr_block ?_
  refine tr_iterS (fun (s1 : (List Int) × Int) => [(0, .d (iv a0)), (2, .d (.sl a1.length 0 (a1.flatMap (eS eI).b))), (10, .d (.rs 1011 0 s1.1.length)), (12, .d (iv s1.2)), (2023, .r (.arr 1 (s1.1.flatMap eI.o) []))]) (([] : List Int), 0) [0, 2, 10, 12, 2023] (by kernel_rfl) hM ?_
  intro n4 next2 ih3 s1 hM
  refine tr_seq ?_
  refine tr_sr hT hm [] [0, 2, 10, 12, 28, 2023] [(0, .d (iv a0)), (2, .d (.sl a1.length 0 (a1.flatMap (eS eI).b))), (10, .d (.rs 1011 0 s1.1.length)), (12, .d (iv s1.2)), (28, .d (bv (decide (s1.2 < a0)))), (2023, .r (.arr 1 (s1.1.flatMap eI.o) []))] .nil (by kernel_rfl) (by kernel_rfl) ?_
  rcases Bool.eq_false_or_eq_true (decide (s1.2 < a0)) with h5 | h5
  · have hM := ite_true' hM h5
    refine tr_condTe (e := decide (s1.2 < a0)) h5 (by kernel_rfl) ?_
    refine tr_skip (q_n ?_)
    refine tr_seq ?_
    refine tr_block ?_
    obtain ⟨h6, hM⟩ := chk_some hM
    refine tr_r hT hm [(3, .app true)] [0, 2, 10, 12, 2041] [(0, .d (iv a0)), (2, .d (.sl a1.length 0 (a1.flatMap (eS eI).b))), (10, .d (.rs 1020 0 (s1.1.length + (([s1.2] : List Int).length)))), (12, .d (iv s1.2)), (2041, .r (.arr 1 (s1.1.flatMap eI.o ++ ([s1.2] : List Int).flatMap eI.o) []))] (.cons (lenO_flat eI_ok s1.1) (.cons (lenO_flat eI_ok ([s1.2] : List Int)) (.cons h6 .nil))) (by kernel_rfl) (by kernel_rfl) (b_n (q_n ?_))
    refine Tr.by (imp_cvE (r := 1020) (sz := 1) (refs := []) (flat_app eI.o s1.1 ([s1.2] : List Int)) (menO_flat eI_ok _) (by kernel_rfl)) ?_
    refine Tr.by (imp_cvD (k := 10) (congrArg (D.rs 1020 0) ((len_app s1.1 ([s1.2] : List Int)) : s1.1.length + (([s1.2] : List Int).length) = (s1.1 ++ ([s1.2] : List Int)).length)) (by kernel_rfl)) ?_
    refine tr_r hT hm [] [0, 2, 10, 12, 2041] [(0, .d (iv a0)), (2, .d (.sl a1.length 0 (a1.flatMap (eS eI).b))), (10, .d (.rs 1020 0 ((s1.1 ++ ([s1.2] : List Int)).length))), (12, .d (iv (IntKind.i64.wrap (s1.2 + 1)))), (2041, .r (.arr 1 ((s1.1 ++ ([s1.2] : List Int)).flatMap eI.o) []))] .nil (by kernel_rfl) (by kernel_rfl) (l_n ?_)
    refine TrL.by (imp_sel (ks := [0, 2, 10, 12, 2041]) (st' := [(0, .d (iv a0)), (2, .d (.sl a1.length 0 (a1.flatMap (eS eI).b))), (10, .d (.rs 1020 0 ((s1.1 ++ ([s1.2] : List Int)).length))), (12, .d (iv (IntKind.i64.wrap (s1.2 + 1)))), (2041, .r (.arr 1 ((s1.1 ++ ([s1.2] : List Int)).flatMap eI.o) []))]) (by kernel_rfl)) ?_
    refine TrL.by (imp_rename (r := 1020) (q := 1011) (by kernel_rfl) (Nat.le_of_ble_eq_true rfl)) ?_
    exact trl_start (ks := [0, 2, 10, 12, 2023]) (by kernel_rfl) (ih3 (s1.1 ++ ([s1.2] : List Int), IntKind.i64.wrap (s1.2 + 1)) hM)
  · have hM := ite_false' hM h5
    refine tr_condFe (e := decide (s1.2 < a0)) h5 (by kernel_rfl) ?_
    refine tr_exit (q_x (l_x (b_h (q_n ?_))))
    refine tr_seq ?_
    refine tr_sr hT hm [] [2, 10, 14, 2023] [(2, .d (.sl a1.length 0 (a1.flatMap (eS eI).b))), (10, .d (.rs 1011 0 s1.1.length)), (14, .d (iv 0)), (2023, .r (.arr 1 (s1.1.flatMap eI.o) []))] .nil (by kernel_rfl) (by kernel_rfl) ?_
    refine tr_block ?_
    refine tr_iterS (fun (s7 : (List Int) × Int) => [(2, .d (.sl a1.length 0 (a1.flatMap (eS eI).b))), (10, .d (.rs 1011 0 s7.1.length)), (14, .d (iv s7.2)), (2023, .r (.arr 1 (s7.1.flatMap eI.o) []))]) (s1.1, 0) [2, 10, 14, 2023] (by kernel_rfl) hM ?_
    intro n10 next8 ih9 s7 hM
    refine tr_seq ?_
    refine tr_sr hT hm [] [2, 10, 14, 48, 2023] [(2, .d (.sl a1.length 0 (a1.flatMap (eS eI).b))), (10, .d (.rs 1011 0 s7.1.length)), (14, .d (iv s7.2)), (48, .d (bv (decide (s7.2 < (a1.length : Int))))), (2023, .r (.arr 1 (s7.1.flatMap eI.o) []))] .nil (by kernel_rfl) (by kernel_rfl) ?_
    rcases Bool.eq_false_or_eq_true (decide (s7.2 < (a1.length : Int))) with h11 | h11
    · have hM := ite_true' hM h11
      refine tr_condTe (e := decide (s7.2 < (a1.length : Int))) h11 (by kernel_rfl) ?_
      refine tr_skip (q_n ?_)
      refine tr_seq ?_
      refine tr_block ?_
      obtain ⟨y12, hy12, hM⟩ := bind_some' hM
      have hy12' := idx_some hy12
      obtain ⟨y13, hy13, hM⟩ := bind_some' hM
      have hy13' := idx_some hy13
      obtain ⟨y14, hy14, hM⟩ := bind_some' hM
      have hy14' := idx_some hy14
      obtain ⟨y15, hy15, hM⟩ := bind_some' hM
      have hy15' := idx_some hy15
      obtain ⟨y16, hy16, hM⟩ := bind_some' hM
      have hy16' := idx_some hy16
      refine tr_sr hT hm [(4, .val (.sl y12.length 0 (y12.flatMap eI.b))), (6, .val (iv y13)), (8, .val (iv y14)), (13, .val (.sl y12.length 0 (y12.flatMap eI.b))), (15, .val (iv y15)), (17, .val (iv y16))] [2, 10, 14, 16, 18, 2023] [(2, .d (.sl a1.length 0 (a1.flatMap (eS eI).b))), (10, .d (.rs 1011 0 s7.1.length)), (14, .d (iv s7.2)), (16, .d (iv y14)), (18, .d (iv y16)), (2023, .r (.arr 1 (s7.1.flatMap eI.o) []))] (.cons hy12'.1 (.cons hy12'.2.1 (.cons (at_b0 (eS_ok eI_ok) hy12'.2.2 (d := .sl y12.length 0 (y12.flatMap eI.b)) (by kernel_rfl)) (.cons hy13'.1 (.cons hy13'.2.1 (.cons (at_b0 eI_ok hy13'.2.2 (d := iv y13) (by kernel_rfl)) (.cons hy14'.1 (.cons hy14'.2.1 (.cons (at_o0 eI_ok hy14'.2.2 (d := iv y14) (by kernel_rfl)) (.cons hy12'.1 (.cons hy12'.2.1 (.cons (at_b0 (eS_ok eI_ok) hy12'.2.2 (d := .sl y12.length 0 (y12.flatMap eI.b)) (by kernel_rfl)) (.cons hy15'.1 (.cons hy15'.2.1 (.cons (at_b0 eI_ok hy15'.2.2 (d := iv y15) (by kernel_rfl)) (.cons hy16'.1 (.cons hy16'.2.1 (.cons (at_o0 eI_ok hy16'.2.2 (d := iv y16) (by kernel_rfl)) .nil)))))))))))))))))) (by kernel_rfl) (by kernel_rfl) ?_
      refine tr_sr hT hm [] [2, 10, 14, 16, 18, 20, 2023] [(2, .d (.sl a1.length 0 (a1.flatMap (eS eI).b))), (10, .d (.rs 1011 0 s7.1.length)), (14, .d (iv s7.2)), (16, .d (iv y14)), (18, .d (iv y16)), (20, .d (iv 0)), (2023, .r (.arr 1 (s7.1.flatMap eI.o) []))] .nil (by kernel_rfl) (by kernel_rfl) ?_
      refine tr_block ?_
      refine tr_iterS (fun (s17 : (List Int) × Int) => [(2, .d (.sl a1.length 0 (a1.flatMap (eS eI).b))), (10, .d (.rs 1011 0 s17.1.length)), (14, .d (iv s7.2)), (16, .d (iv y14)), (18, .d (iv y16)), (20, .d (iv s17.2)), (2023, .r (.arr 1 (s17.1.flatMap eI.o) []))]) (s7.1, 0) [2, 10, 14, 16, 18, 20, 2023] (by kernel_rfl) hM ?_
      intro n20 next18 ih19 s17 hM
      refine tr_seq ?_
      rcases Bool.eq_false_or_eq_true (decide (s17.2 < (s17.1.length : Int))) with h21 | h21
      · have hM := ite_true' hM h21
        refine tr_sr hT hm [(4, .val (bv true))] [2, 10, 14, 16, 18, 20, 106, 2023] [(2, .d (.sl a1.length 0 (a1.flatMap (eS eI).b))), (10, .d (.rs 1011 0 s17.1.length)), (14, .d (iv s7.2)), (16, .d (iv y14)), (18, .d (iv y16)), (20, .d (iv s17.2)), (106, .d (bv (y14 != y16))), (2023, .r (.arr 1 (s17.1.flatMap eI.o) []))] (.cons (congrArg (fun b => bv b) h21) .nil) (by kernel_rfl) (by kernel_rfl) ?_
        rcases Bool.eq_false_or_eq_true (y14 != y16) with h22 | h22
        · have hM := ite_true' hM h22
          refine tr_condTe (e := y14 != y16) h22 (by kernel_rfl) ?_
          refine tr_skip (q_n ?_)
          refine tr_seq ?_
          refine tr_block ?_
          obtain ⟨y23, hy23, hM⟩ := bind_some' hM
          have hy23' := idx_some hy23
          refine tr_sr hT hm [(3, .val (iv y23))] [2, 10, 14, 16, 18, 20, 122, 2023] [(2, .d (.sl a1.length 0 (a1.flatMap (eS eI).b))), (10, .d (.rs 1011 0 s17.1.length)), (14, .d (iv s7.2)), (16, .d (iv y14)), (18, .d (iv y16)), (20, .d (iv s17.2)), (122, .d (bv (y23 == y16))), (2023, .r (.arr 1 (s17.1.flatMap eI.o) []))] (.cons hy23'.1 (.cons hy23'.2.1 (.cons (at_o0 eI_ok hy23'.2.2 (d := iv y23) (by kernel_rfl)) .nil))) (by kernel_rfl) (by kernel_rfl) ?_
          rcases Bool.eq_false_or_eq_true (y23 == y16) with h24 | h24
          · have hM := ite_true' hM h24
            refine tr_condTe (e := y23 == y16) h24 (by kernel_rfl) ?_
            refine tr_r hT hm [] [2, 10, 14, 16, 18, 20, 2023] [(2, .d (.sl a1.length 0 (a1.flatMap (eS eI).b))), (10, .d (.rs 1011 0 s17.1.length)), (14, .d (iv s7.2)), (16, .d (iv y14)), (18, .d (iv y16)), (20, .d (iv s17.2)), (2023, .r (.arr 1 ((s17.1.flatMap eI.o).take (0 + s17.2.toNat * 1) ++ [iv y14] ++ (s17.1.flatMap eI.o).drop (0 + s17.2.toNat * 1 + 1)) []))] (.cons hy23'.1 (.cons hy23'.2.1 (.cons (store_le eI_ok hy23'.2.2) .nil))) (by kernel_rfl) (by kernel_rfl) (b_n (q_n ?_))
            refine Tr.by (imp_cvE (r := 1011) (sz := 1) (refs := []) (set_flat eI_ok.lenO (y := y14) hy23'.2.2) (menO_flat eI_ok _) (by kernel_rfl)) ?_
            refine Tr.by (imp_cvD (k := 10) (congrArg (D.rs 1011 0) (List.length_set.symm : s17.1.length = (s17.1.set s17.2.toNat y14).length)) (by kernel_rfl)) ?_
            refine tr_r hT hm [] [2, 10, 14, 16, 18, 20, 2023] [(2, .d (.sl a1.length 0 (a1.flatMap (eS eI).b))), (10, .d (.rs 1011 0 ((s17.1.set s17.2.toNat y14).length))), (14, .d (iv s7.2)), (16, .d (iv y14)), (18, .d (iv y16)), (20, .d (iv (IntKind.i64.wrap (s17.2 + 1)))), (2023, .r (.arr 1 ((s17.1.set s17.2.toNat y14).flatMap eI.o) []))] .nil (by kernel_rfl) (by kernel_rfl) (l_n ?_)
            exact trl_start (ks := [2, 10, 14, 16, 18, 20, 2023]) (by kernel_rfl) (ih19 (s17.1.set s17.2.toNat y14, IntKind.i64.wrap (s17.2 + 1)) hM)
          · have hM := ite_false' hM h24
            refine tr_condFe (e := y23 == y16) h24 (by kernel_rfl) ?_
            refine tr_skip (b_n (q_n ?_))
            refine tr_r hT hm [] [2, 10, 14, 16, 18, 20, 2023] [(2, .d (.sl a1.length 0 (a1.flatMap (eS eI).b))), (10, .d (.rs 1011 0 s17.1.length)), (14, .d (iv s7.2)), (16, .d (iv y14)), (18, .d (iv y16)), (20, .d (iv (IntKind.i64.wrap (s17.2 + 1)))), (2023, .r (.arr 1 (s17.1.flatMap eI.o) []))] .nil (by kernel_rfl) (by kernel_rfl) (l_n ?_)
            exact trl_start (ks := [2, 10, 14, 16, 18, 20, 2023]) (by kernel_rfl) (ih19 (s17.1, IntKind.i64.wrap (s17.2 + 1)) hM)
        · have hM := ite_false' hM h22
          refine tr_condFe (e := y14 != y16) h22 (by kernel_rfl) ?_
          refine tr_exit (q_x (l_x (b_h (b_n (q_n ?_)))))
          refine tr_r hT hm [] [2, 10, 14, 2023] [(2, .d (.sl a1.length 0 (a1.flatMap (eS eI).b))), (10, .d (.rs 1011 0 s17.1.length)), (14, .d (iv (IntKind.i64.wrap (s7.2 + 1)))), (2023, .r (.arr 1 (s17.1.flatMap eI.o) []))] .nil (by kernel_rfl) (by kernel_rfl) (l_n ?_)
          exact trl_start (ks := [2, 10, 14, 2023]) (by kernel_rfl) (ih9 (s17.1, IntKind.i64.wrap (s7.2 + 1)) hM)
      · have hM := ite_false' hM h21
        refine tr_sr hT hm [(4, .val (bv false))] [2, 10, 14, 16, 18, 20, 106, 2023] [(2, .d (.sl a1.length 0 (a1.flatMap (eS eI).b))), (10, .d (.rs 1011 0 s17.1.length)), (14, .d (iv s7.2)), (16, .d (iv y14)), (18, .d (iv y16)), (20, .d (iv s17.2)), (106, .d (bv false)), (2023, .r (.arr 1 (s17.1.flatMap eI.o) []))] (.cons (congrArg (fun b => bv b) h21) .nil) (by kernel_rfl) (by kernel_rfl) ?_
        refine tr_condF (by kernel_rfl) ?_
        refine tr_exit (q_x (l_x (b_h (b_n (q_n ?_)))))
        refine tr_r hT hm [] [2, 10, 14, 2023] [(2, .d (.sl a1.length 0 (a1.flatMap (eS eI).b))), (10, .d (.rs 1011 0 s17.1.length)), (14, .d (iv (IntKind.i64.wrap (s7.2 + 1)))), (2023, .r (.arr 1 (s17.1.flatMap eI.o) []))] .nil (by kernel_rfl) (by kernel_rfl) (l_n ?_)
        exact trl_start (ks := [2, 10, 14, 2023]) (by kernel_rfl) (ih9 (s17.1, IntKind.i64.wrap (s7.2 + 1)) hM)
    · have hM := ite_false' hM h11
      refine tr_condFe (e := decide (s7.2 < (a1.length : Int))) h11 (by kernel_rfl) ?_
      refine tr_exit (q_x (l_x (b_h (q_n ?_))))
      obtain ⟨v25, hv25, hM⟩ := bind_some' hM
      refine tr_sr hT hm [(1, .call [1011] [] [.sl s7.1.length 0 (s7.1.flatMap eI.b)] [] (.fr 1 v25.length (v25.flatMap eI.o)))] [8, 138001] [(8, .d (.rs 69000 0 v25.length)), (138001, .r (.arr 1 (v25.flatMap eI.o) []))] (cc (B := [1011]) (ρ := []) (rB := [(1011, .arr 1 (s7.1.flatMap eI.o) [])]) ok272 (spec_l01Classes_c s7.1 _ hv25) (.cons (.of1 (.rs (r := 1011) (sz := 1) (refs := []) (memB (by kernel_rfl)) (by kernel_rfl) (bor_flat eI_ok _ _ _))) .nil) (.inr ⟨(.fr (nb_flat eI_nb _)), trivial⟩) .nil) (by kernel_rfl) (by kernel_rfl) ?_
      refine tr_ret (rg_r ?_)
      obtain rfl := Option.some.inj hM
      exact retg (names := []) (.cons (lenO_flat eI_ok v25) .nil) (by kernel_rfl)

end Go.Proofs.Ytiikkfdehbcfaaa.WzU
