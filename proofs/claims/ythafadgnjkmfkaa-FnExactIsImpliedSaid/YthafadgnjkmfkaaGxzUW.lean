/- Walks. Printed by wip/gen. -/
import Derived.Test.YthafadgnjkmfkaaGxEM0
import Derived.Test.YthafadgnjkmfkaaGxEO0
import Derived.Test.YthafadgnjkmfkaaGxzCW
import Derived.Test.YthafadgnjkmfkaaGxvIW
import Derived.KernelRfl
namespace Go.Proofs.Ythafadgnjkmfkaa.WzU
open Go.Gx Go.Proofs.Ythafadgnjkmfkaa.WvB Go.Proofs.Ythafadgnjkmfkaa.WyN Go.Proofs.Ythafadgnjkmfkaa.WzC Go.Proofs.Ythafadgnjkmfkaa.WvI

theorem eXCategory_r : EncR eXCategory := (eA_r (eC_r eI_r _) (eA_r (eC_r (eS_r eI_ok) _) (eA_r (eC_r (eS_r eI_ok) _) (eA_r (eC_r (eS_r eI_ok) _) (eC_r (eS_r (eS_ok eI_ok)) _)))))
def T : Tab := [(2, ⟨.int .i64, 1, 8, [.int .i64 0]⟩),
  (3, ⟨.int .i64, 1, 8, [.int .i64 0]⟩),
  (22, ⟨.slice 2, 1, 24, [.slice .none 0 0]⟩),
  (23, ⟨.slice 22, 1, 24, [.slice .none 0 0]⟩),
  (134, ⟨.slice 2, 1, 24, [.slice .none 0 0]⟩)]
theorem hT : TabOk Try.prog T := ⟨tiok (by kernel_rfl) (by kernel_rfl), tiok (by kernel_rfl) (by kernel_rfl), tiok (by kernel_rfl) (by kernel_rfl), tiok (by kernel_rfl) (by kernel_rfl), tiok (by kernel_rfl) (by kernel_rfl), trivial⟩
theorem hm : Try.prog.follows .mixedOrders = true := by kernel_rfl

theorem ok121 : CallOk Try.prog 121 := callOk_of Try.func121 (by kernel_rfl) (by kernel_rfl)
theorem spec_l01Join_c (a0 : Int) (a1 : List (List Int)) (r : (List Int)) (hM : M.spec_l01Join a0 a1 = some r) :
    FnC Try.prog 121 [] [iv a0, .sl a1.length 0 (a1.flatMap (eS eI).b)] [] (.fr 1 r.length (r.flatMap eI.o)) := by
  refine fnc_startG (N := 68) (np := 500) hT Try.func121 rfl rfl (by kernel_rfl) ?_
  unfold M.spec_l01Join at hM
  refine tr_start (ks := [0, 2]) (st' := [(0, .d (iv a0)), (2, .d (.sl a1.length 0 (a1.flatMap (eS eI).b)))]) (by kernel_rfl) ?_
  refine tr_sr hT hm [] [0, 2] [(0, .d (iv a0)), (2, .d (.sl a1.length 0 (a1.flatMap (eS eI).b)))] .nil (by kernel_rfl) (by kernel_rfl) ?_
  refine tr_sr hT hm [] [0, 2, 10, 2023] [(0, .d (iv a0)), (2, .d (.sl a1.length 0 (a1.flatMap (eS eI).b))), (10, .d (.rs 1011 0 (([] : List Int).length))), (2023, .r (.arr 1 (([] : List Int).flatMap eI.o) []))] .nil (by kernel_rfl) (by kernel_rfl) ?_
  refine tr_seq ?_
  refine tr_sr hT hm [] [0, 2, 10, 12, 2023] [(0, .d (iv a0)), (2, .d (.sl a1.length 0 (a1.flatMap (eS eI).b))), (10, .d (.rs 1011 0 (([] : List Int).length))), (12, .d (iv 0)), (2023, .r (.arr 1 (([] : List Int).flatMap eI.o) []))] .nil (by kernel_rfl) (by kernel_rfl) ?_
  refine tr_block ?_
  refine tr_iterS (fun (s1 : (List Int) × Int) => [(0, .d (iv a0)), (2, .d (.sl a1.length 0 (a1.flatMap (eS eI).b))), (10, .d (.rs 1011 0 s1.1.length)), (12, .d (iv s1.2)), (2023, .r (.arr 1 (s1.1.flatMap eI.o) []))]) (([] : List Int), 0) [0, 2, 10, 12, 2023] (by kernel_rfl) hM ?_
  intro n4 next2 ih3 s1 hM
  refine tr_seq ?_
  refine tr_sr hT hm [] [0, 2, 10, 12, 28, 2023] [(0, .d (iv a0)), (2, .d (.sl a1.length 0 (a1.flatMap (eS eI).b))), (10, .d (.rs 1011 0 s1.1.length)), (12, .d (iv s1.2)), (28, .d (bv (decide (s1.2 < a0)))), (2023, .r (.arr 1 (s1.1.flatMap eI.o) []))] .nil (by kernel_rfl) (by kernel_rfl) ?_
  rcases Bool.eq_false_or_eq_true (decide (s1.2 < a0)) with h5 | h5
  · have hM := ite_true' hM h5
    refine tr_condTe (e := decide (s1.2 < a0)) h5 (by kernel_rfl) ?_
    refine tr_skip (q_n ?_)
    refine tr_seq ?_
    refine tr_block ?_
    obtain ⟨h6, hM⟩ := chk_some hM
    refine tr_r hT hm [(3, .app true)] [0, 2, 10, 12, 2041] [(0, .d (iv a0)), (2, .d (.sl a1.length 0 (a1.flatMap (eS eI).b))), (10, .d (.rs 1020 0 (s1.1.length + (([s1.2] : List Int).length)))), (12, .d (iv s1.2)), (2041, .r (.arr 1 (s1.1.flatMap eI.o ++ ([s1.2] : List Int).flatMap eI.o) []))] (.cons (lenO_flat eI_ok s1.1) (.cons (lenO_flat eI_ok ([s1.2] : List Int)) (.cons h6 .nil))) (by kernel_rfl) (by kernel_rfl) (b_n (q_n ?_))
    refine Tr.by (imp_cvE (r := 1020) (sz := 1) (refs := []) (flat_app eI.o s1.1 ([s1.2] : List Int)) (menO_flat eI_ok _) (by kernel_rfl)) ?_
    refine Tr.by (imp_cvD (k := 10) (congrArg (D.rs 1020 0) ((len_app s1.1 ([s1.2] : List Int)) : s1.1.length + (([s1.2] : List Int).length) = (s1.1 ++ ([s1.2] : List Int)).length)) (by kernel_rfl)) ?_
    refine tr_r hT hm [] [0, 2, 10, 12, 2041] [(0, .d (iv a0)), (2, .d (.sl a1.length 0 (a1.flatMap (eS eI).b))), (10, .d (.rs 1020 0 ((s1.1 ++ ([s1.2] : List Int)).length))), (12, .d (iv (IntKind.i64.wrap (s1.2 + 1)))), (2041, .r (.arr 1 ((s1.1 ++ ([s1.2] : List Int)).flatMap eI.o) []))] .nil (by kernel_rfl) (by kernel_rfl) (l_n ?_)
    refine TrL.by (imp_sel (ks := [0, 2, 10, 12, 2041]) (st' := [(0, .d (iv a0)), (2, .d (.sl a1.length 0 (a1.flatMap (eS eI).b))), (10, .d (.rs 1020 0 ((s1.1 ++ ([s1.2] : List Int)).length))), (12, .d (iv (IntKind.i64.wrap (s1.2 + 1)))), (2041, .r (.arr 1 ((s1.1 ++ ([s1.2] : List Int)).flatMap eI.o) []))]) (by kernel_rfl)) ?_
    refine TrL.by (imp_rename (r := 1020) (q := 1011) (by kernel_rfl) (Nat.le_of_ble_eq_true rfl)) ?_
    exact trl_start (ks := [0, 2, 10, 12, 2023]) (by kernel_rfl) (ih3 (s1.1 ++ ([s1.2] : List Int), IntKind.i64.wrap (s1.2 + 1)) hM)
  · have hM := ite_false' hM h5
    refine tr_condFe (e := decide (s1.2 < a0)) h5 (by kernel_rfl) ?_
    refine tr_exit (q_x (l_x (b_h (q_n ?_))))
    refine tr_seq ?_
    refine tr_sr hT hm [] [2, 10, 14, 2023] [(2, .d (.sl a1.length 0 (a1.flatMap (eS eI).b))), (10, .d (.rs 1011 0 s1.1.length)), (14, .d (iv 0)), (2023, .r (.arr 1 (s1.1.flatMap eI.o) []))] .nil (by kernel_rfl) (by kernel_rfl) ?_
    refine tr_block ?_
    refine tr_iterS (fun (s7 : (List Int) × Int) => [(2, .d (.sl a1.length 0 (a1.flatMap (eS eI).b))), (10, .d (.rs 1011 0 s7.1.length)), (14, .d (iv s7.2)), (2023, .r (.arr 1 (s7.1.flatMap eI.o) []))]) (s1.1, 0) [2, 10, 14, 2023] (by kernel_rfl) hM ?_
    intro n10 next8 ih9 s7 hM
    refine tr_seq ?_
    refine tr_sr hT hm [] [2, 10, 14, 48, 2023] [(2, .d (.sl a1.length 0 (a1.flatMap (eS eI).b))), (10, .d (.rs 1011 0 s7.1.length)), (14, .d (iv s7.2)), (48, .d (bv (decide (s7.2 < (a1.length : Int))))), (2023, .r (.arr 1 (s7.1.flatMap eI.o) []))] .nil (by kernel_rfl) (by kernel_rfl) ?_
    rcases Bool.eq_false_or_eq_true (decide (s7.2 < (a1.length : Int))) with h11 | h11
    · have hM := ite_true' hM h11
      refine tr_condTe (e := decide (s7.2 < (a1.length : Int))) h11 (by kernel_rfl) ?_
      refine tr_skip (q_n ?_)
      refine tr_seq ?_
      refine tr_block ?_
      obtain ⟨y12, hy12, hM⟩ := bind_some' hM
      have hy12' := idx_some hy12
      obtain ⟨y13, hy13, hM⟩ := bind_some' hM
      have hy13' := idx_some hy13
      obtain ⟨y14, hy14, hM⟩ := bind_some' hM
      have hy14' := idx_some hy14
      obtain ⟨y15, hy15, hM⟩ := bind_some' hM
      have hy15' := idx_some hy15
      obtain ⟨y16, hy16, hM⟩ := bind_some' hM
      have hy16' := idx_some hy16
      refine tr_sr hT hm [(4, .val (.sl y12.length 0 (y12.flatMap eI.b))), (6, .val (iv y13)), (8, .val (iv y14)), (13, .val (.sl y12.length 0 (y12.flatMap eI.b))), (15, .val (iv y15)), (17, .val (iv y16))] [2, 10, 14, 16, 18, 2023] [(2, .d (.sl a1.length 0 (a1.flatMap (eS eI).b))), (10, .d (.rs 1011 0 s7.1.length)), (14, .d (iv s7.2)), (16, .d (iv y14)), (18, .d (iv y16)), (2023, .r (.arr 1 (s7.1.flatMap eI.o) []))] (.cons hy12'.1 (.cons hy12'.2.1 (.cons (at_b0 (eS_ok eI_ok) hy12'.2.2 (d := .sl y12.length 0 (y12.flatMap eI.b)) (by kernel_rfl)) (.cons hy13'.1 (.cons hy13'.2.1 (.cons (at_b0 eI_ok hy13'.2.2 (d := iv y13) (by kernel_rfl)) (.cons hy14'.1 (.cons hy14'.2.1 (.cons (at_o0 eI_ok hy14'.2.2 (d := iv y14) (by kernel_rfl)) (.cons hy12'.1 (.cons hy12'.2.1 (.cons (at_b0 (eS_ok eI_ok) hy12'.2.2 (d := .sl y12.length 0 (y12.flatMap eI.b)) (by kernel_rfl)) (.cons hy15'.1 (.cons hy15'.2.1 (.cons (at_b0 eI_ok hy15'.2.2 (d := iv y15) (by kernel_rfl)) (.cons hy16'.1 (.cons hy16'.2.1 (.cons (at_o0 eI_ok hy16'.2.2 (d := iv y16) (by kernel_rfl)) .nil)))))))))))))))))) (by kernel_rfl) (by kernel_rfl) ?_
      refine tr_sr hT hm [] [2, 10, 14, 16, 18, 20, 2023] [(2, .d (.sl a1.length 0 (a1.flatMap (eS eI).b))), (10, .d (.rs 1011 0 s7.1.length)), (14, .d (iv s7.2)), (16, .d (iv y14)), (18, .d (iv y16)), (20, .d (iv 0)), (2023, .r (.arr 1 (s7.1.flatMap eI.o) []))] .nil (by kernel_rfl) (by kernel_rfl) ?_
      refine tr_block ?_
      refine tr_iterS (fun (s17 : (List Int) × Int) => [(2, .d (.sl a1.length 0 (a1.flatMap (eS eI).b))), (10, .d (.rs 1011 0 s17.1.length)), (14, .d (iv s7.2)), (16, .d (iv y14)), (18, .d (iv y16)), (20, .d (iv s17.2)), (2023, .r (.arr 1 (s17.1.flatMap eI.o) []))]) (s7.1, 0) [2, 10, 14, 16, 18, 20, 2023] (by kernel_rfl) hM ?_
      intro n20 next18 ih19 s17 hM
      refine tr_seq ?_
      rcases Bool.eq_false_or_eq_true (decide (s17.2 < (s17.1.length : Int))) with h21 | h21
      · have hM := ite_true' hM h21
        refine tr_sr hT hm [(4, .val (bv true))] [2, 10, 14, 16, 18, 20, 106, 2023] [(2, .d (.sl a1.length 0 (a1.flatMap (eS eI).b))), (10, .d (.rs 1011 0 s17.1.length)), (14, .d (iv s7.2)), (16, .d (iv y14)), (18, .d (iv y16)), (20, .d (iv s17.2)), (106, .d (bv (y14 != y16))), (2023, .r (.arr 1 (s17.1.flatMap eI.o) []))] (.cons (congrArg (fun b => bv b) h21) .nil) (by kernel_rfl) (by kernel_rfl) ?_
        rcases Bool.eq_false_or_eq_true (y14 != y16) with h22 | h22
        · have hM := ite_true' hM h22
          refine tr_condTe (e := y14 != y16) h22 (by kernel_rfl) ?_
          refine tr_skip (q_n ?_)
          refine tr_seq ?_
          refine tr_block ?_
          obtain ⟨y23, hy23, hM⟩ := bind_some' hM
          have hy23' := idx_some hy23
          refine tr_sr hT hm [(3, .val (iv y23))] [2, 10, 14, 16, 18, 20, 122, 2023] [(2, .d (.sl a1.length 0 (a1.flatMap (eS eI).b))), (10, .d (.rs 1011 0 s17.1.length)), (14, .d (iv s7.2)), (16, .d (iv y14)), (18, .d (iv y16)), (20, .d (iv s17.2)), (122, .d (bv (y23 == y16))), (2023, .r (.arr 1 (s17.1.flatMap eI.o) []))] (.cons hy23'.1 (.cons hy23'.2.1 (.cons (at_o0 eI_ok hy23'.2.2 (d := iv y23) (by kernel_rfl)) .nil))) (by kernel_rfl) (by kernel_rfl) ?_
          rcases Bool.eq_false_or_eq_true (y23 == y16) with h24 | h24
          · have hM := ite_true' hM h24
            refine tr_condTe (e := y23 == y16) h24 (by kernel_rfl) ?_
            refine tr_r hT hm [] [2, 10, 14, 16, 18, 20, 2023] [(2, .d (.sl a1.length 0 (a1.flatMap (eS eI).b))), (10, .d (.rs 1011 0 s17.1.length)), (14, .d (iv s7.2)), (16, .d (iv y14)), (18, .d (iv y16)), (20, .d (iv s17.2)), (2023, .r (.arr 1 ((s17.1.flatMap eI.o).take (0 + s17.2.toNat * 1) ++ [iv y14] ++ (s17.1.flatMap eI.o).drop (0 + s17.2.toNat * 1 + 1)) []))] (.cons hy23'.1 (.cons hy23'.2.1 (.cons (store_le eI_ok hy23'.2.2) .nil))) (by kernel_rfl) (by kernel_rfl) (b_n (q_n ?_))
            refine Tr.by (imp_cvE (r := 1011) (sz := 1) (refs := []) (set_flat eI_ok.lenO (y := y14) hy23'.2.2) (menO_flat eI_ok _) (by kernel_rfl)) ?_
            refine Tr.by (imp_cvD (k := 10) (congrArg (D.rs 1011 0) (List.length_set.symm : s17.1.length = (s17.1.set s17.2.toNat y14).length)) (by kernel_rfl)) ?_
            refine tr_r hT hm [] [2, 10, 14, 16, 18, 20, 2023] [(2, .d (.sl a1.length 0 (a1.flatMap (eS eI).b))), (10, .d (.rs 1011 0 ((s17.1.set s17.2.toNat y14).length))), (14, .d (iv s7.2)), (16, .d (iv y14)), (18, .d (iv y16)), (20, .d (iv (IntKind.i64.wrap (s17.2 + 1)))), (2023, .r (.arr 1 ((s17.1.set s17.2.toNat y14).flatMap eI.o) []))] .nil (by kernel_rfl) (by kernel_rfl) (l_n ?_)
            exact trl_start (ks := [2, 10, 14, 16, 18, 20, 2023]) (by kernel_rfl) (ih19 (s17.1.set s17.2.toNat y14, IntKind.i64.wrap (s17.2 + 1)) hM)
          · have hM := ite_false' hM h24
            refine tr_condFe (e := y23 == y16) h24 (by kernel_rfl) ?_
            refine tr_skip (b_n (q_n ?_))
            refine tr_r hT hm [] [2, 10, 14, 16, 18, 20, 2023] [(2, .d (.sl a1.length 0 (a1.flatMap (eS eI).b))), (10, .d (.rs 1011 0 s17.1.length)), (14, .d (iv s7.2)), (16, .d (iv y14)), (18, .d (iv y16)), (20, .d (iv (IntKind.i64.wrap (s17.2 + 1)))), (2023, .r (.arr 1 (s17.1.flatMap eI.o) []))] .nil (by kernel_rfl) (by kernel_rfl) (l_n ?_)
            exact trl_start (ks := [2, 10, 14, 16, 18, 20, 2023]) (by kernel_rfl) (ih19 (s17.1, IntKind.i64.wrap (s17.2 + 1)) hM)
        · have hM := ite_false' hM h22
          refine tr_condFe (e := y14 != y16) h22 (by kernel_rfl) ?_
          refine tr_exit (q_x (l_x (b_h (b_n (q_n ?_)))))
          refine tr_r hT hm [] [2, 10, 14, 2023] [(2, .d (.sl a1.length 0 (a1.flatMap (eS eI).b))), (10, .d (.rs 1011 0 s17.1.length)), (14, .d (iv (IntKind.i64.wrap (s7.2 + 1)))), (2023, .r (.arr 1 (s17.1.flatMap eI.o) []))] .nil (by kernel_rfl) (by kernel_rfl) (l_n ?_)
          exact trl_start (ks := [2, 10, 14, 2023]) (by kernel_rfl) (ih9 (s17.1, IntKind.i64.wrap (s7.2 + 1)) hM)
      · have hM := ite_false' hM h21
        refine tr_sr hT hm [(4, .val (bv false))] [2, 10, 14, 16, 18, 20, 106, 2023] [(2, .d (.sl a1.length 0 (a1.flatMap (eS eI).b))), (10, .d (.rs 1011 0 s17.1.length)), (14, .d (iv s7.2)), (16, .d (iv y14)), (18, .d (iv y16)), (20, .d (iv s17.2)), (106, .d (bv false)), (2023, .r (.arr 1 (s17.1.flatMap eI.o) []))] (.cons (congrArg (fun b => bv b) h21) .nil) (by kernel_rfl) (by kernel_rfl) ?_
        refine tr_condF (by kernel_rfl) ?_
        refine tr_exit (q_x (l_x (b_h (b_n (q_n ?_)))))
        refine tr_r hT hm [] [2, 10, 14, 2023] [(2, .d (.sl a1.length 0 (a1.flatMap (eS eI).b))), (10, .d (.rs 1011 0 s17.1.length)), (14, .d (iv (IntKind.i64.wrap (s7.2 + 1)))), (2023, .r (.arr 1 (s17.1.flatMap eI.o) []))] .nil (by kernel_rfl) (by kernel_rfl) (l_n ?_)
        exact trl_start (ks := [2, 10, 14, 2023]) (by kernel_rfl) (ih9 (s17.1, IntKind.i64.wrap (s7.2 + 1)) hM)
    · have hM := ite_false' hM h11
      refine tr_condFe (e := decide (s7.2 < (a1.length : Int))) h11 (by kernel_rfl) ?_
      refine tr_exit (q_x (l_x (b_h (q_n ?_))))
      obtain ⟨v25, hv25, hM⟩ := bind_some' hM
      refine tr_sr hT hm [(1, .call [1011] [] [.sl s7.1.length 0 (s7.1.flatMap eI.b)] [] (.fr 1 v25.length (v25.flatMap eI.o)))] [8, 138001] [(8, .d (.rs 69000 0 v25.length)), (138001, .r (.arr 1 (v25.flatMap eI.o) []))] (cc (B := [1011]) (ρ := []) (rB := [(1011, .arr 1 (s7.1.flatMap eI.o) [])]) ok140 (spec_l01Classes_c s7.1 _ hv25) (.cons (.of1 (.rs (r := 1011) (sz := 1) (refs := []) (memB (by kernel_rfl)) (by kernel_rfl) (bor_flat eI_ok _ _ _))) .nil) (.inr ⟨(.fr (nb_flat eI_nb _)), trivial⟩) .nil) (by kernel_rfl) (by kernel_rfl) ?_
      refine tr_ret (rg_r ?_)
      obtain rfl := Option.some.inj hM
      exact retg (names := []) (.cons (lenO_flat eI_ok v25) .nil) (by kernel_rfl)

theorem ok88 : CallOk Try.prog 88 := callOk_of Try.func88 (by kernel_rfl) (by kernel_rfl)
theorem impl_joinerOf_c (a0 : Int) (r : (List Int)) (hM : M.impl_joinerOf a0 = some r) :
    FnC Try.prog 88 [] [iv a0] [] (.fr 1 r.length (r.flatMap eI.o)) := by
  refine fnc_startG (N := 5) (np := 500) hT Try.func88 rfl rfl (by kernel_rfl) ?_
  unfold M.impl_joinerOf at hM
  refine tr_start (ks := [0]) (st' := [(0, .d (iv a0))]) (by kernel_rfl) ?_
  refine tr_sr hT hm [] [0] [(0, .d (iv a0))] .nil (by kernel_rfl) (by kernel_rfl) ?_
  obtain ⟨v1, hv1, hM⟩ := bind_some' hM
  refine tr_sr hT hm [(1, .call [] [] [iv a0] [] (.fr 1 v1.length (v1.flatMap eI.o)))] [4, 12001] [(4, .d (.rs 6000 0 v1.length)), (12001, .r (.arr 1 (v1.flatMap eI.o) []))] (cc0 ok127 (impl_numbers_c a0 _ hv1) (by kernel_rfl) .nil) (by kernel_rfl) (by kernel_rfl) ?_
  refine tr_ret (rg_r ?_)
  obtain rfl := Option.some.inj hM
  exact retg (names := []) (.cons (lenO_flat eI_ok v1) .nil) (by kernel_rfl)

theorem ok90 : CallOk Try.prog 90 := callOk_of Try.func90 (by kernel_rfl) (by kernel_rfl)
theorem impl_joiner_root_c (a0 : List Int) (a1 : Int) (r : Int × (List Int)) (hM : M.impl_joiner_root a0 a1 = some r) :
    FnC Try.prog 90 [(0, .arr 1 (a0.flatMap eI.o) [])] [.rs 0 0 a0.length, iv a1] [(0, .arr 1 (r.2.flatMap eI.o) [])] (iv r.1) := by
  refine fnc_startG (N := 26) (np := 500) hT Try.func90 rfl rfl (by kernel_rfl) ?_
  unfold M.impl_joiner_root at hM
  refine tr_start (ks := [0, 1, 2]) (st' := [(0, .d (.rs 0 0 a0.length)), (1, .r (.arr 1 (a0.flatMap eI.o) [])), (2, .d (iv a1))]) (by kernel_rfl) ?_
  refine tr_sr hT hm [] [0, 1, 2] [(0, .d (.rs 0 0 a0.length)), (1, .r (.arr 1 (a0.flatMap eI.o) [])), (2, .d (iv a1))] .nil (by kernel_rfl) (by kernel_rfl) ?_
  refine tr_seq ?_
  refine tr_block ?_
  refine tr_iterS (fun (s1 : (List Int) × Int) => [(0, .d (.rs 0 0 s1.1.length)), (1, .r (.arr 1 (s1.1.flatMap eI.o) [])), (2, .d (iv s1.2))]) (a0, a1) [0, 1, 2] (by kernel_rfl) hM ?_
  intro n4 next2 ih3 s1 hM
  refine tr_seq ?_
  obtain ⟨y5, hy5, hM⟩ := bind_some' hM
  have hy5' := idx_some hy5
  refine tr_sr hT hm [(3, .val (iv y5))] [0, 1, 2, 20] [(0, .d (.rs 0 0 s1.1.length)), (1, .r (.arr 1 (s1.1.flatMap eI.o) [])), (2, .d (iv s1.2)), (20, .d (bv (y5 != s1.2)))] (.cons hy5'.1 (.cons hy5'.2.1 (.cons (at_o0 eI_ok hy5'.2.2 (d := iv y5) (by kernel_rfl)) .nil))) (by kernel_rfl) (by kernel_rfl) ?_
  rcases Bool.eq_false_or_eq_true (y5 != s1.2) with h6 | h6
  · have hM := ite_true' hM h6
    refine tr_condTe (e := y5 != s1.2) h6 (by kernel_rfl) ?_
    refine tr_skip (q_n ?_)
    refine tr_block ?_
    obtain ⟨y7, hy7, hM⟩ := bind_some' hM
    have hy7' := idx_some hy7
    refine tr_sr hT hm [(6, .val (iv y5)), (8, .val (iv y7))] [0, 1, 2] [(0, .d (.rs 0 0 s1.1.length)), (1, .r (.arr 1 ((s1.1.flatMap eI.o).take (0 + s1.2.toNat * 1) ++ [iv y7] ++ (s1.1.flatMap eI.o).drop (0 + s1.2.toNat * 1 + 1)) [])), (2, .d (iv s1.2))] (.cons hy5'.1 (.cons hy5'.2.1 (.cons (at_o0 eI_ok hy5'.2.2 (d := iv y5) (by kernel_rfl)) (.cons hy7'.1 (.cons hy7'.2.1 (.cons (at_o0 eI_ok hy7'.2.2 (d := iv y7) (by kernel_rfl)) (.cons hy5'.1 (.cons hy5'.2.1 (.cons (store_le eI_ok hy5'.2.2) .nil))))))))) (by kernel_rfl) (by kernel_rfl) ?_
    refine Tr.by (imp_cvE (r := 0) (sz := 1) (refs := []) (set_flat eI_ok.lenO (y := y7) hy5'.2.2) (menO_flat eI_ok _) (by kernel_rfl)) ?_
    refine Tr.by (imp_cvD (k := 0) (congrArg (D.rs 0 0) (List.length_set.symm : s1.1.length = (s1.1.set s1.2.toNat y7).length)) (by kernel_rfl)) ?_
    obtain ⟨y8, hy8, hM⟩ := bind_some' hM
    have hy8' := idx_some hy8
    refine tr_r hT hm [(3, .val (iv y8))] [0, 1, 2] [(0, .d (.rs 0 0 ((s1.1.set s1.2.toNat y7).length))), (1, .r (.arr 1 ((s1.1.set s1.2.toNat y7).flatMap eI.o) [])), (2, .d (iv y8))] (.cons hy8'.1 (.cons hy8'.2.1 (.cons (at_o0 eI_ok hy8'.2.2 (d := iv y8) (by kernel_rfl)) .nil))) (by kernel_rfl) (by kernel_rfl) (b_n (l_n ?_))
    exact trl_start (ks := [0, 1, 2]) (by kernel_rfl) (ih3 (s1.1.set s1.2.toNat y7, y8) hM)
  · have hM := ite_false' hM h6
    refine tr_condFe (e := y5 != s1.2) h6 (by kernel_rfl) ?_
    refine tr_exit (q_x (l_x (b_h (q_n ?_))))
    refine tr_sr hT hm [] [1, 8] [(1, .r (.arr 1 (s1.1.flatMap eI.o) [])), (8, .d (iv s1.2))] .nil (by kernel_rfl) (by kernel_rfl) ?_
    refine tr_ret (rg_r ?_)
    obtain rfl := Option.some.inj hM
    exact retg (names := [0]) .nil (by kernel_rfl)

theorem ok89 : CallOk Try.prog 89 := callOk_of Try.func89 (by kernel_rfl) (by kernel_rfl)
theorem impl_joiner_join_c (a0 : List Int) (a1 : Int) (a2 : Int) (r : Bool × (List Int)) (hM : M.impl_joiner_join a0 a1 a2 = some r) :
    FnC Try.prog 89 [(0, .arr 1 (a0.flatMap eI.o) [])] [.rs 0 0 a0.length, iv a1, iv a2] [(0, .arr 1 (r.2.flatMap eI.o) [])] (bv r.1) := by
  refine fnc_startG (N := 26) (np := 500) hT Try.func89 rfl rfl (by kernel_rfl) ?_
  unfold M.impl_joiner_join at hM
  refine tr_start (ks := [0, 1, 2, 4]) (st' := [(0, .d (.rs 0 0 a0.length)), (1, .r (.arr 1 (a0.flatMap eI.o) [])), (2, .d (iv a1)), (4, .d (iv a2))]) (by kernel_rfl) ?_
  refine tr_sr hT hm [] [0, 1, 2, 4] [(0, .d (.rs 0 0 a0.length)), (1, .r (.arr 1 (a0.flatMap eI.o) [])), (2, .d (iv a1)), (4, .d (iv a2))] .nil (by kernel_rfl) (by kernel_rfl) ?_
  obtain ⟨v1, hv1, hM⟩ := bind_some' hM
  obtain ⟨v2, hv2, hM⟩ := bind_some' hM
  refine tr_sr hT hm [(2, .call [] [(0, 0)] [.rs 0 0 a0.length, iv a1] [(0, .arr 1 (v1.2.flatMap eI.o) [])] (iv v1.1)), (5, .call [] [(0, 0)] [.rs 0 0 v1.2.length, iv a2] [(0, .arr 1 (v2.2.flatMap eI.o) [])] (iv v2.1))] [0, 1, 14, 16] [(0, .d (.rs 0 0 a0.length)), (1, .r (.arr 1 (v2.2.flatMap eI.o) [])), (14, .d (iv v1.1)), (16, .d (iv v2.1))] (cc (B := []) (ρ := [(0, 0)]) (rB := []) ok90 (impl_joiner_root_c a0 a1 _ hv1) (.cons (.pass (.rs rfl)) (.cons (.same rfl) .nil)) (.inl rfl) (cc (B := []) (ρ := [(0, 0)]) (rB := []) ok90 (impl_joiner_root_c v1.2 a2 _ hv2) (.cons (.pass (pass_rsN (M.len_impl_joiner_root hv1) rfl)) (.cons (.same rfl) .nil)) (.inl rfl) .nil)) (by kernel_rfl) (by kernel_rfl) ?_
  refine Tr.by (imp_cvD (k := 0) (congrArg (D.rs 0 0) (((M.len_impl_joiner_root hv1).trans (M.len_impl_joiner_root hv2)) : a0.length = v2.2.length)) (by kernel_rfl)) ?_
  obtain ⟨y3, hy3, hM⟩ := bind_some' hM
  have hy3' := idx_some hy3
  refine tr_sr hT hm [] [1, 14, 16] [(1, .r (.arr 1 ((v2.2.flatMap eI.o).take (0 + (if v2.1 > v1.1 then v2.1 else v1.1).toNat * 1) ++ [iv (if v2.1 < v1.1 then v2.1 else v1.1)] ++ (v2.2.flatMap eI.o).drop (0 + (if v2.1 > v1.1 then v2.1 else v1.1).toNat * 1 + 1)) [])), (14, .d (iv v1.1)), (16, .d (iv v2.1))] (.cons hy3'.1 (.cons hy3'.2.1 (.cons (store_le eI_ok hy3'.2.2) .nil))) (by kernel_rfl) (by kernel_rfl) ?_
  refine Tr.by (imp_cvE (r := 0) (sz := 1) (refs := []) (set_flat eI_ok.lenO (y := if v2.1 < v1.1 then v2.1 else v1.1) hy3'.2.2) (menO_flat eI_ok _) (by kernel_rfl)) ?_
  refine tr_sr hT hm [] [1, 12] [(1, .r (.arr 1 ((v2.2.set (if v2.1 > v1.1 then v2.1 else v1.1).toNat (if v2.1 < v1.1 then v2.1 else v1.1)).flatMap eI.o) [])), (12, .d (bv (v1.1 != v2.1)))] .nil (by kernel_rfl) (by kernel_rfl) ?_
  refine tr_ret (rg_r ?_)
  obtain rfl := Option.some.inj hM
  exact retg (names := [0]) .nil (by kernel_rfl)

end Go.Proofs.Ythafadgnjkmfkaa.WzU
