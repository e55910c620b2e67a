/- Walks. Printed by wip/gen. -/
import Derived.Test.YtggojehmbpbefaaGxL12W1
namespace Go.Proofs.Ytggojehmbpbefaa.L12
open Go.Gx

theorem ok141 : CallOk Try.prog 141 := callOk_of Try.func141 (by kernel_rfl) (by kernel_rfl)
theorem spec_l06Self_c (a0 : XCategory) (r : XFunctor) (hM : M.spec_l06Self a0 = some r) :
    FnC Try.prog 141 [] [.agg (eXCategory.b a0)] [] (.agg (eXFunctor.o r)) := by
  refine fnc_startG (N := 35) (np := 500) hT Try.func141 rfl rfl (by kernel_rfl) ?_
  unfold M.spec_l06Self at hM
  refine tr_start (ks := [0]) (st' := [(0, .d (.agg (eXCategory.b a0)))]) (by kernel_rfl) ?_
  refine tr_sr hT hm [] [2, 4, 2003, 2005] [(2, .d (.rp 1001 0)), (4, .d (.rp 1002 0)), bxB 2003 (eXCategory.b a0), (2005, .r (.arr 1 [iv 0, nilv, nilv, nilv, nilv, iv 0, nilv, nilv, nilv, nilv, nilv, nilv] []))] .nil (by kernel_rfl) (by kernel_rfl) ?_
  refine tr_sr hT hm [] [2, 4, 6, 8, 2003, 2005, 2015, 2017] [(2, .d (.rp 1001 0)), (4, .d (.rp 1002 0)), (6, .d (.rs 1007 0 (([] : List Int).length))), (8, .d (.rs 1008 0 (([] : List Int).length))), bxB 2003 (eXCategory.b a0), (2005, .r (.arr 1 [iv 0, nilv, nilv, nilv, nilv, iv 0, nilv, nilv, nilv, nilv, nilv, nilv] [])), (2015, .r (.arr 1 (([] : List Int).flatMap eI.o) [])), (2017, .r (.arr 1 (([] : List Int).flatMap eI.o) []))] .nil (by kernel_rfl) (by kernel_rfl) ?_
  refine tr_seq ?_
  refine tr_sr hT hm [] [2, 4, 6, 8, 10, 2003, 2005, 2015, 2017] [(2, .d (.rp 1001 0)), (4, .d (.rp 1002 0)), (6, .d (.rs 1007 0 (([] : List Int).length))), (8, .d (.rs 1008 0 (([] : List Int).length))), (10, .d (iv 0)), bxB 2003 (eXCategory.b a0), (2005, .r (.arr 1 [iv 0, nilv, nilv, nilv, nilv, iv 0, nilv, nilv, nilv, nilv, nilv, nilv] [])), (2015, .r (.arr 1 (([] : List Int).flatMap eI.o) [])), (2017, .r (.arr 1 (([] : List Int).flatMap eI.o) []))] .nil (by kernel_rfl) (by kernel_rfl) ?_
  refine tr_block ?_
  refine tr_iterS (fun (s1 : (List Int) × Int) => [(2, .d (.rp 1001 0)), (4, .d (.rp 1002 0)), (6, .d (.rs 1007 0 s1.1.length)), (8, .d (.rs 1008 0 (([] : List Int).length))), (10, .d (iv s1.2)), bxB 2003 (eXCategory.b a0), (2005, .r (.arr 1 [iv 0, nilv, nilv, nilv, nilv, iv 0, nilv, nilv, nilv, nilv, nilv, nilv] [])), (2015, .r (.arr 1 (s1.1.flatMap eI.o) [])), (2017, .r (.arr 1 (([] : List Int).flatMap eI.o) []))]) (([] : List Int), 0) [2, 4, 6, 8, 10, 2003, 2005, 2015, 2017] (by kernel_rfl) hM ?_
  intro n4 next2 ih3 s1 hM
  refine tr_seq ?_
  refine tr_sr hT hm [] [2, 4, 6, 8, 10, 24, 2003, 2005, 2015, 2017] [(2, .d (.rp 1001 0)), (4, .d (.rp 1002 0)), (6, .d (.rs 1007 0 s1.1.length)), (8, .d (.rs 1008 0 (([] : List Int).length))), (10, .d (iv s1.2)), (24, .d (bv (decide (s1.2 < a0.Objects)))), bxB 2003 (eXCategory.b a0), (2005, .r (.arr 1 [iv 0, nilv, nilv, nilv, nilv, iv 0, nilv, nilv, nilv, nilv, nilv, nilv] [])), (2015, .r (.arr 1 (s1.1.flatMap eI.o) [])), (2017, .r (.arr 1 (([] : List Int).flatMap eI.o) []))] .nil (by kernel_rfl) (by kernel_rfl) ?_
  rcases Bool.eq_false_or_eq_true (decide (s1.2 < a0.Objects)) with h5 | h5
  · have hM := ite_true' hM h5
    refine tr_condTe (e := decide (s1.2 < a0.Objects)) h5 (by kernel_rfl) ?_
    refine tr_skip (q_n ?_)
    refine tr_seq ?_
    refine tr_block ?_
    obtain ⟨h6, hM⟩ := chk_some hM
    refine tr_r hT hm [(3, .app true)] [2, 4, 6, 8, 10, 2003, 2005, 2017, 2037] [(2, .d (.rp 1001 0)), (4, .d (.rp 1002 0)), (6, .d (.rs 1018 0 (s1.1.length + (([s1.2] : List Int).length)))), (8, .d (.rs 1008 0 (([] : List Int).length))), (10, .d (iv s1.2)), bxB 2003 (eXCategory.b a0), (2005, .r (.arr 1 [iv 0, nilv, nilv, nilv, nilv, iv 0, nilv, nilv, nilv, nilv, nilv, nilv] [])), (2017, .r (.arr 1 (([] : List Int).flatMap eI.o) [])), (2037, .r (.arr 1 (s1.1.flatMap eI.o ++ ([s1.2] : List Int).flatMap eI.o) []))] (.cons (lenO_flat eI_ok s1.1) (.cons (lenO_flat eI_ok ([s1.2] : List Int)) (.cons h6 .nil))) (by kernel_rfl) (by kernel_rfl) (b_n (q_n ?_))
    refine Tr.by (imp_cvE (r := 1018) (sz := 1) (refs := []) (flat_app eI.o s1.1 ([s1.2] : List Int)) (menO_flat eI_ok _) (by kernel_rfl)) ?_
    refine Tr.by (imp_cvD (k := 6) (congrArg (D.rs 1018 0) ((len_app s1.1 ([s1.2] : List Int)) : s1.1.length + (([s1.2] : List Int).length) = (s1.1 ++ ([s1.2] : List Int)).length)) (by kernel_rfl)) ?_
    refine tr_r hT hm [] [2, 4, 6, 8, 10, 2003, 2005, 2017, 2037] [(2, .d (.rp 1001 0)), (4, .d (.rp 1002 0)), (6, .d (.rs 1018 0 ((s1.1 ++ ([s1.2] : List Int)).length))), (8, .d (.rs 1008 0 (([] : List Int).length))), (10, .d (iv (IntKind.i64.wrap (s1.2 + 1)))), bxB 2003 (eXCategory.b a0), (2005, .r (.arr 1 [iv 0, nilv, nilv, nilv, nilv, iv 0, nilv, nilv, nilv, nilv, nilv, nilv] [])), (2017, .r (.arr 1 (([] : List Int).flatMap eI.o) [])), (2037, .r (.arr 1 ((s1.1 ++ ([s1.2] : List Int)).flatMap eI.o) []))] .nil (by kernel_rfl) (by kernel_rfl) (l_n ?_)
    refine TrL.by (imp_sel (ks := [2, 4, 6, 8, 10, 2003, 2005, 2017, 2037]) (st' := [(2, .d (.rp 1001 0)), (4, .d (.rp 1002 0)), (6, .d (.rs 1018 0 ((s1.1 ++ ([s1.2] : List Int)).length))), (8, .d (.rs 1008 0 (([] : List Int).length))), (10, .d (iv (IntKind.i64.wrap (s1.2 + 1)))), bxB 2003 (eXCategory.b a0), (2005, .r (.arr 1 [iv 0, nilv, nilv, nilv, nilv, iv 0, nilv, nilv, nilv, nilv, nilv, nilv] [])), (2017, .r (.arr 1 (([] : List Int).flatMap eI.o) [])), (2037, .r (.arr 1 ((s1.1 ++ ([s1.2] : List Int)).flatMap eI.o) []))]) (by kernel_rfl)) ?_
    refine TrL.by (imp_rename (r := 1018) (q := 1007) (by kernel_rfl) (Nat.le_of_ble_eq_true rfl)) ?_
    exact trl_start (ks := [2, 4, 6, 8, 10, 2003, 2005, 2015, 2017]) (by kernel_rfl) (ih3 (s1.1 ++ ([s1.2] : List Int), IntKind.i64.wrap (s1.2 + 1)) hM)
  · have hM := ite_false' hM h5
    refine tr_condFe (e := decide (s1.2 < a0.Objects)) h5 (by kernel_rfl) ?_
    refine tr_exit (q_x (l_x (b_h (q_n ?_))))
    refine tr_seq ?_
    refine tr_sr hT hm [] [2, 4, 6, 8, 12, 2003, 2005, 2015, 2017] [(2, .d (.rp 1001 0)), (4, .d (.rp 1002 0)), (6, .d (.rs 1007 0 s1.1.length)), (8, .d (.rs 1008 0 (([] : List Int).length))), (12, .d (iv 0)), bxB 2003 (eXCategory.b a0), (2005, .r (.arr 1 [iv 0, nilv, nilv, nilv, nilv, iv 0, nilv, nilv, nilv, nilv, nilv, nilv] [])), (2015, .r (.arr 1 (s1.1.flatMap eI.o) [])), (2017, .r (.arr 1 (([] : List Int).flatMap eI.o) []))] .nil (by kernel_rfl) (by kernel_rfl) ?_
    refine tr_block ?_
    refine tr_iterS (fun (s7 : (List Int) × Int) => [(2, .d (.rp 1001 0)), (4, .d (.rp 1002 0)), (6, .d (.rs 1007 0 s1.1.length)), (8, .d (.rs 1008 0 s7.1.length)), (12, .d (iv s7.2)), bxB 2003 (eXCategory.b a0), (2005, .r (.arr 1 [iv 0, nilv, nilv, nilv, nilv, iv 0, nilv, nilv, nilv, nilv, nilv, nilv] [])), (2015, .r (.arr 1 (s1.1.flatMap eI.o) [])), (2017, .r (.arr 1 (s7.1.flatMap eI.o) []))]) (([] : List Int), 0) [2, 4, 6, 8, 12, 2003, 2005, 2015, 2017] (by kernel_rfl) hM ?_
    intro n10 next8 ih9 s7 hM
    refine tr_seq ?_
    refine tr_sr hT hm [] [2, 4, 6, 8, 12, 46, 2003, 2005, 2015, 2017] [(2, .d (.rp 1001 0)), (4, .d (.rp 1002 0)), (6, .d (.rs 1007 0 s1.1.length)), (8, .d (.rs 1008 0 s7.1.length)), (12, .d (iv s7.2)), (46, .d (bv (decide (s7.2 < (a0.From.length : Int))))), bxB 2003 (eXCategory.b a0), (2005, .r (.arr 1 [iv 0, nilv, nilv, nilv, nilv, iv 0, nilv, nilv, nilv, nilv, nilv, nilv] [])), (2015, .r (.arr 1 (s1.1.flatMap eI.o) [])), (2017, .r (.arr 1 (s7.1.flatMap eI.o) []))] .nil (by kernel_rfl) (by kernel_rfl) ?_
    rcases Bool.eq_false_or_eq_true (decide (s7.2 < (a0.From.length : Int))) with h11 | h11
    · have hM := ite_true' hM h11
      refine tr_condTe (e := decide (s7.2 < (a0.From.length : Int))) h11 (by kernel_rfl) ?_
      refine tr_skip (q_n ?_)
      refine tr_seq ?_
      refine tr_block ?_
      obtain ⟨h12, hM⟩ := chk_some hM
      refine tr_r hT hm [(3, .app true)] [2, 4, 6, 8, 12, 2003, 2005, 2015, 2059] [(2, .d (.rp 1001 0)), (4, .d (.rp 1002 0)), (6, .d (.rs 1007 0 s1.1.length)), (8, .d (.rs 1029 0 (s7.1.length + (([s7.2] : List Int).length)))), (12, .d (iv s7.2)), bxB 2003 (eXCategory.b a0), (2005, .r (.arr 1 [iv 0, nilv, nilv, nilv, nilv, iv 0, nilv, nilv, nilv, nilv, nilv, nilv] [])), (2015, .r (.arr 1 (s1.1.flatMap eI.o) [])), (2059, .r (.arr 1 (s7.1.flatMap eI.o ++ ([s7.2] : List Int).flatMap eI.o) []))] (.cons (lenO_flat eI_ok s7.1) (.cons (lenO_flat eI_ok ([s7.2] : List Int)) (.cons h12 .nil))) (by kernel_rfl) (by kernel_rfl) (b_n (q_n ?_))
      refine Tr.by (imp_cvE (r := 1029) (sz := 1) (refs := []) (flat_app eI.o s7.1 ([s7.2] : List Int)) (menO_flat eI_ok _) (by kernel_rfl)) ?_
      refine Tr.by (imp_cvD (k := 8) (congrArg (D.rs 1029 0) ((len_app s7.1 ([s7.2] : List Int)) : s7.1.length + (([s7.2] : List Int).length) = (s7.1 ++ ([s7.2] : List Int)).length)) (by kernel_rfl)) ?_
      refine tr_r hT hm [] [2, 4, 6, 8, 12, 2003, 2005, 2015, 2059] [(2, .d (.rp 1001 0)), (4, .d (.rp 1002 0)), (6, .d (.rs 1007 0 s1.1.length)), (8, .d (.rs 1029 0 ((s7.1 ++ ([s7.2] : List Int)).length))), (12, .d (iv (IntKind.i64.wrap (s7.2 + 1)))), bxB 2003 (eXCategory.b a0), (2005, .r (.arr 1 [iv 0, nilv, nilv, nilv, nilv, iv 0, nilv, nilv, nilv, nilv, nilv, nilv] [])), (2015, .r (.arr 1 (s1.1.flatMap eI.o) [])), (2059, .r (.arr 1 ((s7.1 ++ ([s7.2] : List Int)).flatMap eI.o) []))] .nil (by kernel_rfl) (by kernel_rfl) (l_n ?_)
      refine TrL.by (imp_sel (ks := [2, 4, 6, 8, 12, 2003, 2005, 2015, 2059]) (st' := [(2, .d (.rp 1001 0)), (4, .d (.rp 1002 0)), (6, .d (.rs 1007 0 s1.1.length)), (8, .d (.rs 1029 0 ((s7.1 ++ ([s7.2] : List Int)).length))), (12, .d (iv (IntKind.i64.wrap (s7.2 + 1)))), bxB 2003 (eXCategory.b a0), (2005, .r (.arr 1 [iv 0, nilv, nilv, nilv, nilv, iv 0, nilv, nilv, nilv, nilv, nilv, nilv] [])), (2015, .r (.arr 1 (s1.1.flatMap eI.o) [])), (2059, .r (.arr 1 ((s7.1 ++ ([s7.2] : List Int)).flatMap eI.o) []))]) (by kernel_rfl)) ?_
      refine TrL.by (imp_rename (r := 1029) (q := 1008) (by kernel_rfl) (Nat.le_of_ble_eq_true rfl)) ?_
      exact trl_start (ks := [2, 4, 6, 8, 12, 2003, 2005, 2015, 2017]) (by kernel_rfl) (ih9 (s7.1 ++ ([s7.2] : List Int), IntKind.i64.wrap (s7.2 + 1)) hM)
    · have hM := ite_false' hM h11
      refine tr_condFe (e := decide (s7.2 < (a0.From.length : Int))) h11 (by kernel_rfl) ?_
      refine tr_exit (q_x (l_x (b_h (q_n ?_))))
      obtain ⟨v13, hv13, hM⟩ := bind_some' hM
      refine tr_sr hT hm [(4, .call [1007, 1008] [] [.agg [iv a0.Objects, .sl a0.From.length 0 (a0.From.flatMap eI.b), .sl a0.To.length 0 (a0.To.flatMap eI.b), .sl a0.Identity.length 0 (a0.Identity.flatMap eI.b), .sl a0.Composites.length 0 (a0.Composites.flatMap (eS eI).b)], .agg [iv a0.Objects, .sl a0.From.length 0 (a0.From.flatMap eI.b), .sl a0.To.length 0 (a0.To.flatMap eI.b), .sl a0.Identity.length 0 (a0.Identity.flatMap eI.b), .sl a0.Composites.length 0 (a0.Composites.flatMap (eS eI).b)], .sl s1.1.length 0 (s1.1.flatMap eI.b), .sl s7.1.length 0 (s7.1.flatMap eI.b)] [] (.agg (eXFunctor.o v13)))] [4, 2005, 72003, 72005, 72007, 72009, 72013, 72015, 72017, 72019, 72021, 72023] ([(4, .d (.rp 1002 0)), bxO 2005 36000 (eXFunctor.o v13)] ++ rsS 36000 (eXFunctor.o v13)) (cc (B := [1007, 1008]) (ρ := []) (rB := [(1007, .arr 1 (s1.1.flatMap eI.o) []), (1008, .arr 1 (s7.1.flatMap eI.o) [])]) ok111 (spec_l06Make_c a0 a0 s1.1 s7.1 _ hv13) (.cons (.same rfl) (.cons (.same rfl) (.cons (.of1 (.rs (r := 1007) (sz := 1) (refs := []) (memB (by kernel_rfl)) (by kernel_rfl) (bor_flat eI_ok _ _ _))) (.cons (.of1 (.rs (r := 1008) (sz := 1) (refs := []) (memB (by kernel_rfl)) (by kernel_rfl) (bor_flat eI_ok _ _ _))) .nil)))) (.inr ⟨(.agg (eXFunctor_nb _)), trivial⟩) (.cons (Nat.le_of_ble_eq_true (n := 12) (m := 12) rfl) .nil)) (by kernel_rfl) (by kernel_rfl) ?_
      refine tr_ret (rg_r ?_)
      obtain rfl := Option.some.inj hM
      exact retg (names := []) (.cons (lenO_flat eI_ok v13.Source.From) (.cons (lenO_flat eI_ok v13.Source.To) (.cons (lenO_flat eI_ok v13.Source.Identity) (.cons (lenO_flat (eS_ok eI_ok) v13.Source.Composites) (.cons (lenO_flat eI_ok v13.Target.From) (.cons (lenO_flat eI_ok v13.Target.To) (.cons (lenO_flat eI_ok v13.Target.Identity) (.cons (lenO_flat (eS_ok eI_ok) v13.Target.Composites) (.cons (lenO_flat eI_ok v13.Objects) (.cons (lenO_flat eI_ok v13.Arrows) .nil)))))))))) (by kernel_rfl)

theorem ok75 : CallOk Try.prog 75 := callOk_of Try.func75 (by kernel_rfl) (by kernel_rfl)
theorem spec_HomProfunctor_c (a0 : XCategory) (r : XProfunctor × Int) (hM : M.spec_HomProfunctor a0 = some r) :
    FnC Try.prog 75 [] [.agg (eXCategory.b a0)] [] (.tup [.agg (eXProfunctor.o r.1), iv r.2]) := by
  refine fnc_startG (N := 13) (np := 500) hT Try.func75 rfl rfl (by kernel_rfl) ?_
  unfold M.spec_HomProfunctor at hM
  refine tr_start (ks := [0]) (st' := [(0, .d (.agg (eXCategory.b a0)))]) (by kernel_rfl) ?_
  refine tr_sr hT hm [] [2, 4, 2003, 2005] [(2, .d (.rp 1001 0)), (4, .d (.rp 1002 0)), bxB 2003 (eXCategory.b a0), (2005, .r (.arr 1 [iv 0, nilv, nilv, nilv, nilv, iv 0, nilv, nilv, nilv, nilv, nilv, nilv, nilv] []))] .nil (by kernel_rfl) (by kernel_rfl) ?_
  refine tr_seq ?_
  obtain ⟨v1, hv1, hM⟩ := bind_some' hM
  refine tr_sr hT hm [(1, .call [] [] [.agg [iv a0.Objects, .sl a0.From.length 0 (a0.From.flatMap eI.b), .sl a0.To.length 0 (a0.To.flatMap eI.b), .sl a0.Identity.length 0 (a0.Identity.flatMap eI.b), .sl a0.Composites.length 0 (a0.Composites.flatMap (eS eI).b)]] [] (bv v1))] [2, 4, 12, 2003, 2005] [(2, .d (.rp 1001 0)), (4, .d (.rp 1002 0)), (12, .d (bv (!v1))), bxB 2003 (eXCategory.b a0), (2005, .r (.arr 1 [iv 0, nilv, nilv, nilv, nilv, iv 0, nilv, nilv, nilv, nilv, nilv, nilv, nilv] []))] (cc0 ok139 (spec_l02Is_c a0 _ hv1) (by kernel_rfl) .nil) (by kernel_rfl) (by kernel_rfl) ?_
  rcases Bool.eq_false_or_eq_true v1 with h2 | h2
  · have hM := ite_true' hM h2
    refine tr_condFe (e := !v1) (congrArg not h2) (by kernel_rfl) ?_
    refine tr_skip (q_n ?_)
    obtain ⟨v3, hv3, hM⟩ := bind_some' hM
    obtain ⟨v4, hv4, hM⟩ := bind_some' hM
    refine tr_sr hT hm [(1, .call [] [] [.agg [iv a0.Objects, .sl a0.From.length 0 (a0.From.flatMap eI.b), .sl a0.To.length 0 (a0.To.flatMap eI.b), .sl a0.Identity.length 0 (a0.Identity.flatMap eI.b), .sl a0.Composites.length 0 (a0.Composites.flatMap (eS eI).b)]] [] (.agg (eXFunctor.o v3))), (3, .call [] [] [.agg [iv a0.Objects, .sl a0.From.length 0 (a0.From.flatMap eI.b), .sl a0.To.length 0 (a0.To.flatMap eI.b), .sl a0.Identity.length 0 (a0.Identity.flatMap eI.b), .sl a0.Composites.length 0 (a0.Composites.flatMap (eS eI).b)]] [] (.agg (eXFunctor.o v3))), (4, .call (rsR 11000 (eXFunctor.o v3) ++ rsR 13000 (eXFunctor.o v3)) [] [.agg (eXFunctor.b v3), .agg (eXFunctor.b v3)] [] (.agg (eXProfunctor.o v4)))] [4, 6, 2005, 28003, 28005, 28007, 28009, 28013, 28015, 28017, 28019, 28021, 28023, 28025] ([(4, .d (.rp 1002 0)), (6, .d (iv 0)), bxO 2005 14000 (eXProfunctor.o v4)] ++ rsS 14000 (eXProfunctor.o v4)) (cc0 ok141 (spec_l06Self_c a0 _ hv3) (by kernel_rfl) (cc0 ok141 (spec_l06Self_c a0 _ hv3) (by kernel_rfl) (cc (B := (rsR 11000 (eXFunctor.o v3) ++ rsR 13000 (eXFunctor.o v3))) (ρ := []) (rB := (rsP 11000 (eXFunctor.o v3) ++ rsP 13000 (eXFunctor.o v3))) ok140 (spec_l22Natural_c v3 v3 _ hv4) (.cons (bor_rs eXFunctor_r (q := 11000) (x := v3) (by kernel_rfl) (by kernel_rfl)) (.cons (bor_rs eXFunctor_r (q := 13000) (x := v3) (by kernel_rfl) (by kernel_rfl)) .nil)) (.inr ⟨(.agg (eXProfunctor_nb _)), trivial⟩) (.cons (Nat.le_of_ble_eq_true (n := 13) (m := 13) rfl) .nil)))) (by kernel_rfl) (by kernel_rfl) ?_
    refine tr_ret (rg_r ?_)
    obtain rfl := Option.some.inj hM
    exact retg (names := []) (.cons (lenO_flat eI_ok v4.Source.From) (.cons (lenO_flat eI_ok v4.Source.To) (.cons (lenO_flat eI_ok v4.Source.Identity) (.cons (lenO_flat (eS_ok eI_ok) v4.Source.Composites) (.cons (lenO_flat eI_ok v4.Target.From) (.cons (lenO_flat eI_ok v4.Target.To) (.cons (lenO_flat eI_ok v4.Target.Identity) (.cons (lenO_flat (eS_ok eI_ok) v4.Target.Composites) (.cons (lenO_flat (eS_ok eI_ok) v4.Sizes) (.cons (lenO_flat (eS_ok (eS_ok eI_ok)) v4.Before) (.cons (lenO_flat (eS_ok (eS_ok eI_ok)) v4.Behind) .nil))))))))))) (by kernel_rfl)
  · have hM := ite_false' hM h2
    refine tr_condTe (e := !v1) (congrArg not h2) (by kernel_rfl) ?_
    refine tr_sr hT hm [] [4, 6, 2005] [(4, .d (.rp 1002 0)), (6, .d (iv 1)), (2005, .r (.arr 1 [iv 0, nilv, nilv, nilv, nilv, iv 0, nilv, nilv, nilv, nilv, nilv, nilv, nilv] []))] (.cons (Nat.le_of_ble_eq_true (n := 13) (m := 13) rfl) .nil) (by kernel_rfl) (by kernel_rfl) ?_
    refine tr_ret (q_r (rg_r ?_))
    refine RetG.by (imp_cvB (r := 1002) (sz := 1) (cells := [iv 0, nilv, nilv, nilv, nilv, iv 0, nilv, nilv, nilv, nilv, nilv, nilv, nilv]) (cells' := [iv 0, .fr 1 ([] : List Int).length (([] : List Int).flatMap eI.o), .fr 1 ([] : List Int).length (([] : List Int).flatMap eI.o), .fr 1 ([] : List Int).length (([] : List Int).flatMap eI.o), .fr 1 ([] : List (List Int)).length (([] : List (List Int)).flatMap (eS eI).o), iv 0, .fr 1 ([] : List Int).length (([] : List Int).flatMap eI.o), .fr 1 ([] : List Int).length (([] : List Int).flatMap eI.o), .fr 1 ([] : List Int).length (([] : List Int).flatMap eI.o), .fr 1 ([] : List (List Int)).length (([] : List (List Int)).flatMap (eS eI).o), .fr 1 ([] : List (List Int)).length (([] : List (List Int)).flatMap (eS eI).o), .fr 1 ([] : List (List (List Int))).length (([] : List (List (List Int))).flatMap (eS (eS eI)).o), .fr 1 ([] : List (List (List Int))).length (([] : List (List (List Int))).flatMap (eS (eS eI)).o)]) (refs := []) (refs' := []) (.cons (.refl _) (.cons Sub.nil_fr (.cons Sub.nil_fr (.cons Sub.nil_fr (.cons Sub.nil_fr (.cons (.refl _) (.cons Sub.nil_fr (.cons Sub.nil_fr (.cons Sub.nil_fr (.cons Sub.nil_fr (.cons Sub.nil_fr (.cons Sub.nil_fr (.cons Sub.nil_fr .nil))))))))))))) (by kernel_rfl) (by kernel_rfl) (by kernel_rfl)) ?_
    obtain rfl := Option.some.inj hM
    exact retg (names := []) .nil (by kernel_rfl)

theorem ok120 : CallOk Try.prog 120 := callOk_of Try.func120 (by kernel_rfl) (by kernel_rfl)
theorem impl_numbers_c (a0 : Int) (r : (List Int)) (hM : M.impl_numbers a0 = some r) :
    FnC Try.prog 120 [] [iv a0] [] (.fr 1 r.length (r.flatMap eI.o)) := by
  refine fnc_startG (N := 18) (np := 500) hT Try.func120 rfl rfl (by kernel_rfl) ?_
  unfold M.impl_numbers at hM
  refine tr_start (ks := [0]) (st' := [(0, .d (iv a0))]) (by kernel_rfl) ?_
  refine tr_sr hT hm [] [0] [(0, .d (iv a0))] .nil (by kernel_rfl) (by kernel_rfl) ?_
  obtain ⟨h1, hM⟩ := chk_some hM
  refine tr_sr hT hm [] [6, 2013] [(6, .d (.rs 1006 0 a0.toNat)), (2013, .r (.arr 1 (repl a0.toNat [.int .i64 0]) []))] (.cons h1.1 (.cons (Int.le_refl a0) (.cons h1.2 .nil))) (by kernel_rfl) (by kernel_rfl) ?_
  refine Tr.by (imp_cvE (r := 1006) (sz := 1) (refs := []) (repl_flat (f := eI.o) (zs := [.int .i64 0]) (z := (0 : Int)) rfl a0.toNat) (menO_flat eI_ok _) (by kernel_rfl)) ?_
  refine Tr.by (imp_cvD (k := 6) (congrArg (D.rs 1006 0) (List.length_replicate.symm : a0.toNat = (List.replicate a0.toNat (0 : Int)).length)) (by kernel_rfl)) ?_
  refine tr_seq ?_
  refine tr_sr hT hm [] [6, 16, 18, 2013] [(6, .d (.rs 1006 0 ((List.replicate a0.toNat (0 : Int)).length))), (16, .d (iv ((List.replicate a0.toNat (0 : Int)).length : Int))), (18, .d (iv 0)), (2013, .r (.arr 1 ((List.replicate a0.toNat (0 : Int)).flatMap eI.o) []))] .nil (by kernel_rfl) (by kernel_rfl) ?_
  refine tr_block ?_
  refine tr_iterS (fun (s2 : (List Int) × Int) => [(6, .d (.rs 1006 0 s2.1.length)), (16, .d (iv ((List.replicate a0.toNat (0 : Int)).length : Int))), (18, .d (iv s2.2)), (2013, .r (.arr 1 (s2.1.flatMap eI.o) []))]) ((List.replicate a0.toNat (0 : Int)), 0) [6, 16, 18, 2013] (by kernel_rfl) hM ?_
  intro n5 next3 ih4 s2 hM
  refine tr_sr hT hm [] [6, 16, 18, 20, 2013] [(6, .d (.rs 1006 0 s2.1.length)), (16, .d (iv ((List.replicate a0.toNat (0 : Int)).length : Int))), (18, .d (iv s2.2)), (20, .d (bv (decide (s2.2 < ((List.replicate a0.toNat (0 : Int)).length : Int))))), (2013, .r (.arr 1 (s2.1.flatMap eI.o) []))] .nil (by kernel_rfl) (by kernel_rfl) ?_
  refine tr_seq ?_
  rcases Bool.eq_false_or_eq_true (decide (s2.2 < ((List.replicate a0.toNat (0 : Int)).length : Int))) with h6 | h6
  · have hM := ite_true' hM h6
    refine tr_condTe (e := decide (s2.2 < ((List.replicate a0.toNat (0 : Int)).length : Int))) h6 (by kernel_rfl) ?_
    refine tr_skip (q_n ?_)
    refine tr_seq ?_
    refine tr_block ?_
    refine tr_sr hT hm [] [6, 8, 16, 18, 2013] [(6, .d (.rs 1006 0 s2.1.length)), (8, .d (iv s2.2)), (16, .d (iv ((List.replicate a0.toNat (0 : Int)).length : Int))), (18, .d (iv s2.2)), (2013, .r (.arr 1 (s2.1.flatMap eI.o) []))] .nil (by kernel_rfl) (by kernel_rfl) ?_
    obtain ⟨y7, hy7, hM⟩ := bind_some' hM
    have hy7' := idx_some hy7
    refine tr_r hT hm [] [6, 16, 18, 2013] [(6, .d (.rs 1006 0 s2.1.length)), (16, .d (iv ((List.replicate a0.toNat (0 : Int)).length : Int))), (18, .d (iv s2.2)), (2013, .r (.arr 1 ((s2.1.flatMap eI.o).take (0 + s2.2.toNat * 1) ++ [iv s2.2] ++ (s2.1.flatMap eI.o).drop (0 + s2.2.toNat * 1 + 1)) []))] (.cons hy7'.1 (.cons hy7'.2.1 (.cons (store_le eI_ok hy7'.2.2) .nil))) (by kernel_rfl) (by kernel_rfl) (b_n (q_n ?_))
    refine Tr.by (imp_cvE (r := 1006) (sz := 1) (refs := []) (set_flat eI_ok.lenO (y := s2.2) hy7'.2.2) (menO_flat eI_ok _) (by kernel_rfl)) ?_
    refine Tr.by (imp_cvD (k := 6) (congrArg (D.rs 1006 0) (List.length_set.symm : s2.1.length = (s2.1.set s2.2.toNat s2.2).length)) (by kernel_rfl)) ?_
    refine tr_r hT hm [] [6, 16, 18, 2013] [(6, .d (.rs 1006 0 ((s2.1.set s2.2.toNat s2.2).length))), (16, .d (iv ((List.replicate a0.toNat (0 : Int)).length : Int))), (18, .d (iv (IntKind.i64.wrap (s2.2 + 1)))), (2013, .r (.arr 1 ((s2.1.set s2.2.toNat s2.2).flatMap eI.o) []))] .nil (by kernel_rfl) (by kernel_rfl) (l_n ?_)
    exact trl_start (ks := [6, 16, 18, 2013]) (by kernel_rfl) (ih4 (s2.1.set s2.2.toNat s2.2, IntKind.i64.wrap (s2.2 + 1)) hM)
  · have hM := ite_false' hM h6
    refine tr_condFe (e := decide (s2.2 < ((List.replicate a0.toNat (0 : Int)).length : Int))) h6 (by kernel_rfl) ?_
    refine tr_exit (q_x (l_x (b_h (q_n ?_))))
    refine tr_sr hT hm [] [4, 2013] [(4, .d (.rs 1006 0 s2.1.length)), (2013, .r (.arr 1 (s2.1.flatMap eI.o) []))] .nil (by kernel_rfl) (by kernel_rfl) ?_
    refine tr_ret (rg_r ?_)
    obtain rfl := Option.some.inj hM
    exact retg (names := []) (.cons (lenO_flat eI_ok s2.1) .nil) (by kernel_rfl)

theorem ok143 : CallOk Try.prog 143 := callOk_of Try.func143 (by kernel_rfl) (by kernel_rfl)
theorem impl_identity_c (a0 : XCategory) (r : XFunctor) (hM : M.impl_identity a0 = some r) :
    FnC Try.prog 143 [] [.pt (eXCategory.b a0) 0] [] (.agg (eXFunctor.o r)) := by
  refine fnc_startG (N := 14) (np := 500) hT Try.func143 rfl rfl (by kernel_rfl) ?_
  unfold M.impl_identity at hM
  refine tr_start (ks := [0]) (st' := [(0, .d (.pt (eXCategory.b a0) 0))]) (by kernel_rfl) ?_
  refine tr_sr hT hm [] [0, 4, 2005] [(0, .d (.pt (eXCategory.b a0) 0)), (4, .d (.rp 1002 0)), (2005, .r (.arr 1 [iv 0, nilv, nilv, nilv, nilv, iv 0, nilv, nilv, nilv, nilv, nilv, nilv] []))] .nil (by kernel_rfl) (by kernel_rfl) ?_
  obtain ⟨v1, hv1, hM⟩ := bind_some' hM
  obtain ⟨v2, hv2, hM⟩ := bind_some' hM
  obtain ⟨v3, hv3, hM⟩ := bind_some' hM
  obtain ⟨v4, hv4, hM⟩ := bind_some' hM
  refine tr_sr hT hm [(6, .call [] [] [iv a0.Objects] [] (.fr 1 v1.length (v1.flatMap eI.o))), (8, .call [] [] [.pt (eXCategory.b a0) 0] [] (iv v2)), (9, .call [] [] [iv v2] [] (.fr 1 v3.length (v3.flatMap eI.o))), (10, .call [11000, 14000] [] [.pt (eXCategory.b a0) 0, .pt (eXCategory.b a0) 0, .sl v1.length 0 (v1.flatMap eI.b), .sl v3.length 0 (v3.flatMap eI.b)] [] (.agg (eXFunctor.o v4)))] [4, 2005, 30003, 30005, 30007, 30009, 30013, 30015, 30017, 30019, 30021, 30023] ([(4, .d (.rp 1002 0)), bxO 2005 15000 (eXFunctor.o v4)] ++ rsS 15000 (eXFunctor.o v4)) (cc0 ok120 (impl_numbers_c a0.Objects _ hv1) (by kernel_rfl) (cc0 ok160 (impl_Category_arrows_c a0 _ hv2) (by kernel_rfl) (cc0 ok120 (impl_numbers_c v2 _ hv3) (by kernel_rfl) (cc (B := [11000, 14000]) (ρ := []) (rB := [(11000, .arr 1 (v1.flatMap eI.o) []), (14000, .arr 1 (v3.flatMap eI.o) [])]) ok114 (impl_functor_c a0 a0 v1 v3 _ hv4) (.cons (.same rfl) (.cons (.same rfl) (.cons (.of1 (.rs (r := 11000) (sz := 1) (refs := []) (memB (by kernel_rfl)) (by kernel_rfl) (bor_flat eI_ok _ _ _))) (.cons (.of1 (.rs (r := 14000) (sz := 1) (refs := []) (memB (by kernel_rfl)) (by kernel_rfl) (bor_flat eI_ok _ _ _))) .nil)))) (.inr ⟨(.agg (eXFunctor_nb _)), trivial⟩) (.cons (Nat.le_of_ble_eq_true (n := 12) (m := 12) rfl) .nil))))) (by kernel_rfl) (by kernel_rfl) ?_
  refine tr_ret (rg_r ?_)
  obtain rfl := Option.some.inj hM
  exact retg (names := []) (.cons (lenO_flat eI_ok v4.Source.From) (.cons (lenO_flat eI_ok v4.Source.To) (.cons (lenO_flat eI_ok v4.Source.Identity) (.cons (lenO_flat (eS_ok eI_ok) v4.Source.Composites) (.cons (lenO_flat eI_ok v4.Target.From) (.cons (lenO_flat eI_ok v4.Target.To) (.cons (lenO_flat eI_ok v4.Target.Identity) (.cons (lenO_flat (eS_ok eI_ok) v4.Target.Composites) (.cons (lenO_flat eI_ok v4.Objects) (.cons (lenO_flat eI_ok v4.Arrows) .nil)))))))))) (by kernel_rfl)

theorem ok210 : CallOk Try.prog 210 := callOk_of Try.func210 (by kernel_rfl) (by kernel_rfl)
theorem impl_Category_hom_c (a0 : XCategory) (a1 : Int) (a2 : Int) (r : (List Int)) (hM : M.impl_Category_hom a0 a1 a2 = some r) :
    FnC Try.prog 210 [] [.pt (eXCategory.b a0) 0, iv a1, iv a2] [] (.fr 1 r.length (r.flatMap eI.o)) := by
  refine fnc_startG (N := 44) (np := 500) hT Try.func210 rfl rfl (by kernel_rfl) ?_
  unfold M.impl_Category_hom at hM
  refine tr_start (ks := [0, 2, 4]) (st' := [(0, .d (.pt (eXCategory.b a0) 0)), (2, .d (iv a1)), (4, .d (iv a2))]) (by kernel_rfl) ?_
  refine tr_sr hT hm [] [0, 2, 4] [(0, .d (.pt (eXCategory.b a0) 0)), (2, .d (iv a1)), (4, .d (iv a2))] .nil (by kernel_rfl) (by kernel_rfl) ?_
  refine tr_sr hT hm [] [0, 2, 4, 14, 2019] [(0, .d (.pt (eXCategory.b a0) 0)), (2, .d (iv a1)), (4, .d (iv a2)), (14, .d (.rs 1009 0 (([] : List Int).length))), (2019, .r (.arr 1 (([] : List Int).flatMap eI.o) []))] .nil (by kernel_rfl) (by kernel_rfl) ?_
  refine tr_seq ?_
  refine tr_sr hT hm [] [0, 2, 4, 14, 28, 30, 2019] [(0, .d (.pt (eXCategory.b a0) 0)), (2, .d (iv a1)), (4, .d (iv a2)), (14, .d (.rs 1009 0 (([] : List Int).length))), (28, .d (iv (a0.From.length : Int))), (30, .d (iv 0)), (2019, .r (.arr 1 (([] : List Int).flatMap eI.o) []))] .nil (by kernel_rfl) (by kernel_rfl) ?_
  refine tr_block ?_
  refine tr_iterS (fun (s1 : (List Int) × Int) => [(0, .d (.pt (eXCategory.b a0) 0)), (2, .d (iv a1)), (4, .d (iv a2)), (14, .d (.rs 1009 0 s1.1.length)), (28, .d (iv (a0.From.length : Int))), (30, .d (iv s1.2)), (2019, .r (.arr 1 (s1.1.flatMap eI.o) []))]) (([] : List Int), 0) [0, 2, 4, 14, 28, 30, 2019] (by kernel_rfl) hM ?_
  intro n4 next2 ih3 s1 hM
  refine tr_sr hT hm [] [0, 2, 4, 14, 28, 30, 32, 2019] [(0, .d (.pt (eXCategory.b a0) 0)), (2, .d (iv a1)), (4, .d (iv a2)), (14, .d (.rs 1009 0 s1.1.length)), (28, .d (iv (a0.From.length : Int))), (30, .d (iv s1.2)), (32, .d (bv (decide (s1.2 < (a0.From.length : Int))))), (2019, .r (.arr 1 (s1.1.flatMap eI.o) []))] .nil (by kernel_rfl) (by kernel_rfl) ?_
  refine tr_seq ?_
  rcases Bool.eq_false_or_eq_true (decide (s1.2 < (a0.From.length : Int))) with h5 | h5
  · have hM := ite_true' hM h5
    refine tr_condTe (e := decide (s1.2 < (a0.From.length : Int))) h5 (by kernel_rfl) ?_
    refine tr_skip (q_n ?_)
    refine tr_seq ?_
    refine tr_block ?_
    refine tr_sr hT hm [] [0, 2, 4, 14, 16, 28, 30, 2019] [(0, .d (.pt (eXCategory.b a0) 0)), (2, .d (iv a1)), (4, .d (iv a2)), (14, .d (.rs 1009 0 s1.1.length)), (16, .d (iv s1.2)), (28, .d (iv (a0.From.length : Int))), (30, .d (iv s1.2)), (2019, .r (.arr 1 (s1.1.flatMap eI.o) []))] .nil (by kernel_rfl) (by kernel_rfl) ?_
    obtain ⟨y6, hy6, hM⟩ := bind_some' hM
    have hy6' := idx_some hy6
    rcases Bool.eq_false_or_eq_true (y6 == a1) with h7 | h7
    · have hM := ite_true' hM h7
      obtain ⟨y8, hy8, hM⟩ := bind_some' hM
      have hy8' := idx_some hy8
      refine tr_sr hT hm [(6, .val (iv y6)), (9, .val (bv true)), (16, .val (iv y8))] [0, 2, 4, 14, 16, 28, 30, 56, 58, 60, 62, 64, 66, 68, 70, 72, 74, 2019] [(0, .d (.pt (eXCategory.b a0) 0)), (2, .d (iv a1)), (4, .d (iv a2)), (14, .d (.rs 1009 0 s1.1.length)), (16, .d (iv s1.2)), (28, .d (iv (a0.From.length : Int))), (30, .d (iv s1.2)), (56, .d (.pt (eXCategory.b a0) 0)), (58, .d (.pt (eXCategory.b a0) 0)), (60, .d (.pt (eXCategory.b a0) 2)), (62, .d (.sl a0.To.length 0 (a0.To.flatMap eI.b))), (64, .d (iv s1.2)), (66, .d (.pt (a0.To.flatMap eI.b) (0 + s1.2.toNat * 1))), (68, .d (iv y8)), (70, .d (iv a2)), (72, .d (bv (y8 == a2))), (74, .d (bv (y8 == a2))), (2019, .r (.arr 1 (s1.1.flatMap eI.o) []))] (.cons hy6'.1 (.cons hy6'.2.1 (.cons (at_b0 eI_ok hy6'.2.2 (d := iv y6) (by kernel_rfl)) (.cons (congrArg (fun b => bv b) h7) (.cons hy8'.1 (.cons hy8'.2.1 (.cons (at_b0 eI_ok hy8'.2.2 (d := iv y8) (by kernel_rfl)) .nil))))))) (by kernel_rfl) (by kernel_rfl) ?_
      rcases Bool.eq_false_or_eq_true (y8 == a2) with h9 | h9
      · have hM := ite_true' hM h9
        refine tr_condTe (e := y8 == a2) h9 (by kernel_rfl) ?_
        obtain ⟨h10, hM⟩ := chk_some hM
        refine tr_r hT hm [(3, .app true)] [0, 2, 4, 14, 28, 30, 56, 58, 60, 62, 64, 66, 68, 70, 72, 2083] [(0, .d (.pt (eXCategory.b a0) 0)), (2, .d (iv a1)), (4, .d (iv a2)), (14, .d (.rs 1041 0 (s1.1.length + (([s1.2] : List Int).length)))), (28, .d (iv (a0.From.length : Int))), (30, .d (iv s1.2)), (56, .d (.pt (eXCategory.b a0) 0)), (58, .d (.pt (eXCategory.b a0) 0)), (60, .d (.pt (eXCategory.b a0) 2)), (62, .d (.sl a0.To.length 0 (a0.To.flatMap eI.b))), (64, .d (iv s1.2)), (66, .d (.pt (a0.To.flatMap eI.b) (0 + s1.2.toNat * 1))), (68, .d (iv y8)), (70, .d (iv a2)), (72, .d (bv (y8 == a2))), (2083, .r (.arr 1 (s1.1.flatMap eI.o ++ ([s1.2] : List Int).flatMap eI.o) []))] (.cons (lenO_flat eI_ok s1.1) (.cons (lenO_flat eI_ok ([s1.2] : List Int)) (.cons h10 .nil))) (by kernel_rfl) (by kernel_rfl) (b_n (q_n ?_))
        refine Tr.by (imp_cvE (r := 1041) (sz := 1) (refs := []) (flat_app eI.o s1.1 ([s1.2] : List Int)) (menO_flat eI_ok _) (by kernel_rfl)) ?_
        refine Tr.by (imp_cvD (k := 14) (congrArg (D.rs 1041 0) ((len_app s1.1 ([s1.2] : List Int)) : s1.1.length + (([s1.2] : List Int).length) = (s1.1 ++ ([s1.2] : List Int)).length)) (by kernel_rfl)) ?_
        refine tr_r hT hm [] [0, 2, 4, 14, 28, 30, 56, 58, 60, 62, 64, 66, 68, 70, 72, 2083] [(0, .d (.pt (eXCategory.b a0) 0)), (2, .d (iv a1)), (4, .d (iv a2)), (14, .d (.rs 1041 0 ((s1.1 ++ ([s1.2] : List Int)).length))), (28, .d (iv (a0.From.length : Int))), (30, .d (iv (IntKind.i64.wrap (s1.2 + 1)))), (56, .d (.pt (eXCategory.b a0) 0)), (58, .d (.pt (eXCategory.b a0) 0)), (60, .d (.pt (eXCategory.b a0) 2)), (62, .d (.sl a0.To.length 0 (a0.To.flatMap eI.b))), (64, .d (iv s1.2)), (66, .d (.pt (a0.To.flatMap eI.b) (0 + s1.2.toNat * 1))), (68, .d (iv y8)), (70, .d (iv a2)), (72, .d (bv (y8 == a2))), (2083, .r (.arr 1 ((s1.1 ++ ([s1.2] : List Int)).flatMap eI.o) []))] .nil (by kernel_rfl) (by kernel_rfl) (l_n ?_)
        refine TrL.by (imp_sel (ks := [0, 2, 4, 14, 28, 30, 2083]) (st' := [(0, .d (.pt (eXCategory.b a0) 0)), (2, .d (iv a1)), (4, .d (iv a2)), (14, .d (.rs 1041 0 ((s1.1 ++ ([s1.2] : List Int)).length))), (28, .d (iv (a0.From.length : Int))), (30, .d (iv (IntKind.i64.wrap (s1.2 + 1)))), (2083, .r (.arr 1 ((s1.1 ++ ([s1.2] : List Int)).flatMap eI.o) []))]) (by kernel_rfl)) ?_
        refine TrL.by (imp_rename (r := 1041) (q := 1009) (by kernel_rfl) (Nat.le_of_ble_eq_true rfl)) ?_
        exact trl_start (ks := [0, 2, 4, 14, 28, 30, 2019]) (by kernel_rfl) (ih3 (s1.1 ++ ([s1.2] : List Int), IntKind.i64.wrap (s1.2 + 1)) hM)
      · have hM := ite_false' hM h9
        refine tr_condFe (e := y8 == a2) h9 (by kernel_rfl) ?_
        refine tr_skip (b_n (q_n ?_))
        refine tr_r hT hm [] [0, 2, 4, 14, 28, 30, 56, 58, 60, 62, 64, 66, 68, 70, 72, 2019] [(0, .d (.pt (eXCategory.b a0) 0)), (2, .d (iv a1)), (4, .d (iv a2)), (14, .d (.rs 1009 0 s1.1.length)), (28, .d (iv (a0.From.length : Int))), (30, .d (iv (IntKind.i64.wrap (s1.2 + 1)))), (56, .d (.pt (eXCategory.b a0) 0)), (58, .d (.pt (eXCategory.b a0) 0)), (60, .d (.pt (eXCategory.b a0) 2)), (62, .d (.sl a0.To.length 0 (a0.To.flatMap eI.b))), (64, .d (iv s1.2)), (66, .d (.pt (a0.To.flatMap eI.b) (0 + s1.2.toNat * 1))), (68, .d (iv y8)), (70, .d (iv a2)), (72, .d (bv (y8 == a2))), (2019, .r (.arr 1 (s1.1.flatMap eI.o) []))] .nil (by kernel_rfl) (by kernel_rfl) (l_n ?_)
        exact trl_start (ks := [0, 2, 4, 14, 28, 30, 2019]) (by kernel_rfl) (ih3 (s1.1, IntKind.i64.wrap (s1.2 + 1)) hM)
    · have hM := ite_false' hM h7
      refine tr_sr hT hm [(6, .val (iv y6)), (9, .val (bv false))] [0, 2, 4, 14, 16, 28, 30, 74, 2019] [(0, .d (.pt (eXCategory.b a0) 0)), (2, .d (iv a1)), (4, .d (iv a2)), (14, .d (.rs 1009 0 s1.1.length)), (16, .d (iv s1.2)), (28, .d (iv (a0.From.length : Int))), (30, .d (iv s1.2)), (74, .d (bv false)), (2019, .r (.arr 1 (s1.1.flatMap eI.o) []))] (.cons hy6'.1 (.cons hy6'.2.1 (.cons (at_b0 eI_ok hy6'.2.2 (d := iv y6) (by kernel_rfl)) (.cons (congrArg (fun b => bv b) h7) .nil)))) (by kernel_rfl) (by kernel_rfl) ?_
      refine tr_condF (by kernel_rfl) ?_
      refine tr_skip (b_n (q_n ?_))
      refine tr_r hT hm [] [0, 2, 4, 14, 28, 30, 2019] [(0, .d (.pt (eXCategory.b a0) 0)), (2, .d (iv a1)), (4, .d (iv a2)), (14, .d (.rs 1009 0 s1.1.length)), (28, .d (iv (a0.From.length : Int))), (30, .d (iv (IntKind.i64.wrap (s1.2 + 1)))), (2019, .r (.arr 1 (s1.1.flatMap eI.o) []))] .nil (by kernel_rfl) (by kernel_rfl) (l_n ?_)
      exact trl_start (ks := [0, 2, 4, 14, 28, 30, 2019]) (by kernel_rfl) (ih3 (s1.1, IntKind.i64.wrap (s1.2 + 1)) hM)
  · have hM := ite_false' hM h5
    refine tr_condFe (e := decide (s1.2 < (a0.From.length : Int))) h5 (by kernel_rfl) ?_
    refine tr_exit (q_x (l_x (b_h (q_n ?_))))
    refine tr_sr hT hm [] [12, 2019] [(12, .d (.rs 1009 0 s1.1.length)), (2019, .r (.arr 1 (s1.1.flatMap eI.o) []))] .nil (by kernel_rfl) (by kernel_rfl) ?_
    refine tr_ret (rg_r ?_)
    obtain rfl := Option.some.inj hM
    exact retg (names := []) (.cons (lenO_flat eI_ok s1.1) .nil) (by kernel_rfl)

end Go.Proofs.Ytggojehmbpbefaa.L12
