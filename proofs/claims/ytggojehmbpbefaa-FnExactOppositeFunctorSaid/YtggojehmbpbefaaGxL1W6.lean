/- Walks. Printed by wip/gen. -/
import Derived.Test.YtggojehmbpbefaaGxL1W5
namespace Go.Proofs.Ytggojehmbpbefaa
open Go.Gx

theorem ok86 : CallOk Try.prog 86 := callOk_of Try.func86 (by kernel_rfl) (by kernel_rfl)
theorem impl_Functor_opposite_c (a0 : XFunctor) (r : XFunctor) (hM : M.impl_Functor_opposite a0 = some r) :
    FnC Try.prog 86 [] [.pt (eXFunctor.b a0) 0] [] (.agg (eXFunctor.o r)) := by
  refine fnc_startG (N := 22) (np := 500) hT Try.func86 rfl rfl (by kernel_rfl) ?_
  unfold M.impl_Functor_opposite at hM
  refine tr_start (ks := [0]) (st' := [(0, .d (.pt (eXFunctor.b a0) 0))]) (by kernel_rfl) ?_
  refine tr_sr hT hm [] [0, 4, 2005] [(0, .d (.pt (eXFunctor.b a0) 0)), (4, .d (.rp 1002 0)), (2005, .r (.arr 1 [iv 0, nilv, nilv, nilv, nilv, iv 0, nilv, nilv, nilv, nilv, nilv, nilv] []))] .nil (by kernel_rfl) (by kernel_rfl) ?_
  obtain ⟨v1, hv1, hM⟩ := bind_some' hM
  obtain ⟨v2, hv2, hM⟩ := bind_some' hM
  refine tr_sr hT hm [(3, .call [] [] [.pt (eXCategory.b a0.Source) 0] [] (.agg (eXCategory.o v1))), (7, .call [] [] [.pt (eXCategory.b a0.Target) 0] [] (.agg (eXCategory.o v2)))] [0, 4, 6, 8, 2005, 2007, 2009, 20003, 20005, 20007, 20009, 28003, 28005, 28007, 28009] [(0, .d (.pt (eXFunctor.b a0) 0)), (4, .d (.rp 1002 0)), (6, .d (.rp 1003 0)), (8, .d (.rp 1004 0)), (2005, .r (.arr 1 [iv 0, nilv, nilv, nilv, nilv, iv 0, nilv, nilv, nilv, nilv, nilv, nilv] [])), (2007, .r (.arr 1 [iv v1.Objects, .rs 10001 0 v1.From.length, .rs 10002 0 v1.To.length, .rs 10003 0 v1.Identity.length, .rs 10004 0 v1.Composites.length] [10001, 10002, 10003, 10004])), (2009, .r (.arr 1 [iv v2.Objects, .rs 14001 0 v2.From.length, .rs 14002 0 v2.To.length, .rs 14003 0 v2.Identity.length, .rs 14004 0 v2.Composites.length] [14001, 14002, 14003, 14004])), (20003, .r (.arr 1 (v1.From.flatMap eI.o) [])), (20005, .r (.arr 1 (v1.To.flatMap eI.o) [])), (20007, .r (.arr 1 (v1.Identity.flatMap eI.o) [])), (20009, .r (.arr 1 (v1.Composites.flatMap (eS eI).o) [])), (28003, .r (.arr 1 (v2.From.flatMap eI.o) [])), (28005, .r (.arr 1 (v2.To.flatMap eI.o) [])), (28007, .r (.arr 1 (v2.Identity.flatMap eI.o) [])), (28009, .r (.arr 1 (v2.Composites.flatMap (eS eI).o) []))] (cc (B := []) (ρ := []) (rB := []) ok151 (impl_opposite_c a0.Source _ hv1) (.cons (.pass (.ptk (ds := eXFunctor.b a0) (ds' := eXCategory.b a0.Source) (off := 0) (n := 5) (by kernel_rfl) (by kernel_rfl) (by kernel_rfl))) .nil) (.inl rfl) (cc (B := []) (ρ := []) (rB := []) ok151 (impl_opposite_c a0.Target _ hv2) (.cons (.pass (.ptk (ds := eXFunctor.b a0) (ds' := eXCategory.b a0.Target) (off := 5) (n := 5) (by kernel_rfl) (by kernel_rfl) (by kernel_rfl))) .nil) (.inl rfl) (.cons (Nat.le_of_ble_eq_true (n := 5) (m := 5) rfl) (.cons (Nat.le_of_ble_eq_true (n := 5) (m := 5) rfl) .nil)))) (by kernel_rfl) (by kernel_rfl) ?_
  obtain ⟨v3, hv3, hM⟩ := bind_some' hM
  refine tr_sr hT hm [(8, .call [1003, 10001, 10002, 10003, 10004, 1004, 14001, 14002, 14003, 14004] [] [.pt (eXCategory.b v1) 0, .pt (eXCategory.b v2) 0, .sl a0.Objects.length 0 (a0.Objects.flatMap eI.b), .sl a0.Arrows.length 0 (a0.Arrows.flatMap eI.b)] [] (.agg (eXFunctor.o v3)))] [4, 2005, 46003, 46005, 46007, 46009, 46013, 46015, 46017, 46019, 46021, 46023] [(4, .d (.rp 1002 0)), (2005, .r (.arr 1 [iv v3.Source.Objects, .rs 23001 0 v3.Source.From.length, .rs 23002 0 v3.Source.To.length, .rs 23003 0 v3.Source.Identity.length, .rs 23004 0 v3.Source.Composites.length, iv v3.Target.Objects, .rs 23006 0 v3.Target.From.length, .rs 23007 0 v3.Target.To.length, .rs 23008 0 v3.Target.Identity.length, .rs 23009 0 v3.Target.Composites.length, .rs 23010 0 v3.Objects.length, .rs 23011 0 v3.Arrows.length] [23001, 23002, 23003, 23004, 23006, 23007, 23008, 23009, 23010, 23011])), (46003, .r (.arr 1 (v3.Source.From.flatMap eI.o) [])), (46005, .r (.arr 1 (v3.Source.To.flatMap eI.o) [])), (46007, .r (.arr 1 (v3.Source.Identity.flatMap eI.o) [])), (46009, .r (.arr 1 (v3.Source.Composites.flatMap (eS eI).o) [])), (46013, .r (.arr 1 (v3.Target.From.flatMap eI.o) [])), (46015, .r (.arr 1 (v3.Target.To.flatMap eI.o) [])), (46017, .r (.arr 1 (v3.Target.Identity.flatMap eI.o) [])), (46019, .r (.arr 1 (v3.Target.Composites.flatMap (eS eI).o) [])), (46021, .r (.arr 1 (v3.Objects.flatMap eI.o) [])), (46023, .r (.arr 1 (v3.Arrows.flatMap eI.o) []))] (cc (B := [1003, 10001, 10002, 10003, 10004, 1004, 14001, 14002, 14003, 14004]) (ρ := []) (rB := [(1003, .arr 1 [iv v1.Objects, .rs 10001 0 v1.From.length, .rs 10002 0 v1.To.length, .rs 10003 0 v1.Identity.length, .rs 10004 0 v1.Composites.length] [10001, 10002, 10003, 10004]), (10001, .arr 1 (v1.From.flatMap eI.o) []), (10002, .arr 1 (v1.To.flatMap eI.o) []), (10003, .arr 1 (v1.Identity.flatMap eI.o) []), (10004, .arr 1 (v1.Composites.flatMap (eS eI).o) []), (1004, .arr 1 [iv v2.Objects, .rs 14001 0 v2.From.length, .rs 14002 0 v2.To.length, .rs 14003 0 v2.Identity.length, .rs 14004 0 v2.Composites.length] [14001, 14002, 14003, 14004]), (14001, .arr 1 (v2.From.flatMap eI.o) []), (14002, .arr 1 (v2.To.flatMap eI.o) []), (14003, .arr 1 (v2.Identity.flatMap eI.o) []), (14004, .arr 1 (v2.Composites.flatMap (eS eI).o) [])]) ok114 (impl_functor_c v1 v2 a0.Objects a0.Arrows _ hv3) (.cons (.of1 (.rp (r := 1003) (sz := 1) (refs := [10001, 10002, 10003, 10004]) (by decide) (by kernel_rfl) (.cons .v (.cons (.rs (r := 10001) (sz := 1) (refs := []) (by decide) (by kernel_rfl) (bor_flat eI_ok _ _ _)) (.cons (.rs (r := 10002) (sz := 1) (refs := []) (by decide) (by kernel_rfl) (bor_flat eI_ok _ _ _)) (.cons (.rs (r := 10003) (sz := 1) (refs := []) (by decide) (by kernel_rfl) (bor_flat eI_ok _ _ _)) (.cons (.rs (r := 10004) (sz := 1) (refs := []) (by decide) (by kernel_rfl) (bor_flat (eS_ok eI_ok) _ _ _)) .nil))))))) (.cons (.of1 (.rp (r := 1004) (sz := 1) (refs := [14001, 14002, 14003, 14004]) (by decide) (by kernel_rfl) (.cons .v (.cons (.rs (r := 14001) (sz := 1) (refs := []) (by decide) (by kernel_rfl) (bor_flat eI_ok _ _ _)) (.cons (.rs (r := 14002) (sz := 1) (refs := []) (by decide) (by kernel_rfl) (bor_flat eI_ok _ _ _)) (.cons (.rs (r := 14003) (sz := 1) (refs := []) (by decide) (by kernel_rfl) (bor_flat eI_ok _ _ _)) (.cons (.rs (r := 14004) (sz := 1) (refs := []) (by decide) (by kernel_rfl) (bor_flat (eS_ok eI_ok) _ _ _)) .nil))))))) (.cons (.same rfl) (.cons (.same rfl) .nil)))) (.inr ⟨(.agg (eXFunctor_nb _)), trivial⟩) (.cons (Nat.le_of_ble_eq_true (n := 12) (m := 12) rfl) .nil)) (by kernel_rfl) (by kernel_rfl) ?_
  refine tr_ret (rg_r ?_)
  obtain rfl := Option.some.inj hM
  exact retg (names := []) (.cons (lenO_flat eI_ok v3.Source.From) (.cons (lenO_flat eI_ok v3.Source.To) (.cons (lenO_flat eI_ok v3.Source.Identity) (.cons (lenO_flat (eS_ok eI_ok) v3.Source.Composites) (.cons (lenO_flat eI_ok v3.Target.From) (.cons (lenO_flat eI_ok v3.Target.To) (.cons (lenO_flat eI_ok v3.Target.Identity) (.cons (lenO_flat (eS_ok eI_ok) v3.Target.Composites) (.cons (lenO_flat eI_ok v3.Objects) (.cons (lenO_flat eI_ok v3.Arrows) .nil)))))))))) (by kernel_rfl)

theorem ok152 : CallOk Try.prog 152 := callOk_of Try.func152 (by kernel_rfl) (by kernel_rfl)
theorem impl_Category_outOf_c (a0 : XCategory) (a1 : Int) (r : (List Int)) (hM : M.impl_Category_outOf a0 a1 = some r) :
    FnC Try.prog 152 [] [.pt (eXCategory.b a0) 0, iv a1] [] (.fr 1 r.length (r.flatMap eI.o)) := by
  refine fnc_startG (N := 28) (np := 500) hT Try.func152 rfl rfl (by kernel_rfl) ?_
  unfold M.impl_Category_outOf at hM
  refine tr_start (ks := [0, 2]) (st' := [(0, .d (.pt (eXCategory.b a0) 0)), (2, .d (iv a1))]) (by kernel_rfl) ?_
  refine tr_sr hT hm [] [0, 2] [(0, .d (.pt (eXCategory.b a0) 0)), (2, .d (iv a1))] .nil (by kernel_rfl) (by kernel_rfl) ?_
  refine tr_sr hT hm [] [0, 2, 10, 2017] [(0, .d (.pt (eXCategory.b a0) 0)), (2, .d (iv a1)), (10, .d (.rs 1008 0 (([] : List Int).length))), (2017, .r (.arr 1 (([] : List Int).flatMap eI.o) []))] .nil (by kernel_rfl) (by kernel_rfl) ?_
  refine tr_seq ?_
  refine tr_sr hT hm [] [2, 10, 24, 26, 28, 2017] [(2, .d (iv a1)), (10, .d (.rs 1008 0 (([] : List Int).length))), (24, .d (.sl a0.From.length 0 (a0.From.flatMap eI.b))), (26, .d (iv (a0.From.length : Int))), (28, .d (iv 0)), (2017, .r (.arr 1 (([] : List Int).flatMap eI.o) []))] .nil (by kernel_rfl) (by kernel_rfl) ?_
  refine tr_block ?_
  refine tr_iterS (fun (s1 : (List Int) × Int) => [(2, .d (iv a1)), (10, .d (.rs 1008 0 s1.1.length)), (24, .d (.sl a0.From.length 0 (a0.From.flatMap eI.b))), (26, .d (iv (a0.From.length : Int))), (28, .d (iv s1.2)), (2017, .r (.arr 1 (s1.1.flatMap eI.o) []))]) (([] : List Int), 0) [2, 10, 24, 26, 28, 2017] (by kernel_rfl) hM ?_
  intro n4 next2 ih3 s1 hM
  refine tr_sr hT hm [] [2, 10, 24, 26, 28, 30, 2017] [(2, .d (iv a1)), (10, .d (.rs 1008 0 s1.1.length)), (24, .d (.sl a0.From.length 0 (a0.From.flatMap eI.b))), (26, .d (iv (a0.From.length : Int))), (28, .d (iv s1.2)), (30, .d (bv (decide (s1.2 < (a0.From.length : Int))))), (2017, .r (.arr 1 (s1.1.flatMap eI.o) []))] .nil (by kernel_rfl) (by kernel_rfl) ?_
  refine tr_seq ?_
  rcases Bool.eq_false_or_eq_true (decide (s1.2 < (a0.From.length : Int))) with h5 | h5
  · have hM := ite_true' hM h5
    refine tr_condTe (e := decide (s1.2 < (a0.From.length : Int))) h5 (by kernel_rfl) ?_
    refine tr_skip (q_n ?_)
    refine tr_seq ?_
    refine tr_block ?_
    obtain ⟨y6, hy6, hM⟩ := bind_some' hM
    have hy6' := idx_some hy6
    refine tr_sr hT hm [(2, .val (iv y6))] [2, 10, 12, 14, 24, 26, 28, 2017] [(2, .d (iv a1)), (10, .d (.rs 1008 0 s1.1.length)), (12, .d (iv s1.2)), (14, .d (iv y6)), (24, .d (.sl a0.From.length 0 (a0.From.flatMap eI.b))), (26, .d (iv (a0.From.length : Int))), (28, .d (iv s1.2)), (2017, .r (.arr 1 (s1.1.flatMap eI.o) []))] (.cons hy6'.1 (.cons hy6'.2.1 (.cons (at_b0 eI_ok hy6'.2.2 (d := iv y6) (by kernel_rfl)) .nil))) (by kernel_rfl) (by kernel_rfl) ?_
    refine tr_sr hT hm [] [2, 10, 12, 24, 26, 28, 42, 2017] [(2, .d (iv a1)), (10, .d (.rs 1008 0 s1.1.length)), (12, .d (iv s1.2)), (24, .d (.sl a0.From.length 0 (a0.From.flatMap eI.b))), (26, .d (iv (a0.From.length : Int))), (28, .d (iv s1.2)), (42, .d (bv (y6 == a1))), (2017, .r (.arr 1 (s1.1.flatMap eI.o) []))] .nil (by kernel_rfl) (by kernel_rfl) ?_
    rcases Bool.eq_false_or_eq_true (y6 == a1) with h7 | h7
    · have hM := ite_true' hM h7
      refine tr_condTe (e := y6 == a1) h7 (by kernel_rfl) ?_
      obtain ⟨h8, hM⟩ := chk_some hM
      refine tr_r hT hm [(3, .app true)] [2, 10, 24, 26, 28, 2051] [(2, .d (iv a1)), (10, .d (.rs 1025 0 (s1.1.length + (([s1.2] : List Int).length)))), (24, .d (.sl a0.From.length 0 (a0.From.flatMap eI.b))), (26, .d (iv (a0.From.length : Int))), (28, .d (iv s1.2)), (2051, .r (.arr 1 (s1.1.flatMap eI.o ++ ([s1.2] : List Int).flatMap eI.o) []))] (.cons (lenO_flat eI_ok s1.1) (.cons (lenO_flat eI_ok ([s1.2] : List Int)) (.cons h8 .nil))) (by kernel_rfl) (by kernel_rfl) (b_n (q_n ?_))
      refine Tr.by (imp_cvE (r := 1025) (sz := 1) (refs := []) (flat_app eI.o s1.1 ([s1.2] : List Int)) (menO_flat eI_ok _) (by kernel_rfl)) ?_
      refine Tr.by (imp_cvD (k := 10) (congrArg (D.rs 1025 0) ((len_app s1.1 ([s1.2] : List Int)) : s1.1.length + (([s1.2] : List Int).length) = (s1.1 ++ ([s1.2] : List Int)).length)) (by kernel_rfl)) ?_
      refine tr_r hT hm [] [2, 10, 24, 26, 28, 2051] [(2, .d (iv a1)), (10, .d (.rs 1025 0 ((s1.1 ++ ([s1.2] : List Int)).length))), (24, .d (.sl a0.From.length 0 (a0.From.flatMap eI.b))), (26, .d (iv (a0.From.length : Int))), (28, .d (iv (IntKind.i64.wrap (s1.2 + 1)))), (2051, .r (.arr 1 ((s1.1 ++ ([s1.2] : List Int)).flatMap eI.o) []))] .nil (by kernel_rfl) (by kernel_rfl) (l_n ?_)
      refine TrL.by (imp_sel (ks := [2, 10, 24, 26, 28, 2051]) (st' := [(2, .d (iv a1)), (10, .d (.rs 1025 0 ((s1.1 ++ ([s1.2] : List Int)).length))), (24, .d (.sl a0.From.length 0 (a0.From.flatMap eI.b))), (26, .d (iv (a0.From.length : Int))), (28, .d (iv (IntKind.i64.wrap (s1.2 + 1)))), (2051, .r (.arr 1 ((s1.1 ++ ([s1.2] : List Int)).flatMap eI.o) []))]) (by kernel_rfl)) ?_
      refine TrL.by (imp_rename (r := 1025) (q := 1008) (by kernel_rfl) (Nat.le_of_ble_eq_true rfl)) ?_
      exact trl_start (ks := [2, 10, 24, 26, 28, 2017]) (by kernel_rfl) (ih3 (s1.1 ++ ([s1.2] : List Int), IntKind.i64.wrap (s1.2 + 1)) hM)
    · have hM := ite_false' hM h7
      refine tr_condFe (e := y6 == a1) h7 (by kernel_rfl) ?_
      refine tr_skip (b_n (q_n ?_))
      refine tr_r hT hm [] [2, 10, 24, 26, 28, 2017] [(2, .d (iv a1)), (10, .d (.rs 1008 0 s1.1.length)), (24, .d (.sl a0.From.length 0 (a0.From.flatMap eI.b))), (26, .d (iv (a0.From.length : Int))), (28, .d (iv (IntKind.i64.wrap (s1.2 + 1)))), (2017, .r (.arr 1 (s1.1.flatMap eI.o) []))] .nil (by kernel_rfl) (by kernel_rfl) (l_n ?_)
      exact trl_start (ks := [2, 10, 24, 26, 28, 2017]) (by kernel_rfl) (ih3 (s1.1, IntKind.i64.wrap (s1.2 + 1)) hM)
  · have hM := ite_false' hM h5
    refine tr_condFe (e := decide (s1.2 < (a0.From.length : Int))) h5 (by kernel_rfl) ?_
    refine tr_exit (q_x (l_x (b_h (q_n ?_))))
    refine tr_sr hT hm [] [8, 2017] [(8, .d (.rs 1008 0 s1.1.length)), (2017, .r (.arr 1 (s1.1.flatMap eI.o) []))] .nil (by kernel_rfl) (by kernel_rfl) ?_
    refine tr_ret (rg_r ?_)
    obtain rfl := Option.some.inj hM
    exact retg (names := []) (.cons (lenO_flat eI_ok s1.1) .nil) (by kernel_rfl)

theorem ok153 : CallOk Try.prog 153 := callOk_of Try.func153 (by kernel_rfl) (by kernel_rfl)
theorem impl_Functor_over_c (a0 : XFunctor) (a1 : Int) (a2 : Int) (r : (List Int)) (hM : M.impl_Functor_over a0 a1 a2 = some r) :
    FnC Try.prog 153 [] [.pt (eXFunctor.b a0) 0, iv a1, iv a2] [] (.fr 1 r.length (r.flatMap eI.o)) := by
  refine fnc_startG (N := 36) (np := 500) hT Try.func153 rfl rfl (by kernel_rfl) ?_
  unfold M.impl_Functor_over at hM
  refine tr_start (ks := [0, 2, 4]) (st' := [(0, .d (.pt (eXFunctor.b a0) 0)), (2, .d (iv a1)), (4, .d (iv a2))]) (by kernel_rfl) ?_
  refine tr_sr hT hm [] [0, 2, 4] [(0, .d (.pt (eXFunctor.b a0) 0)), (2, .d (iv a1)), (4, .d (iv a2))] .nil (by kernel_rfl) (by kernel_rfl) ?_
  refine tr_sr hT hm [] [0, 2, 4, 14, 2021] [(0, .d (.pt (eXFunctor.b a0) 0)), (2, .d (iv a1)), (4, .d (iv a2)), (14, .d (.rs 1010 0 (([] : List Int).length))), (2021, .r (.arr 1 (([] : List Int).flatMap eI.o) []))] .nil (by kernel_rfl) (by kernel_rfl) ?_
  refine tr_seq ?_
  obtain ⟨v1, hv1, hM⟩ := bind_some' hM
  refine tr_sr hT hm [(4, .call [] [] [.pt (eXCategory.b a0.Source) 0, iv a1] [] (.fr 1 v1.length (v1.flatMap eI.o)))] [0, 4, 14, 30, 32, 34, 2021, 34001] [(0, .d (.pt (eXFunctor.b a0) 0)), (4, .d (iv a2)), (14, .d (.rs 1010 0 (([] : List Int).length))), (30, .d (.rs 17000 0 v1.length)), (32, .d (iv (v1.length : Int))), (34, .d (iv 0)), (2021, .r (.arr 1 (([] : List Int).flatMap eI.o) [])), (34001, .r (.arr 1 (v1.flatMap eI.o) []))] (cc (B := []) (ρ := []) (rB := []) ok152 (impl_Category_outOf_c a0.Source a1 _ hv1) (.cons (.pass (.ptk (ds := eXFunctor.b a0) (ds' := eXCategory.b a0.Source) (off := 0) (n := 5) (by kernel_rfl) (by kernel_rfl) (by kernel_rfl))) (.cons (.same rfl) .nil)) (.inl rfl) .nil) (by kernel_rfl) (by kernel_rfl) ?_
  refine tr_block ?_
  refine tr_iterS (fun (s2 : (List Int) × Int) => [(0, .d (.pt (eXFunctor.b a0) 0)), (4, .d (iv a2)), (14, .d (.rs 1010 0 s2.1.length)), (30, .d (.rs 17000 0 v1.length)), (32, .d (iv (v1.length : Int))), (34, .d (iv s2.2)), (2021, .r (.arr 1 (s2.1.flatMap eI.o) [])), (34001, .r (.arr 1 (v1.flatMap eI.o) []))]) (([] : List Int), 0) [0, 4, 14, 30, 32, 34, 2021, 34001] (by kernel_rfl) hM ?_
  intro n5 next3 ih4 s2 hM
  refine tr_sr hT hm [] [0, 4, 14, 30, 32, 34, 36, 2021, 34001] [(0, .d (.pt (eXFunctor.b a0) 0)), (4, .d (iv a2)), (14, .d (.rs 1010 0 s2.1.length)), (30, .d (.rs 17000 0 v1.length)), (32, .d (iv (v1.length : Int))), (34, .d (iv s2.2)), (36, .d (bv (decide (s2.2 < (v1.length : Int))))), (2021, .r (.arr 1 (s2.1.flatMap eI.o) [])), (34001, .r (.arr 1 (v1.flatMap eI.o) []))] .nil (by kernel_rfl) (by kernel_rfl) ?_
  refine tr_seq ?_
  rcases Bool.eq_false_or_eq_true (decide (s2.2 < (v1.length : Int))) with h6 | h6
  · have hM := ite_true' hM h6
    refine tr_condTe (e := decide (s2.2 < (v1.length : Int))) h6 (by kernel_rfl) ?_
    refine tr_skip (q_n ?_)
    refine tr_seq ?_
    refine tr_block ?_
    obtain ⟨y7, hy7, hM⟩ := bind_some' hM
    have hy7' := idx_some hy7
    refine tr_sr hT hm [(1, .val (iv y7))] [0, 4, 14, 18, 30, 32, 34, 2021, 34001] [(0, .d (.pt (eXFunctor.b a0) 0)), (4, .d (iv a2)), (14, .d (.rs 1010 0 s2.1.length)), (18, .d (iv y7)), (30, .d (.rs 17000 0 v1.length)), (32, .d (iv (v1.length : Int))), (34, .d (iv s2.2)), (2021, .r (.arr 1 (s2.1.flatMap eI.o) [])), (34001, .r (.arr 1 (v1.flatMap eI.o) []))] (.cons hy7'.1 (.cons hy7'.2.1 (.cons (at_o0 eI_ok hy7'.2.2 (d := iv y7) (by kernel_rfl)) .nil))) (by kernel_rfl) (by kernel_rfl) ?_
    obtain ⟨y8, hy8, hM⟩ := bind_some' hM
    have hy8' := idx_some hy8
    refine tr_sr hT hm [(6, .val (iv y8))] [0, 4, 14, 18, 30, 32, 34, 58, 2021, 34001] [(0, .d (.pt (eXFunctor.b a0) 0)), (4, .d (iv a2)), (14, .d (.rs 1010 0 s2.1.length)), (18, .d (iv y7)), (30, .d (.rs 17000 0 v1.length)), (32, .d (iv (v1.length : Int))), (34, .d (iv s2.2)), (58, .d (bv (y8 == a2))), (2021, .r (.arr 1 (s2.1.flatMap eI.o) [])), (34001, .r (.arr 1 (v1.flatMap eI.o) []))] (.cons hy8'.1 (.cons hy8'.2.1 (.cons (at_b0 eI_ok hy8'.2.2 (d := iv y8) (by kernel_rfl)) .nil))) (by kernel_rfl) (by kernel_rfl) ?_
    rcases Bool.eq_false_or_eq_true (y8 == a2) with h9 | h9
    · have hM := ite_true' hM h9
      refine tr_condTe (e := y8 == a2) h9 (by kernel_rfl) ?_
      obtain ⟨h10, hM⟩ := chk_some hM
      refine tr_r hT hm [(3, .app true)] [0, 4, 14, 30, 32, 34, 2067, 34001] [(0, .d (.pt (eXFunctor.b a0) 0)), (4, .d (iv a2)), (14, .d (.rs 1033 0 (s2.1.length + (([y7] : List Int).length)))), (30, .d (.rs 17000 0 v1.length)), (32, .d (iv (v1.length : Int))), (34, .d (iv s2.2)), (2067, .r (.arr 1 (s2.1.flatMap eI.o ++ ([y7] : List Int).flatMap eI.o) [])), (34001, .r (.arr 1 (v1.flatMap eI.o) []))] (.cons (lenO_flat eI_ok s2.1) (.cons (lenO_flat eI_ok ([y7] : List Int)) (.cons h10 .nil))) (by kernel_rfl) (by kernel_rfl) (b_n (q_n ?_))
      refine Tr.by (imp_cvE (r := 1033) (sz := 1) (refs := []) (flat_app eI.o s2.1 ([y7] : List Int)) (menO_flat eI_ok _) (by kernel_rfl)) ?_
      refine Tr.by (imp_cvD (k := 14) (congrArg (D.rs 1033 0) ((len_app s2.1 ([y7] : List Int)) : s2.1.length + (([y7] : List Int).length) = (s2.1 ++ ([y7] : List Int)).length)) (by kernel_rfl)) ?_
      refine tr_r hT hm [] [0, 4, 14, 30, 32, 34, 2067, 34001] [(0, .d (.pt (eXFunctor.b a0) 0)), (4, .d (iv a2)), (14, .d (.rs 1033 0 ((s2.1 ++ ([y7] : List Int)).length))), (30, .d (.rs 17000 0 v1.length)), (32, .d (iv (v1.length : Int))), (34, .d (iv (IntKind.i64.wrap (s2.2 + 1)))), (2067, .r (.arr 1 ((s2.1 ++ ([y7] : List Int)).flatMap eI.o) [])), (34001, .r (.arr 1 (v1.flatMap eI.o) []))] .nil (by kernel_rfl) (by kernel_rfl) (l_n ?_)
      refine TrL.by (imp_sel (ks := [0, 4, 14, 30, 32, 34, 2067, 34001]) (st' := [(0, .d (.pt (eXFunctor.b a0) 0)), (4, .d (iv a2)), (14, .d (.rs 1033 0 ((s2.1 ++ ([y7] : List Int)).length))), (30, .d (.rs 17000 0 v1.length)), (32, .d (iv (v1.length : Int))), (34, .d (iv (IntKind.i64.wrap (s2.2 + 1)))), (2067, .r (.arr 1 ((s2.1 ++ ([y7] : List Int)).flatMap eI.o) [])), (34001, .r (.arr 1 (v1.flatMap eI.o) []))]) (by kernel_rfl)) ?_
      refine TrL.by (imp_rename (r := 1033) (q := 1010) (by kernel_rfl) (Nat.le_of_ble_eq_true rfl)) ?_
      exact trl_start (ks := [0, 4, 14, 30, 32, 34, 2021, 34001]) (by kernel_rfl) (ih4 (s2.1 ++ ([y7] : List Int), IntKind.i64.wrap (s2.2 + 1)) hM)
    · have hM := ite_false' hM h9
      refine tr_condFe (e := y8 == a2) h9 (by kernel_rfl) ?_
      refine tr_skip (b_n (q_n ?_))
      refine tr_r hT hm [] [0, 4, 14, 30, 32, 34, 2021, 34001] [(0, .d (.pt (eXFunctor.b a0) 0)), (4, .d (iv a2)), (14, .d (.rs 1010 0 s2.1.length)), (30, .d (.rs 17000 0 v1.length)), (32, .d (iv (v1.length : Int))), (34, .d (iv (IntKind.i64.wrap (s2.2 + 1)))), (2021, .r (.arr 1 (s2.1.flatMap eI.o) [])), (34001, .r (.arr 1 (v1.flatMap eI.o) []))] .nil (by kernel_rfl) (by kernel_rfl) (l_n ?_)
      exact trl_start (ks := [0, 4, 14, 30, 32, 34, 2021, 34001]) (by kernel_rfl) (ih4 (s2.1, IntKind.i64.wrap (s2.2 + 1)) hM)
  · have hM := ite_false' hM h6
    refine tr_condFe (e := decide (s2.2 < (v1.length : Int))) h6 (by kernel_rfl) ?_
    refine tr_exit (q_x (l_x (b_h (q_n ?_))))
    refine tr_sr hT hm [] [12, 2021] [(12, .d (.rs 1010 0 s2.1.length)), (2021, .r (.arr 1 (s2.1.flatMap eI.o) []))] .nil (by kernel_rfl) (by kernel_rfl) ?_
    refine tr_ret (rg_r ?_)
    obtain rfl := Option.some.inj hM
    exact retg (names := []) (.cons (lenO_flat eI_ok s2.1) .nil) (by kernel_rfl)

theorem ok87 : CallOk Try.prog 87 := callOk_of Try.func87 (by kernel_rfl) (by kernel_rfl)
theorem impl_Functor_isDiscreteOpfibration_c (a0 : XFunctor) (r : Bool) (hM : M.impl_Functor_isDiscreteOpfibration a0 = some r) :
    FnC Try.prog 87 [] [.pt (eXFunctor.b a0) 0] [] (bv r) := by
  refine fnc_startG (N := 35) (np := 500) hT Try.func87 rfl rfl (by kernel_rfl) ?_
  unfold M.impl_Functor_isDiscreteOpfibration at hM
  refine tr_start (ks := [0]) (st' := [(0, .d (.pt (eXFunctor.b a0) 0))]) (by kernel_rfl) ?_
  refine tr_sr hT hm [] [0] [(0, .d (.pt (eXFunctor.b a0) 0))] .nil (by kernel_rfl) (by kernel_rfl) ?_
  refine tr_seq ?_
  refine tr_sr hT hm [] [0, 20, 22, 24] [(0, .d (.pt (eXFunctor.b a0) 0)), (20, .d (.sl a0.Objects.length 0 (a0.Objects.flatMap eI.b))), (22, .d (iv (a0.Objects.length : Int))), (24, .d (iv 0))] .nil (by kernel_rfl) (by kernel_rfl) ?_
  refine tr_block ?_
  refine tr_iterS (fun (s1 : Int) => [(0, .d (.pt (eXFunctor.b a0) 0)), (20, .d (.sl a0.Objects.length 0 (a0.Objects.flatMap eI.b))), (22, .d (iv (a0.Objects.length : Int))), (24, .d (iv s1))]) 0 [0, 20, 22, 24] (by kernel_rfl) hM ?_
  intro n4 next2 ih3 s1 hM
  refine tr_sr hT hm [] [0, 20, 22, 24, 26] [(0, .d (.pt (eXFunctor.b a0) 0)), (20, .d (.sl a0.Objects.length 0 (a0.Objects.flatMap eI.b))), (22, .d (iv (a0.Objects.length : Int))), (24, .d (iv s1)), (26, .d (bv (decide (s1 < (a0.Objects.length : Int)))))] .nil (by kernel_rfl) (by kernel_rfl) ?_
  refine tr_seq ?_
  rcases Bool.eq_false_or_eq_true (decide (s1 < (a0.Objects.length : Int))) with h5 | h5
  · have hM := ite_true' hM h5
    refine tr_condTe (e := decide (s1 < (a0.Objects.length : Int))) h5 (by kernel_rfl) ?_
    refine tr_skip (q_n ?_)
    refine tr_seq ?_
    refine tr_block ?_
    obtain ⟨y6, hy6, hM⟩ := bind_some' hM
    have hy6' := idx_some hy6
    refine tr_sr hT hm [(2, .val (iv y6))] [0, 6, 8, 20, 22, 24] [(0, .d (.pt (eXFunctor.b a0) 0)), (6, .d (iv s1)), (8, .d (iv y6)), (20, .d (.sl a0.Objects.length 0 (a0.Objects.flatMap eI.b))), (22, .d (iv (a0.Objects.length : Int))), (24, .d (iv s1))] (.cons hy6'.1 (.cons hy6'.2.1 (.cons (at_b0 eI_ok hy6'.2.2 (d := iv y6) (by kernel_rfl)) .nil))) (by kernel_rfl) (by kernel_rfl) ?_
    obtain ⟨v7, hv7, hM⟩ := bind_some' hM
    refine tr_sr hT hm [(4, .call [] [] [.pt (eXCategory.b a0.Target) 0, iv y6] [] (.fr 1 v7.length (v7.flatMap eI.o)))] [0, 6, 20, 22, 24, 42, 44, 46, 46001] [(0, .d (.pt (eXFunctor.b a0) 0)), (6, .d (iv s1)), (20, .d (.sl a0.Objects.length 0 (a0.Objects.flatMap eI.b))), (22, .d (iv (a0.Objects.length : Int))), (24, .d (iv s1)), (42, .d (.rs 23000 0 v7.length)), (44, .d (iv (v7.length : Int))), (46, .d (iv 0)), (46001, .r (.arr 1 (v7.flatMap eI.o) []))] (cc (B := []) (ρ := []) (rB := []) ok152 (impl_Category_outOf_c a0.Target y6 _ hv7) (.cons (.pass (.ptk (ds := eXFunctor.b a0) (ds' := eXCategory.b a0.Target) (off := 5) (n := 5) (by kernel_rfl) (by kernel_rfl) (by kernel_rfl))) (.cons (.same rfl) .nil)) (.inl rfl) .nil) (by kernel_rfl) (by kernel_rfl) ?_
    refine tr_block ?_
    refine tr_iterS (fun (s8 : Int) => [(0, .d (.pt (eXFunctor.b a0) 0)), (6, .d (iv s1)), (20, .d (.sl a0.Objects.length 0 (a0.Objects.flatMap eI.b))), (22, .d (iv (a0.Objects.length : Int))), (24, .d (iv s1)), (42, .d (.rs 23000 0 v7.length)), (44, .d (iv (v7.length : Int))), (46, .d (iv s8)), (46001, .r (.arr 1 (v7.flatMap eI.o) []))]) 0 [0, 6, 20, 22, 24, 42, 44, 46, 46001] (by kernel_rfl) hM ?_
    intro n11 next9 ih10 s8 hM
    refine tr_sr hT hm [] [0, 6, 20, 22, 24, 42, 44, 46, 48, 46001] [(0, .d (.pt (eXFunctor.b a0) 0)), (6, .d (iv s1)), (20, .d (.sl a0.Objects.length 0 (a0.Objects.flatMap eI.b))), (22, .d (iv (a0.Objects.length : Int))), (24, .d (iv s1)), (42, .d (.rs 23000 0 v7.length)), (44, .d (iv (v7.length : Int))), (46, .d (iv s8)), (48, .d (bv (decide (s8 < (v7.length : Int))))), (46001, .r (.arr 1 (v7.flatMap eI.o) []))] .nil (by kernel_rfl) (by kernel_rfl) ?_
    refine tr_seq ?_
    rcases Bool.eq_false_or_eq_true (decide (s8 < (v7.length : Int))) with h12 | h12
    · have hM := ite_true' hM h12
      refine tr_condTe (e := decide (s8 < (v7.length : Int))) h12 (by kernel_rfl) ?_
      refine tr_skip (q_n ?_)
      refine tr_seq ?_
      refine tr_block ?_
      obtain ⟨y13, hy13, hM⟩ := bind_some' hM
      have hy13' := idx_some hy13
      refine tr_sr hT hm [(1, .val (iv y13))] [0, 6, 12, 20, 22, 24, 42, 44, 46, 46001] [(0, .d (.pt (eXFunctor.b a0) 0)), (6, .d (iv s1)), (12, .d (iv y13)), (20, .d (.sl a0.Objects.length 0 (a0.Objects.flatMap eI.b))), (22, .d (iv (a0.Objects.length : Int))), (24, .d (iv s1)), (42, .d (.rs 23000 0 v7.length)), (44, .d (iv (v7.length : Int))), (46, .d (iv s8)), (46001, .r (.arr 1 (v7.flatMap eI.o) []))] (.cons hy13'.1 (.cons hy13'.2.1 (.cons (at_o0 eI_ok hy13'.2.2 (d := iv y13) (by kernel_rfl)) .nil))) (by kernel_rfl) (by kernel_rfl) ?_
      obtain ⟨v14, hv14, hM⟩ := bind_some' hM
      refine tr_sr hT hm [(3, .call [] [] [.pt (eXFunctor.b a0) 0, iv s1, iv y13] [] (.fr 1 v14.length (v14.flatMap eI.o)))] [0, 6, 20, 22, 24, 42, 44, 46, 64, 46001] [(0, .d (.pt (eXFunctor.b a0) 0)), (6, .d (iv s1)), (20, .d (.sl a0.Objects.length 0 (a0.Objects.flatMap eI.b))), (22, .d (iv (a0.Objects.length : Int))), (24, .d (iv s1)), (42, .d (.rs 23000 0 v7.length)), (44, .d (iv (v7.length : Int))), (46, .d (iv s8)), (64, .d (bv ((v14.length : Int) != 1))), (46001, .r (.arr 1 (v7.flatMap eI.o) []))] (cc0 ok153 (impl_Functor_over_c a0 s1 y13 _ hv14) (by kernel_rfl) .nil) (by kernel_rfl) (by kernel_rfl) ?_
      rcases Bool.eq_false_or_eq_true ((v14.length : Int) != 1) with h15 | h15
      · have hM := ite_true' hM h15
        refine tr_condTe (e := (v14.length : Int) != 1) h15 (by kernel_rfl) ?_
        refine tr_sr hT hm [] [4] [(4, .d (bv false))] .nil (by kernel_rfl) (by kernel_rfl) ?_
        refine tr_ret (b_r (q_r (l_r (b_r (b_r (q_r (l_r (b_r (q_r (rg_r ?_))))))))))
        obtain rfl := Option.some.inj hM
        exact retg (names := []) .nil (by kernel_rfl)
      · have hM := ite_false' hM h15
        refine tr_condFe (e := (v14.length : Int) != 1) h15 (by kernel_rfl) ?_
        refine tr_skip (b_n (q_n ?_))
        refine tr_r hT hm [] [0, 6, 20, 22, 24, 42, 44, 46, 46001] [(0, .d (.pt (eXFunctor.b a0) 0)), (6, .d (iv s1)), (20, .d (.sl a0.Objects.length 0 (a0.Objects.flatMap eI.b))), (22, .d (iv (a0.Objects.length : Int))), (24, .d (iv s1)), (42, .d (.rs 23000 0 v7.length)), (44, .d (iv (v7.length : Int))), (46, .d (iv (IntKind.i64.wrap (s8 + 1)))), (46001, .r (.arr 1 (v7.flatMap eI.o) []))] .nil (by kernel_rfl) (by kernel_rfl) (l_n ?_)
        exact trl_start (ks := [0, 6, 20, 22, 24, 42, 44, 46, 46001]) (by kernel_rfl) (ih10 (IntKind.i64.wrap (s8 + 1)) hM)
    · have hM := ite_false' hM h12
      refine tr_condFe (e := decide (s8 < (v7.length : Int))) h12 (by kernel_rfl) ?_
      refine tr_exit (q_x (l_x (b_h (b_n (q_n ?_)))))
      refine tr_r hT hm [] [0, 20, 22, 24] [(0, .d (.pt (eXFunctor.b a0) 0)), (20, .d (.sl a0.Objects.length 0 (a0.Objects.flatMap eI.b))), (22, .d (iv (a0.Objects.length : Int))), (24, .d (iv (IntKind.i64.wrap (s1 + 1))))] .nil (by kernel_rfl) (by kernel_rfl) (l_n ?_)
      exact trl_start (ks := [0, 20, 22, 24]) (by kernel_rfl) (ih3 (IntKind.i64.wrap (s1 + 1)) hM)
  · have hM := ite_false' hM h5
    refine tr_condFe (e := decide (s1 < (a0.Objects.length : Int))) h5 (by kernel_rfl) ?_
    refine tr_exit (q_x (l_x (b_h (q_n ?_))))
    refine tr_sr hT hm [] [4] [(4, .d (bv true))] .nil (by kernel_rfl) (by kernel_rfl) ?_
    refine tr_ret (rg_r ?_)
    obtain rfl := Option.some.inj hM
    exact retg (names := []) .nil (by kernel_rfl)

theorem ok85 : CallOk Try.prog 85 := callOk_of Try.func85 (by kernel_rfl) (by kernel_rfl)
theorem impl_IsDiscreteFibration_1_c (a0 : XFunctor) (r : Bool) (hM : M.impl_IsDiscreteFibration_1 a0 = some r) :
    FnC Try.prog 85 [] [.pt (eXFunctor.b a0) 0] [] (bv r) := by
  refine fnc_startG (N := 7) (np := 500) hT Try.func85 rfl rfl (by kernel_rfl) ?_
  unfold M.impl_IsDiscreteFibration_1 at hM
  refine tr_start (ks := [0]) (st' := [(0, .d (.pt (eXFunctor.b a0) 0))]) (by kernel_rfl) ?_
  refine tr_sr hT hm [] [0] [(0, .d (.pt (eXFunctor.b a0) 0))] .nil (by kernel_rfl) (by kernel_rfl) ?_
  obtain ⟨v1, hv1, hM⟩ := bind_some' hM
  refine tr_sr hT hm [(1, .call [] [] [.pt (eXFunctor.b a0) 0] [] (.agg (eXFunctor.o v1)))] [6, 2007, 14003, 14005, 14007, 14009, 14013, 14015, 14017, 14019, 14021, 14023] [(6, .d (.rp 1003 0)), (2007, .r (.arr 1 [iv v1.Source.Objects, .rs 7001 0 v1.Source.From.length, .rs 7002 0 v1.Source.To.length, .rs 7003 0 v1.Source.Identity.length, .rs 7004 0 v1.Source.Composites.length, iv v1.Target.Objects, .rs 7006 0 v1.Target.From.length, .rs 7007 0 v1.Target.To.length, .rs 7008 0 v1.Target.Identity.length, .rs 7009 0 v1.Target.Composites.length, .rs 7010 0 v1.Objects.length, .rs 7011 0 v1.Arrows.length] [7001, 7002, 7003, 7004, 7006, 7007, 7008, 7009, 7010, 7011])), (14003, .r (.arr 1 (v1.Source.From.flatMap eI.o) [])), (14005, .r (.arr 1 (v1.Source.To.flatMap eI.o) [])), (14007, .r (.arr 1 (v1.Source.Identity.flatMap eI.o) [])), (14009, .r (.arr 1 (v1.Source.Composites.flatMap (eS eI).o) [])), (14013, .r (.arr 1 (v1.Target.From.flatMap eI.o) [])), (14015, .r (.arr 1 (v1.Target.To.flatMap eI.o) [])), (14017, .r (.arr 1 (v1.Target.Identity.flatMap eI.o) [])), (14019, .r (.arr 1 (v1.Target.Composites.flatMap (eS eI).o) [])), (14021, .r (.arr 1 (v1.Objects.flatMap eI.o) [])), (14023, .r (.arr 1 (v1.Arrows.flatMap eI.o) []))] (cc0 ok86 (impl_Functor_opposite_c a0 _ hv1) (by kernel_rfl) (.cons (Nat.le_of_ble_eq_true (n := 12) (m := 12) rfl) .nil)) (by kernel_rfl) (by kernel_rfl) ?_
  obtain ⟨v2, hv2, hM⟩ := bind_some' hM
  refine tr_sr hT hm [(0, .call [1003, 7001, 7002, 7003, 7004, 7006, 7007, 7008, 7009, 7010, 7011] [] [.pt (eXFunctor.b v1) 0] [] (bv v2))] [4] [(4, .d (bv v2))] (cc (B := [1003, 7001, 7002, 7003, 7004, 7006, 7007, 7008, 7009, 7010, 7011]) (ρ := []) (rB := [(1003, .arr 1 [iv v1.Source.Objects, .rs 7001 0 v1.Source.From.length, .rs 7002 0 v1.Source.To.length, .rs 7003 0 v1.Source.Identity.length, .rs 7004 0 v1.Source.Composites.length, iv v1.Target.Objects, .rs 7006 0 v1.Target.From.length, .rs 7007 0 v1.Target.To.length, .rs 7008 0 v1.Target.Identity.length, .rs 7009 0 v1.Target.Composites.length, .rs 7010 0 v1.Objects.length, .rs 7011 0 v1.Arrows.length] [7001, 7002, 7003, 7004, 7006, 7007, 7008, 7009, 7010, 7011]), (7001, .arr 1 (v1.Source.From.flatMap eI.o) []), (7002, .arr 1 (v1.Source.To.flatMap eI.o) []), (7003, .arr 1 (v1.Source.Identity.flatMap eI.o) []), (7004, .arr 1 (v1.Source.Composites.flatMap (eS eI).o) []), (7006, .arr 1 (v1.Target.From.flatMap eI.o) []), (7007, .arr 1 (v1.Target.To.flatMap eI.o) []), (7008, .arr 1 (v1.Target.Identity.flatMap eI.o) []), (7009, .arr 1 (v1.Target.Composites.flatMap (eS eI).o) []), (7010, .arr 1 (v1.Objects.flatMap eI.o) []), (7011, .arr 1 (v1.Arrows.flatMap eI.o) [])]) ok87 (impl_Functor_isDiscreteOpfibration_c v1 _ hv2) (.cons (.of1 (.rp (r := 1003) (sz := 1) (refs := [7001, 7002, 7003, 7004, 7006, 7007, 7008, 7009, 7010, 7011]) (by decide) (by kernel_rfl) (.cons .v (.cons (.rs (r := 7001) (sz := 1) (refs := []) (by decide) (by kernel_rfl) (bor_flat eI_ok _ _ _)) (.cons (.rs (r := 7002) (sz := 1) (refs := []) (by decide) (by kernel_rfl) (bor_flat eI_ok _ _ _)) (.cons (.rs (r := 7003) (sz := 1) (refs := []) (by decide) (by kernel_rfl) (bor_flat eI_ok _ _ _)) (.cons (.rs (r := 7004) (sz := 1) (refs := []) (by decide) (by kernel_rfl) (bor_flat (eS_ok eI_ok) _ _ _)) (.cons .v (.cons (.rs (r := 7006) (sz := 1) (refs := []) (by decide) (by kernel_rfl) (bor_flat eI_ok _ _ _)) (.cons (.rs (r := 7007) (sz := 1) (refs := []) (by decide) (by kernel_rfl) (bor_flat eI_ok _ _ _)) (.cons (.rs (r := 7008) (sz := 1) (refs := []) (by decide) (by kernel_rfl) (bor_flat eI_ok _ _ _)) (.cons (.rs (r := 7009) (sz := 1) (refs := []) (by decide) (by kernel_rfl) (bor_flat (eS_ok eI_ok) _ _ _)) (.cons (.rs (r := 7010) (sz := 1) (refs := []) (by decide) (by kernel_rfl) (bor_flat eI_ok _ _ _)) (.cons (.rs (r := 7011) (sz := 1) (refs := []) (by decide) (by kernel_rfl) (bor_flat eI_ok _ _ _)) .nil)))))))))))))) .nil) (.inr ⟨.v, trivial⟩) .nil) (by kernel_rfl) (by kernel_rfl) ?_
  refine tr_ret (rg_r ?_)
  obtain rfl := Option.some.inj hM
  exact retg (names := []) .nil (by kernel_rfl)

theorem ok17 : CallOk Try.prog 17 := callOk_of Try.func17 (by kernel_rfl) (by kernel_rfl)
theorem impl_IsDiscreteFibration_c (a0 : XFunctor) (r : Bool × Int) (hM : M.impl_IsDiscreteFibration a0 = some r) :
    FnC Try.prog 17 [] [.agg (eXFunctor.b a0)] [] (.tup [bv r.1, iv r.2]) := by
  refine fnc_startG (N := 7) (np := 500) hT Try.func17 rfl rfl (by kernel_rfl) ?_
  unfold M.impl_IsDiscreteFibration at hM
  refine tr_start (ks := [0]) (st' := [(0, .d (.agg [iv a0.Source.Objects, .sl a0.Source.From.length 0 (a0.Source.From.flatMap eI.b), .sl a0.Source.To.length 0 (a0.Source.To.flatMap eI.b), .sl a0.Source.Identity.length 0 (a0.Source.Identity.flatMap eI.b), .sl a0.Source.Composites.length 0 (a0.Source.Composites.flatMap (eS eI).b), iv a0.Target.Objects, .sl a0.Target.From.length 0 (a0.Target.From.flatMap eI.b), .sl a0.Target.To.length 0 (a0.Target.To.flatMap eI.b), .sl a0.Target.Identity.length 0 (a0.Target.Identity.flatMap eI.b), .sl a0.Target.Composites.length 0 (a0.Target.Composites.flatMap (eS eI).b), .sl a0.Objects.length 0 (a0.Objects.flatMap eI.b), .sl a0.Arrows.length 0 (a0.Arrows.flatMap eI.b)]))]) (by kernel_rfl) ?_
  refine tr_sr hT hm [] [2, 2003] [(2, .d (.rp 1001 0)), (2003, .r (.arr 1 [iv a0.Source.Objects, .sl a0.Source.From.length 0 (a0.Source.From.flatMap eI.b), .sl a0.Source.To.length 0 (a0.Source.To.flatMap eI.b), .sl a0.Source.Identity.length 0 (a0.Source.Identity.flatMap eI.b), .sl a0.Source.Composites.length 0 (a0.Source.Composites.flatMap (eS eI).b), iv a0.Target.Objects, .sl a0.Target.From.length 0 (a0.Target.From.flatMap eI.b), .sl a0.Target.To.length 0 (a0.Target.To.flatMap eI.b), .sl a0.Target.Identity.length 0 (a0.Target.Identity.flatMap eI.b), .sl a0.Target.Composites.length 0 (a0.Target.Composites.flatMap (eS eI).b), .sl a0.Objects.length 0 (a0.Objects.flatMap eI.b), .sl a0.Arrows.length 0 (a0.Arrows.flatMap eI.b)] []))] .nil (by kernel_rfl) (by kernel_rfl) ?_
  obtain ⟨v1, hv1, hM⟩ := bind_some' hM
  refine tr_sr hT hm [(0, .call [1001] [] [.pt (eXFunctor.b a0) 0, .fb 85 []] [] (.tup [bv v1.1, iv v1.2]))] [4, 6] [(4, .d (bv v1.1)), (6, .d (iv v1.2))] (cc (B := [1001]) (ρ := []) (rB := [(1001, .arr 1 [iv a0.Source.Objects, .sl a0.Source.From.length 0 (a0.Source.From.flatMap eI.b), .sl a0.Source.To.length 0 (a0.Source.To.flatMap eI.b), .sl a0.Source.Identity.length 0 (a0.Source.Identity.flatMap eI.b), .sl a0.Source.Composites.length 0 (a0.Source.Composites.flatMap (eS eI).b), iv a0.Target.Objects, .sl a0.Target.From.length 0 (a0.Target.From.flatMap eI.b), .sl a0.Target.To.length 0 (a0.Target.To.flatMap eI.b), .sl a0.Target.Identity.length 0 (a0.Target.Identity.flatMap eI.b), .sl a0.Target.Composites.length 0 (a0.Target.Composites.flatMap (eS eI).b), .sl a0.Objects.length 0 (a0.Objects.flatMap eI.b), .sl a0.Arrows.length 0 (a0.Arrows.flatMap eI.b)] [])]) ok84 (impl_asked_c a0 85 ([] : List D) (fun (x0 : XFunctor) => M.impl_IsDiscreteFibration_1 x0) ok85 (by kernel_rfl) (fun x0 r h => impl_IsDiscreteFibration_1_c x0  r h) _ hv1) (.cons (.of1 (.rp (r := 1001) (sz := 1) (refs := []) (by decide) (by kernel_rfl) (.cons .v (.cons (.same rfl rfl) (.cons (.same rfl rfl) (.cons (.same rfl rfl) (.cons (.same rfl rfl) (.cons .v (.cons (.same rfl rfl) (.cons (.same rfl rfl) (.cons (.same rfl rfl) (.cons (.same rfl rfl) (.cons (.same rfl rfl) (.cons (.same rfl rfl) .nil)))))))))))))) (.cons (.fn .nil) .nil)) (.inr ⟨(nobor_tup (.cons .v (.cons .v .nil))), trivial⟩) .nil) (by kernel_rfl) (by kernel_rfl) ?_
  refine tr_ret (rg_r ?_)
  obtain rfl := Option.some.inj hM
  exact retg (names := []) .nil (by kernel_rfl)

theorem ok65 : CallOk Try.prog 65 := callOk_of Try.func65 (by kernel_rfl) (by kernel_rfl)
theorem laws_eqInt64S_c (a0 : List Int) (a1 : List Int) (r : Bool) (hM : M.laws_eqInt64S a0 a1 = some r) :
    FnC Try.prog 65 [] [.sl a0.length 0 (a0.flatMap eI.b), .sl a1.length 0 (a1.flatMap eI.b)] [] (bv r) := by
  refine fnc_startG (N := 26) (np := 500) hT Try.func65 rfl rfl (by kernel_rfl) ?_
  unfold M.laws_eqInt64S at hM
  refine tr_start (ks := [0, 2]) (st' := [(0, .d (.sl a0.length 0 (a0.flatMap eI.b))), (2, .d (.sl a1.length 0 (a1.flatMap eI.b)))]) (by kernel_rfl) ?_
  refine tr_sr hT hm [] [0, 2] [(0, .d (.sl a0.length 0 (a0.flatMap eI.b))), (2, .d (.sl a1.length 0 (a1.flatMap eI.b)))] .nil (by kernel_rfl) (by kernel_rfl) ?_
  refine tr_seq ?_
  refine tr_sr hT hm [] [0, 2, 20] [(0, .d (.sl a0.length 0 (a0.flatMap eI.b))), (2, .d (.sl a1.length 0 (a1.flatMap eI.b))), (20, .d (bv ((a0.length : Int) != (a1.length : Int))))] .nil (by kernel_rfl) (by kernel_rfl) ?_
  rcases Bool.eq_false_or_eq_true ((a0.length : Int) != (a1.length : Int)) with h1 | h1
  · have hM := ite_true' hM h1
    refine tr_condTe (e := (a0.length : Int) != (a1.length : Int)) h1 (by kernel_rfl) ?_
    refine tr_sr hT hm [] [8] [(8, .d (bv false))] .nil (by kernel_rfl) (by kernel_rfl) ?_
    refine tr_ret (q_r (rg_r ?_))
    obtain rfl := Option.some.inj hM
    exact retg (names := []) .nil (by kernel_rfl)
  · have hM := ite_false' hM h1
    refine tr_condFe (e := (a0.length : Int) != (a1.length : Int)) h1 (by kernel_rfl) ?_
    refine tr_skip (q_n ?_)
    refine tr_seq ?_
    refine tr_sr hT hm [] [0, 2, 10] [(0, .d (.sl a0.length 0 (a0.flatMap eI.b))), (2, .d (.sl a1.length 0 (a1.flatMap eI.b))), (10, .d (iv 0))] .nil (by kernel_rfl) (by kernel_rfl) ?_
    refine tr_block ?_
    refine tr_iterS (fun (s2 : Int) => [(0, .d (.sl a0.length 0 (a0.flatMap eI.b))), (2, .d (.sl a1.length 0 (a1.flatMap eI.b))), (10, .d (iv s2))]) 0 [0, 2, 10] (by kernel_rfl) hM ?_
    intro n5 next3 ih4 s2 hM
    refine tr_seq ?_
    refine tr_sr hT hm [] [0, 2, 10, 28] [(0, .d (.sl a0.length 0 (a0.flatMap eI.b))), (2, .d (.sl a1.length 0 (a1.flatMap eI.b))), (10, .d (iv s2)), (28, .d (bv (decide (s2 < (a0.length : Int)))))] .nil (by kernel_rfl) (by kernel_rfl) ?_
    rcases Bool.eq_false_or_eq_true (decide (s2 < (a0.length : Int))) with h6 | h6
    · have hM := ite_true' hM h6
      refine tr_condTe (e := decide (s2 < (a0.length : Int))) h6 (by kernel_rfl) ?_
      refine tr_skip (q_n ?_)
      refine tr_seq ?_
      refine tr_block ?_
      obtain ⟨y7, hy7, hM⟩ := bind_some' hM
      have hy7' := idx_some hy7
      obtain ⟨y8, hy8, hM⟩ := bind_some' hM
      have hy8' := idx_some hy8
      refine tr_sr hT hm [(3, .val (iv y7)), (7, .val (iv y8))] [0, 2, 10, 50] [(0, .d (.sl a0.length 0 (a0.flatMap eI.b))), (2, .d (.sl a1.length 0 (a1.flatMap eI.b))), (10, .d (iv s2)), (50, .d (bv (y7 != y8)))] (.cons hy7'.1 (.cons hy7'.2.1 (.cons (at_b0 eI_ok hy7'.2.2 (d := iv y7) (by kernel_rfl)) (.cons hy8'.1 (.cons hy8'.2.1 (.cons (at_b0 eI_ok hy8'.2.2 (d := iv y8) (by kernel_rfl)) .nil)))))) (by kernel_rfl) (by kernel_rfl) ?_
      rcases Bool.eq_false_or_eq_true (y7 != y8) with h9 | h9
      · have hM := ite_true' hM h9
        refine tr_condTe (e := y7 != y8) h9 (by kernel_rfl) ?_
        refine tr_sr hT hm [] [8] [(8, .d (bv false))] .nil (by kernel_rfl) (by kernel_rfl) ?_
        refine tr_ret (b_r (q_r (l_r (b_r (q_r (rg_r ?_))))))
        obtain rfl := Option.some.inj hM
        exact retg (names := []) .nil (by kernel_rfl)
      · have hM := ite_false' hM h9
        refine tr_condFe (e := y7 != y8) h9 (by kernel_rfl) ?_
        refine tr_skip (b_n (q_n ?_))
        refine tr_r hT hm [] [0, 2, 10] [(0, .d (.sl a0.length 0 (a0.flatMap eI.b))), (2, .d (.sl a1.length 0 (a1.flatMap eI.b))), (10, .d (iv (IntKind.i64.wrap (s2 + 1))))] .nil (by kernel_rfl) (by kernel_rfl) (l_n ?_)
        exact trl_start (ks := [0, 2, 10]) (by kernel_rfl) (ih4 (IntKind.i64.wrap (s2 + 1)) hM)
    · have hM := ite_false' hM h6
      refine tr_condFe (e := decide (s2 < (a0.length : Int))) h6 (by kernel_rfl) ?_
      refine tr_exit (q_x (l_x (b_h (q_n ?_))))
      refine tr_sr hT hm [] [8] [(8, .d (bv true))] .nil (by kernel_rfl) (by kernel_rfl) ?_
      refine tr_ret (rg_r ?_)
      obtain rfl := Option.some.inj hM
      exact retg (names := []) .nil (by kernel_rfl)

theorem ok66 : CallOk Try.prog 66 := callOk_of Try.func66 (by kernel_rfl) (by kernel_rfl)
theorem laws_eqInt64SS_c (a0 : List (List Int)) (a1 : List (List Int)) (r : Bool) (hM : M.laws_eqInt64SS a0 a1 = some r) :
    FnC Try.prog 66 [] [.sl a0.length 0 (a0.flatMap (eS eI).b), .sl a1.length 0 (a1.flatMap (eS eI).b)] [] (bv r) := by
  refine fnc_startG (N := 27) (np := 500) hT Try.func66 rfl rfl (by kernel_rfl) ?_
  unfold M.laws_eqInt64SS at hM
  refine tr_start (ks := [0, 2]) (st' := [(0, .d (.sl a0.length 0 (a0.flatMap (eS eI).b))), (2, .d (.sl a1.length 0 (a1.flatMap (eS eI).b)))]) (by kernel_rfl) ?_
  refine tr_sr hT hm [] [0, 2] [(0, .d (.sl a0.length 0 (a0.flatMap (eS eI).b))), (2, .d (.sl a1.length 0 (a1.flatMap (eS eI).b)))] .nil (by kernel_rfl) (by kernel_rfl) ?_
  refine tr_seq ?_
  refine tr_sr hT hm [] [0, 2, 20] [(0, .d (.sl a0.length 0 (a0.flatMap (eS eI).b))), (2, .d (.sl a1.length 0 (a1.flatMap (eS eI).b))), (20, .d (bv ((a0.length : Int) != (a1.length : Int))))] .nil (by kernel_rfl) (by kernel_rfl) ?_
  rcases Bool.eq_false_or_eq_true ((a0.length : Int) != (a1.length : Int)) with h1 | h1
  · have hM := ite_true' hM h1
    refine tr_condTe (e := (a0.length : Int) != (a1.length : Int)) h1 (by kernel_rfl) ?_
    refine tr_sr hT hm [] [8] [(8, .d (bv false))] .nil (by kernel_rfl) (by kernel_rfl) ?_
    refine tr_ret (q_r (rg_r ?_))
    obtain rfl := Option.some.inj hM
    exact retg (names := []) .nil (by kernel_rfl)
  · have hM := ite_false' hM h1
    refine tr_condFe (e := (a0.length : Int) != (a1.length : Int)) h1 (by kernel_rfl) ?_
    refine tr_skip (q_n ?_)
    refine tr_seq ?_
    refine tr_sr hT hm [] [0, 2, 10] [(0, .d (.sl a0.length 0 (a0.flatMap (eS eI).b))), (2, .d (.sl a1.length 0 (a1.flatMap (eS eI).b))), (10, .d (iv 0))] .nil (by kernel_rfl) (by kernel_rfl) ?_
    refine tr_block ?_
    refine tr_iterS (fun (s2 : Int) => [(0, .d (.sl a0.length 0 (a0.flatMap (eS eI).b))), (2, .d (.sl a1.length 0 (a1.flatMap (eS eI).b))), (10, .d (iv s2))]) 0 [0, 2, 10] (by kernel_rfl) hM ?_
    intro n5 next3 ih4 s2 hM
    refine tr_seq ?_
    refine tr_sr hT hm [] [0, 2, 10, 28] [(0, .d (.sl a0.length 0 (a0.flatMap (eS eI).b))), (2, .d (.sl a1.length 0 (a1.flatMap (eS eI).b))), (10, .d (iv s2)), (28, .d (bv (decide (s2 < (a0.length : Int)))))] .nil (by kernel_rfl) (by kernel_rfl) ?_
    rcases Bool.eq_false_or_eq_true (decide (s2 < (a0.length : Int))) with h6 | h6
    · have hM := ite_true' hM h6
      refine tr_condTe (e := decide (s2 < (a0.length : Int))) h6 (by kernel_rfl) ?_
      refine tr_skip (q_n ?_)
      refine tr_seq ?_
      refine tr_block ?_
      obtain ⟨y7, hy7, hM⟩ := bind_some' hM
      have hy7' := idx_some hy7
      obtain ⟨y8, hy8, hM⟩ := bind_some' hM
      have hy8' := idx_some hy8
      obtain ⟨v9, hv9, hM⟩ := bind_some' hM
      refine tr_sr hT hm [(3, .val (.sl y7.length 0 (y7.flatMap eI.b))), (7, .val (.sl y8.length 0 (y8.flatMap eI.b))), (8, .call [] [] [.sl y7.length 0 (y7.flatMap eI.b), .sl y8.length 0 (y8.flatMap eI.b)] [] (bv v9))] [0, 2, 10, 52] [(0, .d (.sl a0.length 0 (a0.flatMap (eS eI).b))), (2, .d (.sl a1.length 0 (a1.flatMap (eS eI).b))), (10, .d (iv s2)), (52, .d (bv (!v9)))] (.cons hy7'.1 (.cons hy7'.2.1 (.cons (at_b0 (eS_ok eI_ok) hy7'.2.2 (d := .sl y7.length 0 (y7.flatMap eI.b)) (by kernel_rfl)) (.cons hy8'.1 (.cons hy8'.2.1 (.cons (at_b0 (eS_ok eI_ok) hy8'.2.2 (d := .sl y8.length 0 (y8.flatMap eI.b)) (by kernel_rfl)) (cc0 ok65 (laws_eqInt64S_c y7 y8 _ hv9) (by kernel_rfl) .nil))))))) (by kernel_rfl) (by kernel_rfl) ?_
      rcases Bool.eq_false_or_eq_true v9 with h10 | h10
      · have hM := ite_true' hM h10
        refine tr_condFe (e := !v9) (congrArg not h10) (by kernel_rfl) ?_
        refine tr_skip (b_n (q_n ?_))
        refine tr_r hT hm [] [0, 2, 10] [(0, .d (.sl a0.length 0 (a0.flatMap (eS eI).b))), (2, .d (.sl a1.length 0 (a1.flatMap (eS eI).b))), (10, .d (iv (IntKind.i64.wrap (s2 + 1))))] .nil (by kernel_rfl) (by kernel_rfl) (l_n ?_)
        exact trl_start (ks := [0, 2, 10]) (by kernel_rfl) (ih4 (IntKind.i64.wrap (s2 + 1)) hM)
      · have hM := ite_false' hM h10
        refine tr_condTe (e := !v9) (congrArg not h10) (by kernel_rfl) ?_
        refine tr_sr hT hm [] [8] [(8, .d (bv false))] .nil (by kernel_rfl) (by kernel_rfl) ?_
        refine tr_ret (b_r (q_r (l_r (b_r (q_r (rg_r ?_))))))
        obtain rfl := Option.some.inj hM
        exact retg (names := []) .nil (by kernel_rfl)
    · have hM := ite_false' hM h6
      refine tr_condFe (e := decide (s2 < (a0.length : Int))) h6 (by kernel_rfl) ?_
      refine tr_exit (q_x (l_x (b_h (q_n ?_))))
      refine tr_sr hT hm [] [8] [(8, .d (bv true))] .nil (by kernel_rfl) (by kernel_rfl) ?_
      refine tr_ret (rg_r ?_)
      obtain rfl := Option.some.inj hM
      exact retg (names := []) .nil (by kernel_rfl)

theorem ok28 : CallOk Try.prog 28 := callOk_of Try.func28 (by kernel_rfl) (by kernel_rfl)
theorem laws_eqCategory_c (a0 : XCategory) (a1 : XCategory) (r : Bool) (hM : M.laws_eqCategory a0 a1 = some r) :
    FnC Try.prog 28 [] [.agg (eXCategory.b a0), .agg (eXCategory.b a1)] [] (bv r) := by
  refine fnc_startG (N := 34) (np := 500) hT Try.func28 rfl rfl (by kernel_rfl) ?_
  unfold M.laws_eqCategory at hM
  refine tr_start (ks := [0, 2]) (st' := [(0, .d (.agg [iv a0.Objects, .sl a0.From.length 0 (a0.From.flatMap eI.b), .sl a0.To.length 0 (a0.To.flatMap eI.b), .sl a0.Identity.length 0 (a0.Identity.flatMap eI.b), .sl a0.Composites.length 0 (a0.Composites.flatMap (eS eI).b)])), (2, .d (.agg [iv a1.Objects, .sl a1.From.length 0 (a1.From.flatMap eI.b), .sl a1.To.length 0 (a1.To.flatMap eI.b), .sl a1.Identity.length 0 (a1.Identity.flatMap eI.b), .sl a1.Composites.length 0 (a1.Composites.flatMap (eS eI).b)]))]) (by kernel_rfl) ?_
  refine tr_sr hT hm [] [4, 6, 2005, 2007] [(4, .d (.rp 1002 0)), (6, .d (.rp 1003 0)), (2005, .r (.arr 1 [iv a0.Objects, .sl a0.From.length 0 (a0.From.flatMap eI.b), .sl a0.To.length 0 (a0.To.flatMap eI.b), .sl a0.Identity.length 0 (a0.Identity.flatMap eI.b), .sl a0.Composites.length 0 (a0.Composites.flatMap (eS eI).b)] [])), (2007, .r (.arr 1 [iv a1.Objects, .sl a1.From.length 0 (a1.From.flatMap eI.b), .sl a1.To.length 0 (a1.To.flatMap eI.b), .sl a1.Identity.length 0 (a1.Identity.flatMap eI.b), .sl a1.Composites.length 0 (a1.Composites.flatMap (eS eI).b)] []))] .nil (by kernel_rfl) (by kernel_rfl) ?_
  refine tr_seq ?_
  refine tr_sr hT hm [] [4, 6, 18, 2005, 2007] [(4, .d (.rp 1002 0)), (6, .d (.rp 1003 0)), (18, .d (bv (a0.Objects != a1.Objects))), (2005, .r (.arr 1 [iv a0.Objects, .sl a0.From.length 0 (a0.From.flatMap eI.b), .sl a0.To.length 0 (a0.To.flatMap eI.b), .sl a0.Identity.length 0 (a0.Identity.flatMap eI.b), .sl a0.Composites.length 0 (a0.Composites.flatMap (eS eI).b)] [])), (2007, .r (.arr 1 [iv a1.Objects, .sl a1.From.length 0 (a1.From.flatMap eI.b), .sl a1.To.length 0 (a1.To.flatMap eI.b), .sl a1.Identity.length 0 (a1.Identity.flatMap eI.b), .sl a1.Composites.length 0 (a1.Composites.flatMap (eS eI).b)] []))] .nil (by kernel_rfl) (by kernel_rfl) ?_
  rcases Bool.eq_false_or_eq_true (a0.Objects != a1.Objects) with h1 | h1
  · have hM := ite_true' hM h1
    refine tr_condTe (e := a0.Objects != a1.Objects) h1 (by kernel_rfl) ?_
    refine tr_sr hT hm [] [8] [(8, .d (bv false))] .nil (by kernel_rfl) (by kernel_rfl) ?_
    refine tr_ret (q_r (rg_r ?_))
    obtain rfl := Option.some.inj hM
    exact retg (names := []) .nil (by kernel_rfl)
  · have hM := ite_false' hM h1
    refine tr_condFe (e := a0.Objects != a1.Objects) h1 (by kernel_rfl) ?_
    refine tr_skip (q_n ?_)
    refine tr_seq ?_
    obtain ⟨v2, hv2, hM⟩ := bind_some' hM
    refine tr_sr hT hm [(4, .call [] [] [.sl a0.From.length 0 (a0.From.flatMap eI.b), .sl a1.From.length 0 (a1.From.flatMap eI.b)] [] (bv v2))] [4, 6, 30, 2005, 2007] [(4, .d (.rp 1002 0)), (6, .d (.rp 1003 0)), (30, .d (bv (!v2))), (2005, .r (.arr 1 [iv a0.Objects, .sl a0.From.length 0 (a0.From.flatMap eI.b), .sl a0.To.length 0 (a0.To.flatMap eI.b), .sl a0.Identity.length 0 (a0.Identity.flatMap eI.b), .sl a0.Composites.length 0 (a0.Composites.flatMap (eS eI).b)] [])), (2007, .r (.arr 1 [iv a1.Objects, .sl a1.From.length 0 (a1.From.flatMap eI.b), .sl a1.To.length 0 (a1.To.flatMap eI.b), .sl a1.Identity.length 0 (a1.Identity.flatMap eI.b), .sl a1.Composites.length 0 (a1.Composites.flatMap (eS eI).b)] []))] (cc0 ok65 (laws_eqInt64S_c a0.From a1.From _ hv2) (by kernel_rfl) .nil) (by kernel_rfl) (by kernel_rfl) ?_
    rcases Bool.eq_false_or_eq_true v2 with h3 | h3
    · have hM := ite_true' hM h3
      refine tr_condFe (e := !v2) (congrArg not h3) (by kernel_rfl) ?_
      refine tr_skip (q_n ?_)
      refine tr_seq ?_
      obtain ⟨v4, hv4, hM⟩ := bind_some' hM
      refine tr_sr hT hm [(4, .call [] [] [.sl a0.To.length 0 (a0.To.flatMap eI.b), .sl a1.To.length 0 (a1.To.flatMap eI.b)] [] (bv v4))] [4, 6, 42, 2005, 2007] [(4, .d (.rp 1002 0)), (6, .d (.rp 1003 0)), (42, .d (bv (!v4))), (2005, .r (.arr 1 [iv a0.Objects, .sl a0.From.length 0 (a0.From.flatMap eI.b), .sl a0.To.length 0 (a0.To.flatMap eI.b), .sl a0.Identity.length 0 (a0.Identity.flatMap eI.b), .sl a0.Composites.length 0 (a0.Composites.flatMap (eS eI).b)] [])), (2007, .r (.arr 1 [iv a1.Objects, .sl a1.From.length 0 (a1.From.flatMap eI.b), .sl a1.To.length 0 (a1.To.flatMap eI.b), .sl a1.Identity.length 0 (a1.Identity.flatMap eI.b), .sl a1.Composites.length 0 (a1.Composites.flatMap (eS eI).b)] []))] (cc0 ok65 (laws_eqInt64S_c a0.To a1.To _ hv4) (by kernel_rfl) .nil) (by kernel_rfl) (by kernel_rfl) ?_
      rcases Bool.eq_false_or_eq_true v4 with h5 | h5
      · have hM := ite_true' hM h5
        refine tr_condFe (e := !v4) (congrArg not h5) (by kernel_rfl) ?_
        refine tr_skip (q_n ?_)
        refine tr_seq ?_
        obtain ⟨v6, hv6, hM⟩ := bind_some' hM
        refine tr_sr hT hm [(4, .call [] [] [.sl a0.Identity.length 0 (a0.Identity.flatMap eI.b), .sl a1.Identity.length 0 (a1.Identity.flatMap eI.b)] [] (bv v6))] [4, 6, 54, 2005, 2007] [(4, .d (.rp 1002 0)), (6, .d (.rp 1003 0)), (54, .d (bv (!v6))), (2005, .r (.arr 1 [iv a0.Objects, .sl a0.From.length 0 (a0.From.flatMap eI.b), .sl a0.To.length 0 (a0.To.flatMap eI.b), .sl a0.Identity.length 0 (a0.Identity.flatMap eI.b), .sl a0.Composites.length 0 (a0.Composites.flatMap (eS eI).b)] [])), (2007, .r (.arr 1 [iv a1.Objects, .sl a1.From.length 0 (a1.From.flatMap eI.b), .sl a1.To.length 0 (a1.To.flatMap eI.b), .sl a1.Identity.length 0 (a1.Identity.flatMap eI.b), .sl a1.Composites.length 0 (a1.Composites.flatMap (eS eI).b)] []))] (cc0 ok65 (laws_eqInt64S_c a0.Identity a1.Identity _ hv6) (by kernel_rfl) .nil) (by kernel_rfl) (by kernel_rfl) ?_
        rcases Bool.eq_false_or_eq_true v6 with h7 | h7
        · have hM := ite_true' hM h7
          refine tr_condFe (e := !v6) (congrArg not h7) (by kernel_rfl) ?_
          refine tr_skip (q_n ?_)
          refine tr_seq ?_
          obtain ⟨v8, hv8, hM⟩ := bind_some' hM
          refine tr_sr hT hm [(4, .call [] [] [.sl a0.Composites.length 0 (a0.Composites.flatMap (eS eI).b), .sl a1.Composites.length 0 (a1.Composites.flatMap (eS eI).b)] [] (bv v8))] [66] [(66, .d (bv (!v8)))] (cc0 ok66 (laws_eqInt64SS_c a0.Composites a1.Composites _ hv8) (by kernel_rfl) .nil) (by kernel_rfl) (by kernel_rfl) ?_
          rcases Bool.eq_false_or_eq_true v8 with h9 | h9
          · have hM := ite_true' hM h9
            refine tr_condFe (e := !v8) (congrArg not h9) (by kernel_rfl) ?_
            refine tr_skip (q_n ?_)
            refine tr_sr hT hm [] [8] [(8, .d (bv true))] .nil (by kernel_rfl) (by kernel_rfl) ?_
            refine tr_ret (rg_r ?_)
            obtain rfl := Option.some.inj hM
            exact retg (names := []) .nil (by kernel_rfl)
          · have hM := ite_false' hM h9
            refine tr_condTe (e := !v8) (congrArg not h9) (by kernel_rfl) ?_
            refine tr_sr hT hm [] [8] [(8, .d (bv false))] .nil (by kernel_rfl) (by kernel_rfl) ?_
            refine tr_ret (q_r (rg_r ?_))
            obtain rfl := Option.some.inj hM
            exact retg (names := []) .nil (by kernel_rfl)
        · have hM := ite_false' hM h7
          refine tr_condTe (e := !v6) (congrArg not h7) (by kernel_rfl) ?_
          refine tr_sr hT hm [] [8] [(8, .d (bv false))] .nil (by kernel_rfl) (by kernel_rfl) ?_
          refine tr_ret (q_r (rg_r ?_))
          obtain rfl := Option.some.inj hM
          exact retg (names := []) .nil (by kernel_rfl)
      · have hM := ite_false' hM h5
        refine tr_condTe (e := !v4) (congrArg not h5) (by kernel_rfl) ?_
        refine tr_sr hT hm [] [8] [(8, .d (bv false))] .nil (by kernel_rfl) (by kernel_rfl) ?_
        refine tr_ret (q_r (rg_r ?_))
        obtain rfl := Option.some.inj hM
        exact retg (names := []) .nil (by kernel_rfl)
    · have hM := ite_false' hM h3
      refine tr_condTe (e := !v2) (congrArg not h3) (by kernel_rfl) ?_
      refine tr_sr hT hm [] [8] [(8, .d (bv false))] .nil (by kernel_rfl) (by kernel_rfl) ?_
      refine tr_ret (q_r (rg_r ?_))
      obtain rfl := Option.some.inj hM
      exact retg (names := []) .nil (by kernel_rfl)

theorem ok18 : CallOk Try.prog 18 := callOk_of Try.func18 (by kernel_rfl) (by kernel_rfl)
theorem laws_eqFunctor_c (a0 : XFunctor) (a1 : XFunctor) (r : Bool) (hM : M.laws_eqFunctor a0 a1 = some r) :
    FnC Try.prog 18 [] [.agg (eXFunctor.b a0), .agg (eXFunctor.b a1)] [] (bv r) := by
  refine fnc_startG (N := 29) (np := 500) hT Try.func18 rfl rfl (by kernel_rfl) ?_
  unfold M.laws_eqFunctor at hM
  refine tr_start (ks := [0, 2]) (st' := [(0, .d (.agg [iv a0.Source.Objects, .sl a0.Source.From.length 0 (a0.Source.From.flatMap eI.b), .sl a0.Source.To.length 0 (a0.Source.To.flatMap eI.b), .sl a0.Source.Identity.length 0 (a0.Source.Identity.flatMap eI.b), .sl a0.Source.Composites.length 0 (a0.Source.Composites.flatMap (eS eI).b), iv a0.Target.Objects, .sl a0.Target.From.length 0 (a0.Target.From.flatMap eI.b), .sl a0.Target.To.length 0 (a0.Target.To.flatMap eI.b), .sl a0.Target.Identity.length 0 (a0.Target.Identity.flatMap eI.b), .sl a0.Target.Composites.length 0 (a0.Target.Composites.flatMap (eS eI).b), .sl a0.Objects.length 0 (a0.Objects.flatMap eI.b), .sl a0.Arrows.length 0 (a0.Arrows.flatMap eI.b)])), (2, .d (.agg [iv a1.Source.Objects, .sl a1.Source.From.length 0 (a1.Source.From.flatMap eI.b), .sl a1.Source.To.length 0 (a1.Source.To.flatMap eI.b), .sl a1.Source.Identity.length 0 (a1.Source.Identity.flatMap eI.b), .sl a1.Source.Composites.length 0 (a1.Source.Composites.flatMap (eS eI).b), iv a1.Target.Objects, .sl a1.Target.From.length 0 (a1.Target.From.flatMap eI.b), .sl a1.Target.To.length 0 (a1.Target.To.flatMap eI.b), .sl a1.Target.Identity.length 0 (a1.Target.Identity.flatMap eI.b), .sl a1.Target.Composites.length 0 (a1.Target.Composites.flatMap (eS eI).b), .sl a1.Objects.length 0 (a1.Objects.flatMap eI.b), .sl a1.Arrows.length 0 (a1.Arrows.flatMap eI.b)]))]) (by kernel_rfl) ?_
  refine tr_sr hT hm [] [4, 6, 2005, 2007] [(4, .d (.rp 1002 0)), (6, .d (.rp 1003 0)), (2005, .r (.arr 1 [iv a0.Source.Objects, .sl a0.Source.From.length 0 (a0.Source.From.flatMap eI.b), .sl a0.Source.To.length 0 (a0.Source.To.flatMap eI.b), .sl a0.Source.Identity.length 0 (a0.Source.Identity.flatMap eI.b), .sl a0.Source.Composites.length 0 (a0.Source.Composites.flatMap (eS eI).b), iv a0.Target.Objects, .sl a0.Target.From.length 0 (a0.Target.From.flatMap eI.b), .sl a0.Target.To.length 0 (a0.Target.To.flatMap eI.b), .sl a0.Target.Identity.length 0 (a0.Target.Identity.flatMap eI.b), .sl a0.Target.Composites.length 0 (a0.Target.Composites.flatMap (eS eI).b), .sl a0.Objects.length 0 (a0.Objects.flatMap eI.b), .sl a0.Arrows.length 0 (a0.Arrows.flatMap eI.b)] [])), (2007, .r (.arr 1 [iv a1.Source.Objects, .sl a1.Source.From.length 0 (a1.Source.From.flatMap eI.b), .sl a1.Source.To.length 0 (a1.Source.To.flatMap eI.b), .sl a1.Source.Identity.length 0 (a1.Source.Identity.flatMap eI.b), .sl a1.Source.Composites.length 0 (a1.Source.Composites.flatMap (eS eI).b), iv a1.Target.Objects, .sl a1.Target.From.length 0 (a1.Target.From.flatMap eI.b), .sl a1.Target.To.length 0 (a1.Target.To.flatMap eI.b), .sl a1.Target.Identity.length 0 (a1.Target.Identity.flatMap eI.b), .sl a1.Target.Composites.length 0 (a1.Target.Composites.flatMap (eS eI).b), .sl a1.Objects.length 0 (a1.Objects.flatMap eI.b), .sl a1.Arrows.length 0 (a1.Arrows.flatMap eI.b)] []))] .nil (by kernel_rfl) (by kernel_rfl) ?_
  refine tr_seq ?_
  obtain ⟨v1, hv1, hM⟩ := bind_some' hM
  refine tr_sr hT hm [(4, .call [] [] [.agg [iv a0.Source.Objects, .sl a0.Source.From.length 0 (a0.Source.From.flatMap eI.b), .sl a0.Source.To.length 0 (a0.Source.To.flatMap eI.b), .sl a0.Source.Identity.length 0 (a0.Source.Identity.flatMap eI.b), .sl a0.Source.Composites.length 0 (a0.Source.Composites.flatMap (eS eI).b)], .agg [iv a1.Source.Objects, .sl a1.Source.From.length 0 (a1.Source.From.flatMap eI.b), .sl a1.Source.To.length 0 (a1.Source.To.flatMap eI.b), .sl a1.Source.Identity.length 0 (a1.Source.Identity.flatMap eI.b), .sl a1.Source.Composites.length 0 (a1.Source.Composites.flatMap (eS eI).b)]] [] (bv v1))] [4, 6, 20, 2005, 2007] [(4, .d (.rp 1002 0)), (6, .d (.rp 1003 0)), (20, .d (bv (!v1))), (2005, .r (.arr 1 [iv a0.Source.Objects, .sl a0.Source.From.length 0 (a0.Source.From.flatMap eI.b), .sl a0.Source.To.length 0 (a0.Source.To.flatMap eI.b), .sl a0.Source.Identity.length 0 (a0.Source.Identity.flatMap eI.b), .sl a0.Source.Composites.length 0 (a0.Source.Composites.flatMap (eS eI).b), iv a0.Target.Objects, .sl a0.Target.From.length 0 (a0.Target.From.flatMap eI.b), .sl a0.Target.To.length 0 (a0.Target.To.flatMap eI.b), .sl a0.Target.Identity.length 0 (a0.Target.Identity.flatMap eI.b), .sl a0.Target.Composites.length 0 (a0.Target.Composites.flatMap (eS eI).b), .sl a0.Objects.length 0 (a0.Objects.flatMap eI.b), .sl a0.Arrows.length 0 (a0.Arrows.flatMap eI.b)] [])), (2007, .r (.arr 1 [iv a1.Source.Objects, .sl a1.Source.From.length 0 (a1.Source.From.flatMap eI.b), .sl a1.Source.To.length 0 (a1.Source.To.flatMap eI.b), .sl a1.Source.Identity.length 0 (a1.Source.Identity.flatMap eI.b), .sl a1.Source.Composites.length 0 (a1.Source.Composites.flatMap (eS eI).b), iv a1.Target.Objects, .sl a1.Target.From.length 0 (a1.Target.From.flatMap eI.b), .sl a1.Target.To.length 0 (a1.Target.To.flatMap eI.b), .sl a1.Target.Identity.length 0 (a1.Target.Identity.flatMap eI.b), .sl a1.Target.Composites.length 0 (a1.Target.Composites.flatMap (eS eI).b), .sl a1.Objects.length 0 (a1.Objects.flatMap eI.b), .sl a1.Arrows.length 0 (a1.Arrows.flatMap eI.b)] []))] (cc0 ok28 (laws_eqCategory_c a0.Source a1.Source _ hv1) (by kernel_rfl) .nil) (by kernel_rfl) (by kernel_rfl) ?_
  rcases Bool.eq_false_or_eq_true v1 with h2 | h2
  · have hM := ite_true' hM h2
    refine tr_condFe (e := !v1) (congrArg not h2) (by kernel_rfl) ?_
    refine tr_skip (q_n ?_)
    refine tr_seq ?_
    obtain ⟨v3, hv3, hM⟩ := bind_some' hM
    refine tr_sr hT hm [(4, .call [] [] [.agg [iv a0.Target.Objects, .sl a0.Target.From.length 0 (a0.Target.From.flatMap eI.b), .sl a0.Target.To.length 0 (a0.Target.To.flatMap eI.b), .sl a0.Target.Identity.length 0 (a0.Target.Identity.flatMap eI.b), .sl a0.Target.Composites.length 0 (a0.Target.Composites.flatMap (eS eI).b)], .agg [iv a1.Target.Objects, .sl a1.Target.From.length 0 (a1.Target.From.flatMap eI.b), .sl a1.Target.To.length 0 (a1.Target.To.flatMap eI.b), .sl a1.Target.Identity.length 0 (a1.Target.Identity.flatMap eI.b), .sl a1.Target.Composites.length 0 (a1.Target.Composites.flatMap (eS eI).b)]] [] (bv v3))] [4, 6, 32, 2005, 2007] [(4, .d (.rp 1002 0)), (6, .d (.rp 1003 0)), (32, .d (bv (!v3))), (2005, .r (.arr 1 [iv a0.Source.Objects, .sl a0.Source.From.length 0 (a0.Source.From.flatMap eI.b), .sl a0.Source.To.length 0 (a0.Source.To.flatMap eI.b), .sl a0.Source.Identity.length 0 (a0.Source.Identity.flatMap eI.b), .sl a0.Source.Composites.length 0 (a0.Source.Composites.flatMap (eS eI).b), iv a0.Target.Objects, .sl a0.Target.From.length 0 (a0.Target.From.flatMap eI.b), .sl a0.Target.To.length 0 (a0.Target.To.flatMap eI.b), .sl a0.Target.Identity.length 0 (a0.Target.Identity.flatMap eI.b), .sl a0.Target.Composites.length 0 (a0.Target.Composites.flatMap (eS eI).b), .sl a0.Objects.length 0 (a0.Objects.flatMap eI.b), .sl a0.Arrows.length 0 (a0.Arrows.flatMap eI.b)] [])), (2007, .r (.arr 1 [iv a1.Source.Objects, .sl a1.Source.From.length 0 (a1.Source.From.flatMap eI.b), .sl a1.Source.To.length 0 (a1.Source.To.flatMap eI.b), .sl a1.Source.Identity.length 0 (a1.Source.Identity.flatMap eI.b), .sl a1.Source.Composites.length 0 (a1.Source.Composites.flatMap (eS eI).b), iv a1.Target.Objects, .sl a1.Target.From.length 0 (a1.Target.From.flatMap eI.b), .sl a1.Target.To.length 0 (a1.Target.To.flatMap eI.b), .sl a1.Target.Identity.length 0 (a1.Target.Identity.flatMap eI.b), .sl a1.Target.Composites.length 0 (a1.Target.Composites.flatMap (eS eI).b), .sl a1.Objects.length 0 (a1.Objects.flatMap eI.b), .sl a1.Arrows.length 0 (a1.Arrows.flatMap eI.b)] []))] (cc0 ok28 (laws_eqCategory_c a0.Target a1.Target _ hv3) (by kernel_rfl) .nil) (by kernel_rfl) (by kernel_rfl) ?_
    rcases Bool.eq_false_or_eq_true v3 with h4 | h4
    · have hM := ite_true' hM h4
      refine tr_condFe (e := !v3) (congrArg not h4) (by kernel_rfl) ?_
      refine tr_skip (q_n ?_)
      refine tr_seq ?_
      obtain ⟨v5, hv5, hM⟩ := bind_some' hM
      refine tr_sr hT hm [(4, .call [] [] [.sl a0.Objects.length 0 (a0.Objects.flatMap eI.b), .sl a1.Objects.length 0 (a1.Objects.flatMap eI.b)] [] (bv v5))] [4, 6, 44, 2005, 2007] [(4, .d (.rp 1002 0)), (6, .d (.rp 1003 0)), (44, .d (bv (!v5))), (2005, .r (.arr 1 [iv a0.Source.Objects, .sl a0.Source.From.length 0 (a0.Source.From.flatMap eI.b), .sl a0.Source.To.length 0 (a0.Source.To.flatMap eI.b), .sl a0.Source.Identity.length 0 (a0.Source.Identity.flatMap eI.b), .sl a0.Source.Composites.length 0 (a0.Source.Composites.flatMap (eS eI).b), iv a0.Target.Objects, .sl a0.Target.From.length 0 (a0.Target.From.flatMap eI.b), .sl a0.Target.To.length 0 (a0.Target.To.flatMap eI.b), .sl a0.Target.Identity.length 0 (a0.Target.Identity.flatMap eI.b), .sl a0.Target.Composites.length 0 (a0.Target.Composites.flatMap (eS eI).b), .sl a0.Objects.length 0 (a0.Objects.flatMap eI.b), .sl a0.Arrows.length 0 (a0.Arrows.flatMap eI.b)] [])), (2007, .r (.arr 1 [iv a1.Source.Objects, .sl a1.Source.From.length 0 (a1.Source.From.flatMap eI.b), .sl a1.Source.To.length 0 (a1.Source.To.flatMap eI.b), .sl a1.Source.Identity.length 0 (a1.Source.Identity.flatMap eI.b), .sl a1.Source.Composites.length 0 (a1.Source.Composites.flatMap (eS eI).b), iv a1.Target.Objects, .sl a1.Target.From.length 0 (a1.Target.From.flatMap eI.b), .sl a1.Target.To.length 0 (a1.Target.To.flatMap eI.b), .sl a1.Target.Identity.length 0 (a1.Target.Identity.flatMap eI.b), .sl a1.Target.Composites.length 0 (a1.Target.Composites.flatMap (eS eI).b), .sl a1.Objects.length 0 (a1.Objects.flatMap eI.b), .sl a1.Arrows.length 0 (a1.Arrows.flatMap eI.b)] []))] (cc0 ok65 (laws_eqInt64S_c a0.Objects a1.Objects _ hv5) (by kernel_rfl) .nil) (by kernel_rfl) (by kernel_rfl) ?_
      rcases Bool.eq_false_or_eq_true v5 with h6 | h6
      · have hM := ite_true' hM h6
        refine tr_condFe (e := !v5) (congrArg not h6) (by kernel_rfl) ?_
        refine tr_skip (q_n ?_)
        refine tr_seq ?_
        obtain ⟨v7, hv7, hM⟩ := bind_some' hM
        refine tr_sr hT hm [(4, .call [] [] [.sl a0.Arrows.length 0 (a0.Arrows.flatMap eI.b), .sl a1.Arrows.length 0 (a1.Arrows.flatMap eI.b)] [] (bv v7))] [56] [(56, .d (bv (!v7)))] (cc0 ok65 (laws_eqInt64S_c a0.Arrows a1.Arrows _ hv7) (by kernel_rfl) .nil) (by kernel_rfl) (by kernel_rfl) ?_
        rcases Bool.eq_false_or_eq_true v7 with h8 | h8
        · have hM := ite_true' hM h8
          refine tr_condFe (e := !v7) (congrArg not h8) (by kernel_rfl) ?_
          refine tr_skip (q_n ?_)
          refine tr_sr hT hm [] [8] [(8, .d (bv true))] .nil (by kernel_rfl) (by kernel_rfl) ?_
          refine tr_ret (rg_r ?_)
          obtain rfl := Option.some.inj hM
          exact retg (names := []) .nil (by kernel_rfl)
        · have hM := ite_false' hM h8
          refine tr_condTe (e := !v7) (congrArg not h8) (by kernel_rfl) ?_
          refine tr_sr hT hm [] [8] [(8, .d (bv false))] .nil (by kernel_rfl) (by kernel_rfl) ?_
          refine tr_ret (q_r (rg_r ?_))
          obtain rfl := Option.some.inj hM
          exact retg (names := []) .nil (by kernel_rfl)
      · have hM := ite_false' hM h6
        refine tr_condTe (e := !v5) (congrArg not h6) (by kernel_rfl) ?_
        refine tr_sr hT hm [] [8] [(8, .d (bv false))] .nil (by kernel_rfl) (by kernel_rfl) ?_
        refine tr_ret (q_r (rg_r ?_))
        obtain rfl := Option.some.inj hM
        exact retg (names := []) .nil (by kernel_rfl)
    · have hM := ite_false' hM h4
      refine tr_condTe (e := !v3) (congrArg not h4) (by kernel_rfl) ?_
      refine tr_sr hT hm [] [8] [(8, .d (bv false))] .nil (by kernel_rfl) (by kernel_rfl) ?_
      refine tr_ret (q_r (rg_r ?_))
      obtain rfl := Option.some.inj hM
      exact retg (names := []) .nil (by kernel_rfl)
  · have hM := ite_false' hM h2
    refine tr_condTe (e := !v1) (congrArg not h2) (by kernel_rfl) ?_
    refine tr_sr hT hm [] [8] [(8, .d (bv false))] .nil (by kernel_rfl) (by kernel_rfl) ?_
    refine tr_ret (q_r (rg_r ?_))
    obtain rfl := Option.some.inj hM
    exact retg (names := []) .nil (by kernel_rfl)

end Go.Proofs.Ytggojehmbpbefaa
