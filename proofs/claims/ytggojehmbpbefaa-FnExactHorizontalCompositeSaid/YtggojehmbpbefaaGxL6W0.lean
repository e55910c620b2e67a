/- Walks. Printed by wip/gen. -/
import Derived.Test.YtggojehmbpbefaaGxL6W
namespace Go.Proofs.Ytggojehmbpbefaa.L6
open Go.Gx

theorem ok166 : CallOk Try.prog 166 := callOk_of Try.func166 (by kernel_rfl) (by kernel_rfl)
theorem spec_l07Own_c (a0 : XFunctor) (r : XFunctor) (hM : M.spec_l07Own a0 = some r) :
    FnC Try.prog 166 [] [.agg (eXFunctor.b a0)] [] (.agg (eXFunctor.o r)) := by
  refine fnc_startG (N := 12) (np := 500) hT Try.func166 rfl rfl (by kernel_rfl) ?_
  unfold M.spec_l07Own at hM
  refine tr_start (ks := [0]) (st' := [(0, .d (.agg (eXFunctor.b a0)))]) (by kernel_rfl) ?_
  refine tr_sr hT hm [] [2, 4, 2003, 2005] [(2, .d (.rp 1001 0)), (4, .d (.rp 1002 0)), bxB 2003 (eXFunctor.b a0), (2005, .r (.arr 1 [iv 0, nilv, nilv, nilv, nilv, iv 0, nilv, nilv, nilv, nilv, nilv, nilv] []))] .nil (by kernel_rfl) (by kernel_rfl) ?_
  obtain ⟨v1, hv1, hM⟩ := bind_some' hM
  refine tr_sr hT hm [(8, .call [] [] [.agg [iv a0.Source.Objects, .sl a0.Source.From.length 0 (a0.Source.From.flatMap eI.b), .sl a0.Source.To.length 0 (a0.Source.To.flatMap eI.b), .sl a0.Source.Identity.length 0 (a0.Source.Identity.flatMap eI.b), .sl a0.Source.Composites.length 0 (a0.Source.Composites.flatMap (eS eI).b)], .agg [iv a0.Target.Objects, .sl a0.Target.From.length 0 (a0.Target.From.flatMap eI.b), .sl a0.Target.To.length 0 (a0.Target.To.flatMap eI.b), .sl a0.Target.Identity.length 0 (a0.Target.Identity.flatMap eI.b), .sl a0.Target.Composites.length 0 (a0.Target.Composites.flatMap (eS eI).b)], .sl a0.Objects.length 0 (a0.Objects.flatMap eI.b), .sl a0.Arrows.length 0 (a0.Arrows.flatMap eI.b)] [] (.agg (eXFunctor.o v1)))] [4, 2005, 26003, 26005, 26007, 26009, 26013, 26015, 26017, 26019, 26021, 26023] ([(4, .d (.rp 1002 0)), bxO 2005 13000 (eXFunctor.o v1)] ++ rsS 13000 (eXFunctor.o v1)) (cc0 ok111 (spec_l06Make_c a0.Source a0.Target a0.Objects a0.Arrows _ hv1) (by kernel_rfl) (.cons (Nat.le_of_ble_eq_true (n := 12) (m := 12) rfl) .nil)) (by kernel_rfl) (by kernel_rfl) ?_
  refine tr_ret (rg_r ?_)
  obtain rfl := Option.some.inj hM
  exact retg (names := []) (.cons (lenO_flat eI_ok v1.Source.From) (.cons (lenO_flat eI_ok v1.Source.To) (.cons (lenO_flat eI_ok v1.Source.Identity) (.cons (lenO_flat (eS_ok eI_ok) v1.Source.Composites) (.cons (lenO_flat eI_ok v1.Target.From) (.cons (lenO_flat eI_ok v1.Target.To) (.cons (lenO_flat eI_ok v1.Target.Identity) (.cons (lenO_flat (eS_ok eI_ok) v1.Target.Composites) (.cons (lenO_flat eI_ok v1.Objects) (.cons (lenO_flat eI_ok v1.Arrows) .nil)))))))))) (by kernel_rfl)

theorem ok97 : CallOk Try.prog 97 := callOk_of Try.func97 (by kernel_rfl) (by kernel_rfl)
theorem spec_l07Make_c (a0 : XFunctor) (a1 : XFunctor) (a2 : List Int) (r : XTransformation) (hM : M.spec_l07Make a0 a1 a2 = some r) :
    FnC Try.prog 97 [] [.agg (eXFunctor.b a0), .agg (eXFunctor.b a1), .sl a2.length 0 (a2.flatMap eI.b)] [] (.agg (eXTransformation.o r)) := by
  refine fnc_startG (N := 14) (np := 500) hT Try.func97 rfl rfl (by kernel_rfl) ?_
  unfold M.spec_l07Make at hM
  refine tr_start (ks := [0, 2, 4]) (st' := [(0, .d (.agg (eXFunctor.b a0))), (2, .d (.agg (eXFunctor.b a1))), (4, .d (.sl a2.length 0 (a2.flatMap eI.b)))]) (by kernel_rfl) ?_
  refine tr_sr hT hm [] [4, 6, 8, 12, 2007, 2009, 2013] [(4, .d (.sl a2.length 0 (a2.flatMap eI.b))), (6, .d (.rp 1003 0)), (8, .d (.rp 1004 0)), (12, .d (.rp 1006 0)), bxB 2007 (eXFunctor.b a0), bxB 2009 (eXFunctor.b a1), (2013, .r (.arr 1 [iv 0, nilv, nilv, nilv, nilv, iv 0, nilv, nilv, nilv, nilv, nilv, nilv, iv 0, nilv, nilv, nilv, nilv, iv 0, nilv, nilv, nilv, nilv, nilv, nilv, nilv] []))] .nil (by kernel_rfl) (by kernel_rfl) ?_
  obtain ⟨v1, hv1, hM⟩ := bind_some' hM
  obtain ⟨v2, hv2, hM⟩ := bind_some' hM
  obtain ⟨v3, hv3, hM⟩ := bind_some' hM
  refine tr_sr hT hm [(1, .call [] [] [.agg [iv a0.Source.Objects, .sl a0.Source.From.length 0 (a0.Source.From.flatMap eI.b), .sl a0.Source.To.length 0 (a0.Source.To.flatMap eI.b), .sl a0.Source.Identity.length 0 (a0.Source.Identity.flatMap eI.b), .sl a0.Source.Composites.length 0 (a0.Source.Composites.flatMap (eS eI).b), iv a0.Target.Objects, .sl a0.Target.From.length 0 (a0.Target.From.flatMap eI.b), .sl a0.Target.To.length 0 (a0.Target.To.flatMap eI.b), .sl a0.Target.Identity.length 0 (a0.Target.Identity.flatMap eI.b), .sl a0.Target.Composites.length 0 (a0.Target.Composites.flatMap (eS eI).b), .sl a0.Objects.length 0 (a0.Objects.flatMap eI.b), .sl a0.Arrows.length 0 (a0.Arrows.flatMap eI.b)]] [] (.agg (eXFunctor.o v1))), (3, .call [] [] [.agg [iv a1.Source.Objects, .sl a1.Source.From.length 0 (a1.Source.From.flatMap eI.b), .sl a1.Source.To.length 0 (a1.Source.To.flatMap eI.b), .sl a1.Source.Identity.length 0 (a1.Source.Identity.flatMap eI.b), .sl a1.Source.Composites.length 0 (a1.Source.Composites.flatMap (eS eI).b), iv a1.Target.Objects, .sl a1.Target.From.length 0 (a1.Target.From.flatMap eI.b), .sl a1.Target.To.length 0 (a1.Target.To.flatMap eI.b), .sl a1.Target.Identity.length 0 (a1.Target.Identity.flatMap eI.b), .sl a1.Target.Composites.length 0 (a1.Target.Composites.flatMap (eS eI).b), .sl a1.Objects.length 0 (a1.Objects.flatMap eI.b), .sl a1.Arrows.length 0 (a1.Arrows.flatMap eI.b)]] [] (.agg (eXFunctor.o v2))), (5, .call [] [] [.sl a2.length 0 (a2.flatMap eI.b)] [] (.fr 1 v3.length (v3.flatMap eI.o)))] [12, 2013, 20003, 20005, 20007, 20009, 20013, 20015, 20017, 20019, 20021, 20023, 24003, 24005, 24007, 24009, 24013, 24015, 24017, 24019, 24021, 24023, 28001] ([(12, .d (.rp 1006 0)), (2013, .r (.arr 1 [iv v1.Source.Objects, .rs 10001 0 v1.Source.From.length, .rs 10002 0 v1.Source.To.length, .rs 10003 0 v1.Source.Identity.length, .rs 10004 0 v1.Source.Composites.length, iv v1.Target.Objects, .rs 10006 0 v1.Target.From.length, .rs 10007 0 v1.Target.To.length, .rs 10008 0 v1.Target.Identity.length, .rs 10009 0 v1.Target.Composites.length, .rs 10010 0 v1.Objects.length, .rs 10011 0 v1.Arrows.length, iv v2.Source.Objects, .rs 12001 0 v2.Source.From.length, .rs 12002 0 v2.Source.To.length, .rs 12003 0 v2.Source.Identity.length, .rs 12004 0 v2.Source.Composites.length, iv v2.Target.Objects, .rs 12006 0 v2.Target.From.length, .rs 12007 0 v2.Target.To.length, .rs 12008 0 v2.Target.Identity.length, .rs 12009 0 v2.Target.Composites.length, .rs 12010 0 v2.Objects.length, .rs 12011 0 v2.Arrows.length, .rs 14000 0 v3.length] [10001, 10002, 10003, 10004, 10006, 10007, 10008, 10009, 10010, 10011, 12001, 12002, 12003, 12004, 12006, 12007, 12008, 12009, 12010, 12011, 14000]))] ++ rsS 10000 (eXFunctor.o v1) ++ rsS 12000 (eXFunctor.o v2) ++ [(28001, .r (.arr 1 (v3.flatMap eI.o) []))]) (cc0 ok166 (spec_l07Own_c a0 _ hv1) (by kernel_rfl) (cc0 ok166 (spec_l07Own_c a1 _ hv2) (by kernel_rfl) (cc0 ok126 (spec_l01Own_c a2 _ hv3) (by kernel_rfl) (.cons (Nat.le_of_ble_eq_true (n := 25) (m := 25) rfl) .nil)))) (by kernel_rfl) (by kernel_rfl) ?_
  refine tr_ret (rg_r ?_)
  obtain rfl := Option.some.inj hM
  exact retg (names := []) (.cons (lenO_flat eI_ok v1.Source.From) (.cons (lenO_flat eI_ok v1.Source.To) (.cons (lenO_flat eI_ok v1.Source.Identity) (.cons (lenO_flat (eS_ok eI_ok) v1.Source.Composites) (.cons (lenO_flat eI_ok v1.Target.From) (.cons (lenO_flat eI_ok v1.Target.To) (.cons (lenO_flat eI_ok v1.Target.Identity) (.cons (lenO_flat (eS_ok eI_ok) v1.Target.Composites) (.cons (lenO_flat eI_ok v1.Objects) (.cons (lenO_flat eI_ok v1.Arrows) (.cons (lenO_flat eI_ok v2.Source.From) (.cons (lenO_flat eI_ok v2.Source.To) (.cons (lenO_flat eI_ok v2.Source.Identity) (.cons (lenO_flat (eS_ok eI_ok) v2.Source.Composites) (.cons (lenO_flat eI_ok v2.Target.From) (.cons (lenO_flat eI_ok v2.Target.To) (.cons (lenO_flat eI_ok v2.Target.Identity) (.cons (lenO_flat (eS_ok eI_ok) v2.Target.Composites) (.cons (lenO_flat eI_ok v2.Objects) (.cons (lenO_flat eI_ok v2.Arrows) (.cons (lenO_flat eI_ok v3) .nil))))))))))))))))))))) (by kernel_rfl)

theorem ok167 : CallOk Try.prog 167 := callOk_of Try.func167 (by kernel_rfl) (by kernel_rfl)
theorem spec_l01Then_c (a0 : List Int) (a1 : List Int) (r : (List Int)) (hM : M.spec_l01Then a0 a1 = some r) :
    FnC Try.prog 167 [] [.sl a0.length 0 (a0.flatMap eI.b), .sl a1.length 0 (a1.flatMap eI.b)] [] (.fr 1 r.length (r.flatMap eI.o)) := by
  refine fnc_startG (N := 25) (np := 500) hT Try.func167 rfl rfl (by kernel_rfl) ?_
  unfold M.spec_l01Then at hM
  refine tr_start (ks := [0, 2]) (st' := [(0, .d (.sl a0.length 0 (a0.flatMap eI.b))), (2, .d (.sl a1.length 0 (a1.flatMap eI.b)))]) (by kernel_rfl) ?_
  refine tr_sr hT hm [] [0, 2] [(0, .d (.sl a0.length 0 (a0.flatMap eI.b))), (2, .d (.sl a1.length 0 (a1.flatMap eI.b)))] .nil (by kernel_rfl) (by kernel_rfl) ?_
  refine tr_sr hT hm [] [0, 2, 10, 2015] [(0, .d (.sl a0.length 0 (a0.flatMap eI.b))), (2, .d (.sl a1.length 0 (a1.flatMap eI.b))), (10, .d (.rs 1007 0 (([] : List Int).length))), (2015, .r (.arr 1 (([] : List Int).flatMap eI.o) []))] .nil (by kernel_rfl) (by kernel_rfl) ?_
  refine tr_seq ?_
  refine tr_sr hT hm [] [0, 2, 10, 12, 2015] [(0, .d (.sl a0.length 0 (a0.flatMap eI.b))), (2, .d (.sl a1.length 0 (a1.flatMap eI.b))), (10, .d (.rs 1007 0 (([] : List Int).length))), (12, .d (iv 0)), (2015, .r (.arr 1 (([] : List Int).flatMap eI.o) []))] .nil (by kernel_rfl) (by kernel_rfl) ?_
  refine tr_block ?_
  refine tr_iterS (fun (s1 : (List Int) × Int) => [(0, .d (.sl a0.length 0 (a0.flatMap eI.b))), (2, .d (.sl a1.length 0 (a1.flatMap eI.b))), (10, .d (.rs 1007 0 s1.1.length)), (12, .d (iv s1.2)), (2015, .r (.arr 1 (s1.1.flatMap eI.o) []))]) (([] : List Int), 0) [0, 2, 10, 12, 2015] (by kernel_rfl) hM ?_
  intro n4 next2 ih3 s1 hM
  refine tr_seq ?_
  refine tr_sr hT hm [] [0, 2, 10, 12, 22, 2015] [(0, .d (.sl a0.length 0 (a0.flatMap eI.b))), (2, .d (.sl a1.length 0 (a1.flatMap eI.b))), (10, .d (.rs 1007 0 s1.1.length)), (12, .d (iv s1.2)), (22, .d (bv (decide (s1.2 < (a0.length : Int))))), (2015, .r (.arr 1 (s1.1.flatMap eI.o) []))] .nil (by kernel_rfl) (by kernel_rfl) ?_
  rcases Bool.eq_false_or_eq_true (decide (s1.2 < (a0.length : Int))) with h5 | h5
  · have hM := ite_true' hM h5
    refine tr_condTe (e := decide (s1.2 < (a0.length : Int))) h5 (by kernel_rfl) ?_
    refine tr_skip (q_n ?_)
    refine tr_seq ?_
    refine tr_block ?_
    obtain ⟨y6, hy6, hM⟩ := bind_some' hM
    have hy6' := idx_some hy6
    obtain ⟨y7, hy7, hM⟩ := bind_some' hM
    have hy7' := idx_some hy7
    obtain ⟨h8, hM⟩ := chk_some hM
    refine tr_r hT hm [(5, .val (iv y6)), (7, .val (iv y7)), (9, .app true)] [0, 2, 10, 12, 2047] [(0, .d (.sl a0.length 0 (a0.flatMap eI.b))), (2, .d (.sl a1.length 0 (a1.flatMap eI.b))), (10, .d (.rs 1023 0 (s1.1.length + (([y7] : List Int).length)))), (12, .d (iv s1.2)), (2047, .r (.arr 1 (s1.1.flatMap eI.o ++ ([y7] : List Int).flatMap eI.o) []))] (.cons hy6'.1 (.cons hy6'.2.1 (.cons (at_b0 eI_ok hy6'.2.2 (d := iv y6) (by kernel_rfl)) (.cons hy7'.1 (.cons hy7'.2.1 (.cons (at_b0 eI_ok hy7'.2.2 (d := iv y7) (by kernel_rfl)) (.cons (lenO_flat eI_ok s1.1) (.cons (lenO_flat eI_ok ([y7] : List Int)) (.cons h8 .nil))))))))) (by kernel_rfl) (by kernel_rfl) (b_n (q_n ?_))
    refine Tr.by (imp_cvE (r := 1023) (sz := 1) (refs := []) (flat_app eI.o s1.1 ([y7] : List Int)) (menO_flat eI_ok _) (by kernel_rfl)) ?_
    refine Tr.by (imp_cvD (k := 10) (congrArg (D.rs 1023 0) ((len_app s1.1 ([y7] : List Int)) : s1.1.length + (([y7] : List Int).length) = (s1.1 ++ ([y7] : List Int)).length)) (by kernel_rfl)) ?_
    refine tr_r hT hm [] [0, 2, 10, 12, 2047] [(0, .d (.sl a0.length 0 (a0.flatMap eI.b))), (2, .d (.sl a1.length 0 (a1.flatMap eI.b))), (10, .d (.rs 1023 0 ((s1.1 ++ ([y7] : List Int)).length))), (12, .d (iv (IntKind.i64.wrap (s1.2 + 1)))), (2047, .r (.arr 1 ((s1.1 ++ ([y7] : List Int)).flatMap eI.o) []))] .nil (by kernel_rfl) (by kernel_rfl) (l_n ?_)
    refine TrL.by (imp_sel (ks := [0, 2, 10, 12, 2047]) (st' := [(0, .d (.sl a0.length 0 (a0.flatMap eI.b))), (2, .d (.sl a1.length 0 (a1.flatMap eI.b))), (10, .d (.rs 1023 0 ((s1.1 ++ ([y7] : List Int)).length))), (12, .d (iv (IntKind.i64.wrap (s1.2 + 1)))), (2047, .r (.arr 1 ((s1.1 ++ ([y7] : List Int)).flatMap eI.o) []))]) (by kernel_rfl)) ?_
    refine TrL.by (imp_rename (r := 1023) (q := 1007) (by kernel_rfl) (Nat.le_of_ble_eq_true rfl)) ?_
    exact trl_start (ks := [0, 2, 10, 12, 2015]) (by kernel_rfl) (ih3 (s1.1 ++ ([y7] : List Int), IntKind.i64.wrap (s1.2 + 1)) hM)
  · have hM := ite_false' hM h5
    refine tr_condFe (e := decide (s1.2 < (a0.length : Int))) h5 (by kernel_rfl) ?_
    refine tr_exit (q_x (l_x (b_h (q_n ?_))))
    refine tr_sr hT hm [] [8, 2015] [(8, .d (.rs 1007 0 s1.1.length)), (2015, .r (.arr 1 (s1.1.flatMap eI.o) []))] .nil (by kernel_rfl) (by kernel_rfl) ?_
    refine tr_ret (rg_r ?_)
    obtain rfl := Option.some.inj hM
    exact retg (names := []) (.cons (lenO_flat eI_ok s1.1) .nil) (by kernel_rfl)

theorem ok98 : CallOk Try.prog 98 := callOk_of Try.func98 (by kernel_rfl) (by kernel_rfl)
theorem spec_l07Self_c (a0 : XFunctor) (r : (List Int)) (hM : M.spec_l07Self a0 = some r) :
    FnC Try.prog 98 [] [.agg (eXFunctor.b a0)] [] (.fr 1 r.length (r.flatMap eI.o)) := by
  refine fnc_startG (N := 9) (np := 500) hT Try.func98 rfl rfl (by kernel_rfl) ?_
  unfold M.spec_l07Self at hM
  refine tr_start (ks := [0]) (st' := [(0, .d (.agg (eXFunctor.b a0)))]) (by kernel_rfl) ?_
  refine tr_sr hT hm [] [2, 2003] [(2, .d (.rp 1001 0)), bxB 2003 (eXFunctor.b a0)] .nil (by kernel_rfl) (by kernel_rfl) ?_
  obtain ⟨v1, hv1, hM⟩ := bind_some' hM
  refine tr_sr hT hm [(5, .call [] [] [.sl a0.Objects.length 0 (a0.Objects.flatMap eI.b), .sl a0.Target.Identity.length 0 (a0.Target.Identity.flatMap eI.b)] [] (.fr 1 v1.length (v1.flatMap eI.o)))] [4, 20001] [(4, .d (.rs 10000 0 v1.length)), (20001, .r (.arr 1 (v1.flatMap eI.o) []))] (cc0 ok167 (spec_l01Then_c a0.Objects a0.Target.Identity _ hv1) (by kernel_rfl) .nil) (by kernel_rfl) (by kernel_rfl) ?_
  refine tr_ret (rg_r ?_)
  obtain rfl := Option.some.inj hM
  exact retg (names := []) (.cons (lenO_flat eI_ok v1) .nil) (by kernel_rfl)

theorem ok36 : CallOk Try.prog 36 := callOk_of Try.func36 (by kernel_rfl) (by kernel_rfl)
theorem spec_IdentityTransformation_c (a0 : XFunctor) (r : XTransformation × Int) (hM : M.spec_IdentityTransformation a0 = some r) :
    FnC Try.prog 36 [] [.agg (eXFunctor.b a0)] [] (.tup [.agg (eXTransformation.o r.1), iv r.2]) := by
  refine fnc_startG (N := 13) (np := 500) hT Try.func36 rfl rfl (by kernel_rfl) ?_
  unfold M.spec_IdentityTransformation at hM
  refine tr_start (ks := [0]) (st' := [(0, .d (.agg (eXFunctor.b a0)))]) (by kernel_rfl) ?_
  refine tr_sr hT hm [] [2, 4, 2003, 2005] [(2, .d (.rp 1001 0)), (4, .d (.rp 1002 0)), bxB 2003 (eXFunctor.b a0), (2005, .r (.arr 1 [iv 0, nilv, nilv, nilv, nilv, iv 0, nilv, nilv, nilv, nilv, nilv, nilv, iv 0, nilv, nilv, nilv, nilv, iv 0, nilv, nilv, nilv, nilv, nilv, nilv, nilv] []))] .nil (by kernel_rfl) (by kernel_rfl) ?_
  refine tr_seq ?_
  obtain ⟨v1, hv1, hM⟩ := bind_some' hM
  refine tr_sr hT hm [(1, .call [] [] [.agg [iv a0.Source.Objects, .sl a0.Source.From.length 0 (a0.Source.From.flatMap eI.b), .sl a0.Source.To.length 0 (a0.Source.To.flatMap eI.b), .sl a0.Source.Identity.length 0 (a0.Source.Identity.flatMap eI.b), .sl a0.Source.Composites.length 0 (a0.Source.Composites.flatMap (eS eI).b), iv a0.Target.Objects, .sl a0.Target.From.length 0 (a0.Target.From.flatMap eI.b), .sl a0.Target.To.length 0 (a0.Target.To.flatMap eI.b), .sl a0.Target.Identity.length 0 (a0.Target.Identity.flatMap eI.b), .sl a0.Target.Composites.length 0 (a0.Target.Composites.flatMap (eS eI).b), .sl a0.Objects.length 0 (a0.Objects.flatMap eI.b), .sl a0.Arrows.length 0 (a0.Arrows.flatMap eI.b)]] [] (bv v1))] [2, 4, 12, 2003, 2005] [(2, .d (.rp 1001 0)), (4, .d (.rp 1002 0)), (12, .d (bv (!v1))), bxB 2003 (eXFunctor.b a0), (2005, .r (.arr 1 [iv 0, nilv, nilv, nilv, nilv, iv 0, nilv, nilv, nilv, nilv, nilv, nilv, iv 0, nilv, nilv, nilv, nilv, iv 0, nilv, nilv, nilv, nilv, nilv, nilv, nilv] []))] (cc0 ok81 (spec_l06Is_c a0 _ hv1) (by kernel_rfl) .nil) (by kernel_rfl) (by kernel_rfl) ?_
  rcases Bool.eq_false_or_eq_true v1 with h2 | h2
  · have hM := ite_true' hM h2
    refine tr_condFe (e := !v1) (congrArg not h2) (by kernel_rfl) ?_
    refine tr_skip (q_n ?_)
    obtain ⟨v3, hv3, hM⟩ := bind_some' hM
    obtain ⟨v4, hv4, hM⟩ := bind_some' hM
    refine tr_sr hT hm [(3, .call [] [] [.agg [iv a0.Source.Objects, .sl a0.Source.From.length 0 (a0.Source.From.flatMap eI.b), .sl a0.Source.To.length 0 (a0.Source.To.flatMap eI.b), .sl a0.Source.Identity.length 0 (a0.Source.Identity.flatMap eI.b), .sl a0.Source.Composites.length 0 (a0.Source.Composites.flatMap (eS eI).b), iv a0.Target.Objects, .sl a0.Target.From.length 0 (a0.Target.From.flatMap eI.b), .sl a0.Target.To.length 0 (a0.Target.To.flatMap eI.b), .sl a0.Target.Identity.length 0 (a0.Target.Identity.flatMap eI.b), .sl a0.Target.Composites.length 0 (a0.Target.Composites.flatMap (eS eI).b), .sl a0.Objects.length 0 (a0.Objects.flatMap eI.b), .sl a0.Arrows.length 0 (a0.Arrows.flatMap eI.b)]] [] (.fr 1 v3.length (v3.flatMap eI.o))), (4, .call [13000] [] [.agg [iv a0.Source.Objects, .sl a0.Source.From.length 0 (a0.Source.From.flatMap eI.b), .sl a0.Source.To.length 0 (a0.Source.To.flatMap eI.b), .sl a0.Source.Identity.length 0 (a0.Source.Identity.flatMap eI.b), .sl a0.Source.Composites.length 0 (a0.Source.Composites.flatMap (eS eI).b), iv a0.Target.Objects, .sl a0.Target.From.length 0 (a0.Target.From.flatMap eI.b), .sl a0.Target.To.length 0 (a0.Target.To.flatMap eI.b), .sl a0.Target.Identity.length 0 (a0.Target.Identity.flatMap eI.b), .sl a0.Target.Composites.length 0 (a0.Target.Composites.flatMap (eS eI).b), .sl a0.Objects.length 0 (a0.Objects.flatMap eI.b), .sl a0.Arrows.length 0 (a0.Arrows.flatMap eI.b)], .agg [iv a0.Source.Objects, .sl a0.Source.From.length 0 (a0.Source.From.flatMap eI.b), .sl a0.Source.To.length 0 (a0.Source.To.flatMap eI.b), .sl a0.Source.Identity.length 0 (a0.Source.Identity.flatMap eI.b), .sl a0.Source.Composites.length 0 (a0.Source.Composites.flatMap (eS eI).b), iv a0.Target.Objects, .sl a0.Target.From.length 0 (a0.Target.From.flatMap eI.b), .sl a0.Target.To.length 0 (a0.Target.To.flatMap eI.b), .sl a0.Target.Identity.length 0 (a0.Target.Identity.flatMap eI.b), .sl a0.Target.Composites.length 0 (a0.Target.Composites.flatMap (eS eI).b), .sl a0.Objects.length 0 (a0.Objects.flatMap eI.b), .sl a0.Arrows.length 0 (a0.Arrows.flatMap eI.b)], .sl v3.length 0 (v3.flatMap eI.b)] [] (.agg (eXTransformation.o v4)))] [4, 6, 2005, 28003, 28005, 28007, 28009, 28013, 28015, 28017, 28019, 28021, 28023, 28027, 28029, 28031, 28033, 28037, 28039, 28041, 28043, 28045, 28047, 28049] ([(4, .d (.rp 1002 0)), (6, .d (iv 0)), bxO 2005 14000 (eXTransformation.o v4)] ++ rsS 14000 (eXTransformation.o v4)) (cc0 ok98 (spec_l07Self_c a0 _ hv3) (by kernel_rfl) (cc (B := [13000]) (ρ := []) (rB := [(13000, .arr 1 (v3.flatMap eI.o) [])]) ok97 (spec_l07Make_c a0 a0 v3 _ hv4) (.cons (.same rfl) (.cons (.same rfl) (.cons (.of1 (.rs (r := 13000) (sz := 1) (refs := []) (memB (by kernel_rfl)) (by kernel_rfl) (bor_flat eI_ok _ _ _))) .nil))) (.inr ⟨(.agg (eXTransformation_nb _)), trivial⟩) (.cons (Nat.le_of_ble_eq_true (n := 25) (m := 25) rfl) .nil))) (by kernel_rfl) (by kernel_rfl) ?_
    refine tr_ret (rg_r ?_)
    obtain rfl := Option.some.inj hM
    exact retg (names := []) (.cons (lenO_flat eI_ok v4.Source.Source.From) (.cons (lenO_flat eI_ok v4.Source.Source.To) (.cons (lenO_flat eI_ok v4.Source.Source.Identity) (.cons (lenO_flat (eS_ok eI_ok) v4.Source.Source.Composites) (.cons (lenO_flat eI_ok v4.Source.Target.From) (.cons (lenO_flat eI_ok v4.Source.Target.To) (.cons (lenO_flat eI_ok v4.Source.Target.Identity) (.cons (lenO_flat (eS_ok eI_ok) v4.Source.Target.Composites) (.cons (lenO_flat eI_ok v4.Source.Objects) (.cons (lenO_flat eI_ok v4.Source.Arrows) (.cons (lenO_flat eI_ok v4.Target.Source.From) (.cons (lenO_flat eI_ok v4.Target.Source.To) (.cons (lenO_flat eI_ok v4.Target.Source.Identity) (.cons (lenO_flat (eS_ok eI_ok) v4.Target.Source.Composites) (.cons (lenO_flat eI_ok v4.Target.Target.From) (.cons (lenO_flat eI_ok v4.Target.Target.To) (.cons (lenO_flat eI_ok v4.Target.Target.Identity) (.cons (lenO_flat (eS_ok eI_ok) v4.Target.Target.Composites) (.cons (lenO_flat eI_ok v4.Target.Objects) (.cons (lenO_flat eI_ok v4.Target.Arrows) (.cons (lenO_flat eI_ok v4.Components) .nil))))))))))))))))))))) (by kernel_rfl)
  · have hM := ite_false' hM h2
    refine tr_condTe (e := !v1) (congrArg not h2) (by kernel_rfl) ?_
    refine tr_sr hT hm [] [4, 6, 2005] [(4, .d (.rp 1002 0)), (6, .d (iv 1)), (2005, .r (.arr 1 [iv 0, nilv, nilv, nilv, nilv, iv 0, nilv, nilv, nilv, nilv, nilv, nilv, iv 0, nilv, nilv, nilv, nilv, iv 0, nilv, nilv, nilv, nilv, nilv, nilv, nilv] []))] (.cons (Nat.le_of_ble_eq_true (n := 25) (m := 25) rfl) .nil) (by kernel_rfl) (by kernel_rfl) ?_
    refine tr_ret (q_r (rg_r ?_))
    refine RetG.by (imp_cvB (r := 1002) (sz := 1) (cells := [iv 0, nilv, nilv, nilv, nilv, iv 0, nilv, nilv, nilv, nilv, nilv, nilv, iv 0, nilv, nilv, nilv, nilv, iv 0, nilv, nilv, nilv, nilv, nilv, nilv, nilv]) (cells' := [iv 0, .fr 1 ([] : List Int).length (([] : List Int).flatMap eI.o), .fr 1 ([] : List Int).length (([] : List Int).flatMap eI.o), .fr 1 ([] : List Int).length (([] : List Int).flatMap eI.o), .fr 1 ([] : List (List Int)).length (([] : List (List Int)).flatMap (eS eI).o), iv 0, .fr 1 ([] : List Int).length (([] : List Int).flatMap eI.o), .fr 1 ([] : List Int).length (([] : List Int).flatMap eI.o), .fr 1 ([] : List Int).length (([] : List Int).flatMap eI.o), .fr 1 ([] : List (List Int)).length (([] : List (List Int)).flatMap (eS eI).o), .fr 1 ([] : List Int).length (([] : List Int).flatMap eI.o), .fr 1 ([] : List Int).length (([] : List Int).flatMap eI.o), iv 0, .fr 1 ([] : List Int).length (([] : List Int).flatMap eI.o), .fr 1 ([] : List Int).length (([] : List Int).flatMap eI.o), .fr 1 ([] : List Int).length (([] : List Int).flatMap eI.o), .fr 1 ([] : List (List Int)).length (([] : List (List Int)).flatMap (eS eI).o), iv 0, .fr 1 ([] : List Int).length (([] : List Int).flatMap eI.o), .fr 1 ([] : List Int).length (([] : List Int).flatMap eI.o), .fr 1 ([] : List Int).length (([] : List Int).flatMap eI.o), .fr 1 ([] : List (List Int)).length (([] : List (List Int)).flatMap (eS eI).o), .fr 1 ([] : List Int).length (([] : List Int).flatMap eI.o), .fr 1 ([] : List Int).length (([] : List Int).flatMap eI.o), .fr 1 ([] : List Int).length (([] : List Int).flatMap eI.o)]) (refs := []) (refs' := []) (.cons (.refl _) (.cons Sub.nil_fr (.cons Sub.nil_fr (.cons Sub.nil_fr (.cons Sub.nil_fr (.cons (.refl _) (.cons Sub.nil_fr (.cons Sub.nil_fr (.cons Sub.nil_fr (.cons Sub.nil_fr (.cons Sub.nil_fr (.cons Sub.nil_fr (.cons (.refl _) (.cons Sub.nil_fr (.cons Sub.nil_fr (.cons Sub.nil_fr (.cons Sub.nil_fr (.cons (.refl _) (.cons Sub.nil_fr (.cons Sub.nil_fr (.cons Sub.nil_fr (.cons Sub.nil_fr (.cons Sub.nil_fr (.cons Sub.nil_fr (.cons Sub.nil_fr .nil))))))))))))))))))))))))) (by kernel_rfl) (by kernel_rfl) (by kernel_rfl)) ?_
    obtain rfl := Option.some.inj hM
    exact retg (names := []) .nil (by kernel_rfl)

theorem ok168 : CallOk Try.prog 168 := callOk_of Try.func168 (by kernel_rfl) (by kernel_rfl)
theorem impl_Functor_copy_c (a0 : XFunctor) (r : XFunctor) (hM : M.impl_Functor_copy a0 = some r) :
    FnC Try.prog 168 [] [.pt (eXFunctor.b a0) 0] [] (.agg (eXFunctor.o r)) := by
  refine fnc_startG (N := 18) (np := 500) hT Try.func168 rfl rfl (by kernel_rfl) ?_
  unfold M.impl_Functor_copy at hM
  refine tr_start (ks := [0]) (st' := [(0, .d (.pt (eXFunctor.b a0) 0))]) (by kernel_rfl) ?_
  refine tr_sr hT hm [] [0, 4, 2005] [(0, .d (.pt (eXFunctor.b a0) 0)), (4, .d (.rp 1002 0)), (2005, .r (.arr 1 [iv 0, nilv, nilv, nilv, nilv, iv 0, nilv, nilv, nilv, nilv, nilv, nilv] []))] .nil (by kernel_rfl) (by kernel_rfl) ?_
  obtain ⟨v1, hv1, hM⟩ := bind_some' hM
  refine tr_sr hT hm [(14, .call [] [] [.pt (eXCategory.b a0.Source) 0, .pt (eXCategory.b a0.Target) 0, .sl a0.Objects.length 0 (a0.Objects.flatMap eI.b), .sl a0.Arrows.length 0 (a0.Arrows.flatMap eI.b)] [] (.agg (eXFunctor.o v1)))] [4, 2005, 38003, 38005, 38007, 38009, 38013, 38015, 38017, 38019, 38021, 38023] ([(4, .d (.rp 1002 0)), bxO 2005 19000 (eXFunctor.o v1)] ++ rsS 19000 (eXFunctor.o v1)) (cc (B := []) (ρ := []) (rB := []) ok114 (impl_functor_c a0.Source a0.Target a0.Objects a0.Arrows _ hv1) (.cons (.pass (.ptk (ds := eXFunctor.b a0) (ds' := eXCategory.b a0.Source) (off := 0) (n := 5) (by kernel_rfl) (by kernel_rfl) (by kernel_rfl))) (.cons (.pass (.ptk (ds := eXFunctor.b a0) (ds' := eXCategory.b a0.Target) (off := 5) (n := 5) (by kernel_rfl) (by kernel_rfl) (by kernel_rfl))) (.cons (.same rfl) (.cons (.same rfl) .nil)))) (.inl rfl) (.cons (Nat.le_of_ble_eq_true (n := 12) (m := 12) rfl) .nil)) (by kernel_rfl) (by kernel_rfl) ?_
  refine tr_ret (rg_r ?_)
  obtain rfl := Option.some.inj hM
  exact retg (names := []) (.cons (lenO_flat eI_ok v1.Source.From) (.cons (lenO_flat eI_ok v1.Source.To) (.cons (lenO_flat eI_ok v1.Source.Identity) (.cons (lenO_flat (eS_ok eI_ok) v1.Source.Composites) (.cons (lenO_flat eI_ok v1.Target.From) (.cons (lenO_flat eI_ok v1.Target.To) (.cons (lenO_flat eI_ok v1.Target.Identity) (.cons (lenO_flat (eS_ok eI_ok) v1.Target.Composites) (.cons (lenO_flat eI_ok v1.Objects) (.cons (lenO_flat eI_ok v1.Arrows) .nil)))))))))) (by kernel_rfl)

theorem ok99 : CallOk Try.prog 99 := callOk_of Try.func99 (by kernel_rfl) (by kernel_rfl)
theorem impl_transformation_c (a0 : XFunctor) (a1 : XFunctor) (a2 : List Int) (r : XTransformation) (hM : M.impl_transformation a0 a1 a2 = some r) :
    FnC Try.prog 99 [] [.pt (eXFunctor.b a0) 0, .pt (eXFunctor.b a1) 0, .sl a2.length 0 (a2.flatMap eI.b)] [] (.agg (eXTransformation.o r)) := by
  refine fnc_startG (N := 14) (np := 500) hT Try.func99 rfl rfl (by kernel_rfl) ?_
  unfold M.impl_transformation at hM
  refine tr_start (ks := [0, 2, 4]) (st' := [(0, .d (.pt (eXFunctor.b a0) 0)), (2, .d (.pt (eXFunctor.b a1) 0)), (4, .d (.sl a2.length 0 (a2.flatMap eI.b)))]) (by kernel_rfl) ?_
  refine tr_sr hT hm [] [0, 2, 4, 12, 2013] [(0, .d (.pt (eXFunctor.b a0) 0)), (2, .d (.pt (eXFunctor.b a1) 0)), (4, .d (.sl a2.length 0 (a2.flatMap eI.b))), (12, .d (.rp 1006 0)), (2013, .r (.arr 1 [iv 0, nilv, nilv, nilv, nilv, iv 0, nilv, nilv, nilv, nilv, nilv, nilv, iv 0, nilv, nilv, nilv, nilv, iv 0, nilv, nilv, nilv, nilv, nilv, nilv, nilv] []))] .nil (by kernel_rfl) (by kernel_rfl) ?_
  obtain ⟨v1, hv1, hM⟩ := bind_some' hM
  obtain ⟨v2, hv2, hM⟩ := bind_some' hM
  obtain ⟨v3, hv3, hM⟩ := bind_some' hM
  refine tr_sr hT hm [(1, .call [] [] [.pt (eXFunctor.b a0) 0] [] (.agg (eXFunctor.o v1))), (3, .call [] [] [.pt (eXFunctor.b a1) 0] [] (.agg (eXFunctor.o v2))), (5, .call [] [] [.sl a2.length 0 (a2.flatMap eI.b)] [] (.fr 1 v3.length (v3.flatMap eI.o)))] [12, 2013, 20003, 20005, 20007, 20009, 20013, 20015, 20017, 20019, 20021, 20023, 24003, 24005, 24007, 24009, 24013, 24015, 24017, 24019, 24021, 24023, 28001] ([(12, .d (.rp 1006 0)), (2013, .r (.arr 1 [iv v1.Source.Objects, .rs 10001 0 v1.Source.From.length, .rs 10002 0 v1.Source.To.length, .rs 10003 0 v1.Source.Identity.length, .rs 10004 0 v1.Source.Composites.length, iv v1.Target.Objects, .rs 10006 0 v1.Target.From.length, .rs 10007 0 v1.Target.To.length, .rs 10008 0 v1.Target.Identity.length, .rs 10009 0 v1.Target.Composites.length, .rs 10010 0 v1.Objects.length, .rs 10011 0 v1.Arrows.length, iv v2.Source.Objects, .rs 12001 0 v2.Source.From.length, .rs 12002 0 v2.Source.To.length, .rs 12003 0 v2.Source.Identity.length, .rs 12004 0 v2.Source.Composites.length, iv v2.Target.Objects, .rs 12006 0 v2.Target.From.length, .rs 12007 0 v2.Target.To.length, .rs 12008 0 v2.Target.Identity.length, .rs 12009 0 v2.Target.Composites.length, .rs 12010 0 v2.Objects.length, .rs 12011 0 v2.Arrows.length, .rs 14000 0 v3.length] [10001, 10002, 10003, 10004, 10006, 10007, 10008, 10009, 10010, 10011, 12001, 12002, 12003, 12004, 12006, 12007, 12008, 12009, 12010, 12011, 14000]))] ++ rsS 10000 (eXFunctor.o v1) ++ rsS 12000 (eXFunctor.o v2) ++ [(28001, .r (.arr 1 (v3.flatMap eI.o) []))]) (cc0 ok168 (impl_Functor_copy_c a0 _ hv1) (by kernel_rfl) (cc0 ok168 (impl_Functor_copy_c a1 _ hv2) (by kernel_rfl) (cc0 ok169 (impl_clone_c a2 _ hv3) (by kernel_rfl) (.cons (Nat.le_of_ble_eq_true (n := 25) (m := 25) rfl) .nil)))) (by kernel_rfl) (by kernel_rfl) ?_
  refine tr_ret (rg_r ?_)
  obtain rfl := Option.some.inj hM
  exact retg (names := []) (.cons (lenO_flat eI_ok v1.Source.From) (.cons (lenO_flat eI_ok v1.Source.To) (.cons (lenO_flat eI_ok v1.Source.Identity) (.cons (lenO_flat (eS_ok eI_ok) v1.Source.Composites) (.cons (lenO_flat eI_ok v1.Target.From) (.cons (lenO_flat eI_ok v1.Target.To) (.cons (lenO_flat eI_ok v1.Target.Identity) (.cons (lenO_flat (eS_ok eI_ok) v1.Target.Composites) (.cons (lenO_flat eI_ok v1.Objects) (.cons (lenO_flat eI_ok v1.Arrows) (.cons (lenO_flat eI_ok v2.Source.From) (.cons (lenO_flat eI_ok v2.Source.To) (.cons (lenO_flat eI_ok v2.Source.Identity) (.cons (lenO_flat (eS_ok eI_ok) v2.Source.Composites) (.cons (lenO_flat eI_ok v2.Target.From) (.cons (lenO_flat eI_ok v2.Target.To) (.cons (lenO_flat eI_ok v2.Target.Identity) (.cons (lenO_flat (eS_ok eI_ok) v2.Target.Composites) (.cons (lenO_flat eI_ok v2.Objects) (.cons (lenO_flat eI_ok v2.Arrows) (.cons (lenO_flat eI_ok v3) .nil))))))))))))))))))))) (by kernel_rfl)

theorem ok100 : CallOk Try.prog 100 := callOk_of Try.func100 (by kernel_rfl) (by kernel_rfl)
theorem impl_then_c (a0 : List Int) (a1 : List Int) (r : (List Int)) (hM : M.impl_then a0 a1 = some r) :
    FnC Try.prog 100 [] [.sl a0.length 0 (a0.flatMap eI.b), .sl a1.length 0 (a1.flatMap eI.b)] [] (.fr 1 r.length (r.flatMap eI.o)) := by
  refine fnc_startG (N := 27) (np := 500) hT Try.func100 rfl rfl (by kernel_rfl) ?_
  unfold M.impl_then at hM
  refine tr_start (ks := [0, 2]) (st' := [(0, .d (.sl a0.length 0 (a0.flatMap eI.b))), (2, .d (.sl a1.length 0 (a1.flatMap eI.b)))]) (by kernel_rfl) ?_
  refine tr_sr hT hm [] [0, 2] [(0, .d (.sl a0.length 0 (a0.flatMap eI.b))), (2, .d (.sl a1.length 0 (a1.flatMap eI.b)))] .nil (by kernel_rfl) (by kernel_rfl) ?_
  obtain ⟨h1, hM⟩ := chk_some hM
  refine tr_sr hT hm [] [0, 2, 10, 2021] [(0, .d (.sl a0.length 0 (a0.flatMap eI.b))), (2, .d (.sl a1.length 0 (a1.flatMap eI.b))), (10, .d (.rs 1010 0 ((a0.length : Int).toNat))), (2021, .r (.arr 1 (repl (a0.length : Int).toNat [.int .i64 0]) []))] (.cons h1.1 (.cons (Int.le_refl (a0.length : Int)) (.cons h1.2 .nil))) (by kernel_rfl) (by kernel_rfl) ?_
  refine Tr.by (imp_cvE (r := 1010) (sz := 1) (refs := []) (repl_flat (f := eI.o) (zs := [.int .i64 0]) (z := (0 : Int)) rfl (a0.length : Int).toNat) (menO_flat eI_ok _) (by kernel_rfl)) ?_
  refine Tr.by (imp_cvD (k := 10) (congrArg (D.rs 1010 0) (List.length_replicate.symm : (a0.length : Int).toNat = (List.replicate (a0.length : Int).toNat (0 : Int)).length)) (by kernel_rfl)) ?_
  refine tr_seq ?_
  refine tr_sr hT hm [] [2, 10, 22, 24, 26, 2021] [(2, .d (.sl a1.length 0 (a1.flatMap eI.b))), (10, .d (.rs 1010 0 ((List.replicate (a0.length : Int).toNat (0 : Int)).length))), (22, .d (.sl a0.length 0 (a0.flatMap eI.b))), (24, .d (iv (a0.length : Int))), (26, .d (iv 0)), (2021, .r (.arr 1 ((List.replicate (a0.length : Int).toNat (0 : Int)).flatMap eI.o) []))] .nil (by kernel_rfl) (by kernel_rfl) ?_
  refine tr_block ?_
  refine tr_iterS (fun (s2 : (List Int) × Int) => [(2, .d (.sl a1.length 0 (a1.flatMap eI.b))), (10, .d (.rs 1010 0 s2.1.length)), (22, .d (.sl a0.length 0 (a0.flatMap eI.b))), (24, .d (iv (a0.length : Int))), (26, .d (iv s2.2)), (2021, .r (.arr 1 (s2.1.flatMap eI.o) []))]) ((List.replicate (a0.length : Int).toNat (0 : Int)), 0) [2, 10, 22, 24, 26, 2021] (by kernel_rfl) hM ?_
  intro n5 next3 ih4 s2 hM
  refine tr_sr hT hm [] [2, 10, 22, 24, 26, 28, 2021] [(2, .d (.sl a1.length 0 (a1.flatMap eI.b))), (10, .d (.rs 1010 0 s2.1.length)), (22, .d (.sl a0.length 0 (a0.flatMap eI.b))), (24, .d (iv (a0.length : Int))), (26, .d (iv s2.2)), (28, .d (bv (decide (s2.2 < (a0.length : Int))))), (2021, .r (.arr 1 (s2.1.flatMap eI.o) []))] .nil (by kernel_rfl) (by kernel_rfl) ?_
  refine tr_seq ?_
  rcases Bool.eq_false_or_eq_true (decide (s2.2 < (a0.length : Int))) with h6 | h6
  · have hM := ite_true' hM h6
    refine tr_condTe (e := decide (s2.2 < (a0.length : Int))) h6 (by kernel_rfl) ?_
    refine tr_skip (q_n ?_)
    refine tr_seq ?_
    refine tr_block ?_
    obtain ⟨y7, hy7, hM⟩ := bind_some' hM
    have hy7' := idx_some hy7
    refine tr_sr hT hm [(2, .val (iv y7))] [2, 10, 12, 14, 22, 24, 26, 2021] [(2, .d (.sl a1.length 0 (a1.flatMap eI.b))), (10, .d (.rs 1010 0 s2.1.length)), (12, .d (iv s2.2)), (14, .d (iv y7)), (22, .d (.sl a0.length 0 (a0.flatMap eI.b))), (24, .d (iv (a0.length : Int))), (26, .d (iv s2.2)), (2021, .r (.arr 1 (s2.1.flatMap eI.o) []))] (.cons hy7'.1 (.cons hy7'.2.1 (.cons (at_b0 eI_ok hy7'.2.2 (d := iv y7) (by kernel_rfl)) .nil))) (by kernel_rfl) (by kernel_rfl) ?_
    obtain ⟨y8, hy8, hM⟩ := bind_some' hM
    have hy8' := idx_some hy8
    obtain ⟨y9, hy9, hM⟩ := bind_some' hM
    have hy9' := idx_some hy9
    refine tr_r hT hm [(5, .val (iv y8))] [2, 10, 22, 24, 26, 2021] [(2, .d (.sl a1.length 0 (a1.flatMap eI.b))), (10, .d (.rs 1010 0 s2.1.length)), (22, .d (.sl a0.length 0 (a0.flatMap eI.b))), (24, .d (iv (a0.length : Int))), (26, .d (iv s2.2)), (2021, .r (.arr 1 ((s2.1.flatMap eI.o).take (0 + s2.2.toNat * 1) ++ [iv y8] ++ (s2.1.flatMap eI.o).drop (0 + s2.2.toNat * 1 + 1)) []))] (.cons hy8'.1 (.cons hy8'.2.1 (.cons (at_b0 eI_ok hy8'.2.2 (d := iv y8) (by kernel_rfl)) (.cons hy9'.1 (.cons hy9'.2.1 (.cons (store_le eI_ok hy9'.2.2) .nil)))))) (by kernel_rfl) (by kernel_rfl) (b_n (q_n ?_))
    refine Tr.by (imp_cvE (r := 1010) (sz := 1) (refs := []) (set_flat eI_ok.lenO (y := y8) hy9'.2.2) (menO_flat eI_ok _) (by kernel_rfl)) ?_
    refine Tr.by (imp_cvD (k := 10) (congrArg (D.rs 1010 0) (List.length_set.symm : s2.1.length = (s2.1.set s2.2.toNat y8).length)) (by kernel_rfl)) ?_
    refine tr_r hT hm [] [2, 10, 22, 24, 26, 2021] [(2, .d (.sl a1.length 0 (a1.flatMap eI.b))), (10, .d (.rs 1010 0 ((s2.1.set s2.2.toNat y8).length))), (22, .d (.sl a0.length 0 (a0.flatMap eI.b))), (24, .d (iv (a0.length : Int))), (26, .d (iv (IntKind.i64.wrap (s2.2 + 1)))), (2021, .r (.arr 1 ((s2.1.set s2.2.toNat y8).flatMap eI.o) []))] .nil (by kernel_rfl) (by kernel_rfl) (l_n ?_)
    exact trl_start (ks := [2, 10, 22, 24, 26, 2021]) (by kernel_rfl) (ih4 (s2.1.set s2.2.toNat y8, IntKind.i64.wrap (s2.2 + 1)) hM)
  · have hM := ite_false' hM h6
    refine tr_condFe (e := decide (s2.2 < (a0.length : Int))) h6 (by kernel_rfl) ?_
    refine tr_exit (q_x (l_x (b_h (q_n ?_))))
    refine tr_sr hT hm [] [8, 2021] [(8, .d (.rs 1010 0 s2.1.length)), (2021, .r (.arr 1 (s2.1.flatMap eI.o) []))] .nil (by kernel_rfl) (by kernel_rfl) ?_
    refine tr_ret (rg_r ?_)
    obtain rfl := Option.some.inj hM
    exact retg (names := []) (.cons (lenO_flat eI_ok s2.1) .nil) (by kernel_rfl)

theorem ok37 : CallOk Try.prog 37 := callOk_of Try.func37 (by kernel_rfl) (by kernel_rfl)
theorem impl_IdentityTransformation_c (a0 : XFunctor) (r : XTransformation × Int) (hM : M.impl_IdentityTransformation a0 = some r) :
    FnC Try.prog 37 [] [.agg (eXFunctor.b a0)] [] (.tup [.agg (eXTransformation.o r.1), iv r.2]) := by
  refine fnc_startG (N := 14) (np := 500) hT Try.func37 rfl rfl (by kernel_rfl) ?_
  unfold M.impl_IdentityTransformation at hM
  refine tr_start (ks := [0]) (st' := [(0, .d (.agg (eXFunctor.b a0)))]) (by kernel_rfl) ?_
  refine tr_sr hT hm [] [2, 4, 2003, 2005] [(2, .d (.rp 1001 0)), (4, .d (.rp 1002 0)), bxB 2003 (eXFunctor.b a0), (2005, .r (.arr 1 [iv 0, nilv, nilv, nilv, nilv, iv 0, nilv, nilv, nilv, nilv, nilv, nilv, iv 0, nilv, nilv, nilv, nilv, iv 0, nilv, nilv, nilv, nilv, nilv, nilv, nilv] []))] .nil (by kernel_rfl) (by kernel_rfl) ?_
  refine tr_seq ?_
  obtain ⟨v1, hv1, hM⟩ := bind_some' hM
  refine tr_sr hT hm [(0, .call [1001] [] [.pt (eXFunctor.b a0) 0] [] (bv v1))] [2, 4, 10, 2003, 2005] [(2, .d (.rp 1001 0)), (4, .d (.rp 1002 0)), (10, .d (bv (!v1))), bxB 2003 (eXFunctor.b a0), (2005, .r (.arr 1 [iv 0, nilv, nilv, nilv, nilv, iv 0, nilv, nilv, nilv, nilv, nilv, nilv, iv 0, nilv, nilv, nilv, nilv, iv 0, nilv, nilv, nilv, nilv, nilv, nilv, nilv] []))] (cc (B := [1001]) (ρ := []) (rB := [(1001, .arr 1 [iv a0.Source.Objects, .sl a0.Source.From.length 0 (a0.Source.From.flatMap eI.b), .sl a0.Source.To.length 0 (a0.Source.To.flatMap eI.b), .sl a0.Source.Identity.length 0 (a0.Source.Identity.flatMap eI.b), .sl a0.Source.Composites.length 0 (a0.Source.Composites.flatMap (eS eI).b), iv a0.Target.Objects, .sl a0.Target.From.length 0 (a0.Target.From.flatMap eI.b), .sl a0.Target.To.length 0 (a0.Target.To.flatMap eI.b), .sl a0.Target.Identity.length 0 (a0.Target.Identity.flatMap eI.b), .sl a0.Target.Composites.length 0 (a0.Target.Composites.flatMap (eS eI).b), .sl a0.Objects.length 0 (a0.Objects.flatMap eI.b), .sl a0.Arrows.length 0 (a0.Arrows.flatMap eI.b)] [])]) ok89 (impl_Functor_isFunctor_c a0 _ hv1) (.cons (.of1 (.rp (r := 1001) (sz := 1) (cells := [iv a0.Source.Objects, .sl a0.Source.From.length 0 (a0.Source.From.flatMap eI.b), .sl a0.Source.To.length 0 (a0.Source.To.flatMap eI.b), .sl a0.Source.Identity.length 0 (a0.Source.Identity.flatMap eI.b), .sl a0.Source.Composites.length 0 (a0.Source.Composites.flatMap (eS eI).b), iv a0.Target.Objects, .sl a0.Target.From.length 0 (a0.Target.From.flatMap eI.b), .sl a0.Target.To.length 0 (a0.Target.To.flatMap eI.b), .sl a0.Target.Identity.length 0 (a0.Target.Identity.flatMap eI.b), .sl a0.Target.Composites.length 0 (a0.Target.Composites.flatMap (eS eI).b), .sl a0.Objects.length 0 (a0.Objects.flatMap eI.b), .sl a0.Arrows.length 0 (a0.Arrows.flatMap eI.b)]) (refs := []) (memB (by kernel_rfl)) (by kernel_rfl) (.cons .v (.cons (.same rfl rfl) (.cons (.same rfl rfl) (.cons (.same rfl rfl) (.cons (.same rfl rfl) (.cons .v (.cons (.same rfl rfl) (.cons (.same rfl rfl) (.cons (.same rfl rfl) (.cons (.same rfl rfl) (.cons (.same rfl rfl) (.cons (.same rfl rfl) .nil)))))))))))))) .nil) (.inr ⟨.v, trivial⟩) .nil) (by kernel_rfl) (by kernel_rfl) ?_
  rcases Bool.eq_false_or_eq_true v1 with h2 | h2
  · have hM := ite_true' hM h2
    refine tr_condFe (e := !v1) (congrArg not h2) (by kernel_rfl) ?_
    refine tr_skip (q_n ?_)
    obtain ⟨v3, hv3, hM⟩ := bind_some' hM
    obtain ⟨v4, hv4, hM⟩ := bind_some' hM
    refine tr_sr hT hm [(5, .call [] [] [.sl a0.Objects.length 0 (a0.Objects.flatMap eI.b), .sl a0.Target.Identity.length 0 (a0.Target.Identity.flatMap eI.b)] [] (.fr 1 v3.length (v3.flatMap eI.o))), (6, .call [1001, 14000] [] [.pt (eXFunctor.b a0) 0, .pt (eXFunctor.b a0) 0, .sl v3.length 0 (v3.flatMap eI.b)] [] (.agg (eXTransformation.o v4)))] [4, 6, 2005, 30003, 30005, 30007, 30009, 30013, 30015, 30017, 30019, 30021, 30023, 30027, 30029, 30031, 30033, 30037, 30039, 30041, 30043, 30045, 30047, 30049] ([(4, .d (.rp 1002 0)), (6, .d (iv 0)), bxO 2005 15000 (eXTransformation.o v4)] ++ rsS 15000 (eXTransformation.o v4)) (cc0 ok100 (impl_then_c a0.Objects a0.Target.Identity _ hv3) (by kernel_rfl) (cc (B := [1001, 14000]) (ρ := []) (rB := [(1001, .arr 1 [iv a0.Source.Objects, .sl a0.Source.From.length 0 (a0.Source.From.flatMap eI.b), .sl a0.Source.To.length 0 (a0.Source.To.flatMap eI.b), .sl a0.Source.Identity.length 0 (a0.Source.Identity.flatMap eI.b), .sl a0.Source.Composites.length 0 (a0.Source.Composites.flatMap (eS eI).b), iv a0.Target.Objects, .sl a0.Target.From.length 0 (a0.Target.From.flatMap eI.b), .sl a0.Target.To.length 0 (a0.Target.To.flatMap eI.b), .sl a0.Target.Identity.length 0 (a0.Target.Identity.flatMap eI.b), .sl a0.Target.Composites.length 0 (a0.Target.Composites.flatMap (eS eI).b), .sl a0.Objects.length 0 (a0.Objects.flatMap eI.b), .sl a0.Arrows.length 0 (a0.Arrows.flatMap eI.b)] []), (14000, .arr 1 (v3.flatMap eI.o) [])]) ok99 (impl_transformation_c a0 a0 v3 _ hv4) (.cons (.of1 (.rp (r := 1001) (sz := 1) (cells := [iv a0.Source.Objects, .sl a0.Source.From.length 0 (a0.Source.From.flatMap eI.b), .sl a0.Source.To.length 0 (a0.Source.To.flatMap eI.b), .sl a0.Source.Identity.length 0 (a0.Source.Identity.flatMap eI.b), .sl a0.Source.Composites.length 0 (a0.Source.Composites.flatMap (eS eI).b), iv a0.Target.Objects, .sl a0.Target.From.length 0 (a0.Target.From.flatMap eI.b), .sl a0.Target.To.length 0 (a0.Target.To.flatMap eI.b), .sl a0.Target.Identity.length 0 (a0.Target.Identity.flatMap eI.b), .sl a0.Target.Composites.length 0 (a0.Target.Composites.flatMap (eS eI).b), .sl a0.Objects.length 0 (a0.Objects.flatMap eI.b), .sl a0.Arrows.length 0 (a0.Arrows.flatMap eI.b)]) (refs := []) (memB (by kernel_rfl)) (by kernel_rfl) (.cons .v (.cons (.same rfl rfl) (.cons (.same rfl rfl) (.cons (.same rfl rfl) (.cons (.same rfl rfl) (.cons .v (.cons (.same rfl rfl) (.cons (.same rfl rfl) (.cons (.same rfl rfl) (.cons (.same rfl rfl) (.cons (.same rfl rfl) (.cons (.same rfl rfl) .nil)))))))))))))) (.cons (.of1 (.rp (r := 1001) (sz := 1) (cells := [iv a0.Source.Objects, .sl a0.Source.From.length 0 (a0.Source.From.flatMap eI.b), .sl a0.Source.To.length 0 (a0.Source.To.flatMap eI.b), .sl a0.Source.Identity.length 0 (a0.Source.Identity.flatMap eI.b), .sl a0.Source.Composites.length 0 (a0.Source.Composites.flatMap (eS eI).b), iv a0.Target.Objects, .sl a0.Target.From.length 0 (a0.Target.From.flatMap eI.b), .sl a0.Target.To.length 0 (a0.Target.To.flatMap eI.b), .sl a0.Target.Identity.length 0 (a0.Target.Identity.flatMap eI.b), .sl a0.Target.Composites.length 0 (a0.Target.Composites.flatMap (eS eI).b), .sl a0.Objects.length 0 (a0.Objects.flatMap eI.b), .sl a0.Arrows.length 0 (a0.Arrows.flatMap eI.b)]) (refs := []) (memB (by kernel_rfl)) (by kernel_rfl) (.cons .v (.cons (.same rfl rfl) (.cons (.same rfl rfl) (.cons (.same rfl rfl) (.cons (.same rfl rfl) (.cons .v (.cons (.same rfl rfl) (.cons (.same rfl rfl) (.cons (.same rfl rfl) (.cons (.same rfl rfl) (.cons (.same rfl rfl) (.cons (.same rfl rfl) .nil)))))))))))))) (.cons (.of1 (.rs (r := 14000) (sz := 1) (refs := []) (memB (by kernel_rfl)) (by kernel_rfl) (bor_flat eI_ok _ _ _))) .nil))) (.inr ⟨(.agg (eXTransformation_nb _)), trivial⟩) (.cons (Nat.le_of_ble_eq_true (n := 25) (m := 25) rfl) .nil))) (by kernel_rfl) (by kernel_rfl) ?_
    refine tr_ret (rg_r ?_)
    obtain rfl := Option.some.inj hM
    exact retg (names := []) (.cons (lenO_flat eI_ok v4.Source.Source.From) (.cons (lenO_flat eI_ok v4.Source.Source.To) (.cons (lenO_flat eI_ok v4.Source.Source.Identity) (.cons (lenO_flat (eS_ok eI_ok) v4.Source.Source.Composites) (.cons (lenO_flat eI_ok v4.Source.Target.From) (.cons (lenO_flat eI_ok v4.Source.Target.To) (.cons (lenO_flat eI_ok v4.Source.Target.Identity) (.cons (lenO_flat (eS_ok eI_ok) v4.Source.Target.Composites) (.cons (lenO_flat eI_ok v4.Source.Objects) (.cons (lenO_flat eI_ok v4.Source.Arrows) (.cons (lenO_flat eI_ok v4.Target.Source.From) (.cons (lenO_flat eI_ok v4.Target.Source.To) (.cons (lenO_flat eI_ok v4.Target.Source.Identity) (.cons (lenO_flat (eS_ok eI_ok) v4.Target.Source.Composites) (.cons (lenO_flat eI_ok v4.Target.Target.From) (.cons (lenO_flat eI_ok v4.Target.Target.To) (.cons (lenO_flat eI_ok v4.Target.Target.Identity) (.cons (lenO_flat (eS_ok eI_ok) v4.Target.Target.Composites) (.cons (lenO_flat eI_ok v4.Target.Objects) (.cons (lenO_flat eI_ok v4.Target.Arrows) (.cons (lenO_flat eI_ok v4.Components) .nil))))))))))))))))))))) (by kernel_rfl)
  · have hM := ite_false' hM h2
    refine tr_condTe (e := !v1) (congrArg not h2) (by kernel_rfl) ?_
    refine tr_sr hT hm [] [4, 6, 2005] [(4, .d (.rp 1002 0)), (6, .d (iv 1)), (2005, .r (.arr 1 [iv 0, nilv, nilv, nilv, nilv, iv 0, nilv, nilv, nilv, nilv, nilv, nilv, iv 0, nilv, nilv, nilv, nilv, iv 0, nilv, nilv, nilv, nilv, nilv, nilv, nilv] []))] (.cons (Nat.le_of_ble_eq_true (n := 25) (m := 25) rfl) .nil) (by kernel_rfl) (by kernel_rfl) ?_
    refine tr_ret (q_r (rg_r ?_))
    refine RetG.by (imp_cvB (r := 1002) (sz := 1) (cells := [iv 0, nilv, nilv, nilv, nilv, iv 0, nilv, nilv, nilv, nilv, nilv, nilv, iv 0, nilv, nilv, nilv, nilv, iv 0, nilv, nilv, nilv, nilv, nilv, nilv, nilv]) (cells' := [iv 0, .fr 1 ([] : List Int).length (([] : List Int).flatMap eI.o), .fr 1 ([] : List Int).length (([] : List Int).flatMap eI.o), .fr 1 ([] : List Int).length (([] : List Int).flatMap eI.o), .fr 1 ([] : List (List Int)).length (([] : List (List Int)).flatMap (eS eI).o), iv 0, .fr 1 ([] : List Int).length (([] : List Int).flatMap eI.o), .fr 1 ([] : List Int).length (([] : List Int).flatMap eI.o), .fr 1 ([] : List Int).length (([] : List Int).flatMap eI.o), .fr 1 ([] : List (List Int)).length (([] : List (List Int)).flatMap (eS eI).o), .fr 1 ([] : List Int).length (([] : List Int).flatMap eI.o), .fr 1 ([] : List Int).length (([] : List Int).flatMap eI.o), iv 0, .fr 1 ([] : List Int).length (([] : List Int).flatMap eI.o), .fr 1 ([] : List Int).length (([] : List Int).flatMap eI.o), .fr 1 ([] : List Int).length (([] : List Int).flatMap eI.o), .fr 1 ([] : List (List Int)).length (([] : List (List Int)).flatMap (eS eI).o), iv 0, .fr 1 ([] : List Int).length (([] : List Int).flatMap eI.o), .fr 1 ([] : List Int).length (([] : List Int).flatMap eI.o), .fr 1 ([] : List Int).length (([] : List Int).flatMap eI.o), .fr 1 ([] : List (List Int)).length (([] : List (List Int)).flatMap (eS eI).o), .fr 1 ([] : List Int).length (([] : List Int).flatMap eI.o), .fr 1 ([] : List Int).length (([] : List Int).flatMap eI.o), .fr 1 ([] : List Int).length (([] : List Int).flatMap eI.o)]) (refs := []) (refs' := []) (.cons (.refl _) (.cons Sub.nil_fr (.cons Sub.nil_fr (.cons Sub.nil_fr (.cons Sub.nil_fr (.cons (.refl _) (.cons Sub.nil_fr (.cons Sub.nil_fr (.cons Sub.nil_fr (.cons Sub.nil_fr (.cons Sub.nil_fr (.cons Sub.nil_fr (.cons (.refl _) (.cons Sub.nil_fr (.cons Sub.nil_fr (.cons Sub.nil_fr (.cons Sub.nil_fr (.cons (.refl _) (.cons Sub.nil_fr (.cons Sub.nil_fr (.cons Sub.nil_fr (.cons Sub.nil_fr (.cons Sub.nil_fr (.cons Sub.nil_fr (.cons Sub.nil_fr .nil))))))))))))))))))))))))) (by kernel_rfl) (by kernel_rfl) (by kernel_rfl)) ?_
    obtain rfl := Option.some.inj hM
    exact retg (names := []) .nil (by kernel_rfl)

theorem ok38 : CallOk Try.prog 38 := callOk_of Try.func38 (by kernel_rfl) (by kernel_rfl)
theorem laws_eqTransformation_c (a0 : XTransformation) (a1 : XTransformation) (r : Bool) (hM : M.laws_eqTransformation a0 a1 = some r) :
    FnC Try.prog 38 [] [.agg (eXTransformation.b a0), .agg (eXTransformation.b a1)] [] (bv r) := by
  refine fnc_startG (N := 23) (np := 500) hT Try.func38 rfl rfl (by kernel_rfl) ?_
  unfold M.laws_eqTransformation at hM
  refine tr_start (ks := [0, 2]) (st' := [(0, .d (.agg (eXTransformation.b a0))), (2, .d (.agg (eXTransformation.b a1)))]) (by kernel_rfl) ?_
  refine tr_sr hT hm [] [4, 6, 2005, 2007] [(4, .d (.rp 1002 0)), (6, .d (.rp 1003 0)), bxB 2005 (eXTransformation.b a0), bxB 2007 (eXTransformation.b a1)] .nil (by kernel_rfl) (by kernel_rfl) ?_
  refine tr_seq ?_
  obtain ⟨v1, hv1, hM⟩ := bind_some' hM
  refine tr_sr hT hm [(4, .call [] [] [.agg [iv a0.Source.Source.Objects, .sl a0.Source.Source.From.length 0 (a0.Source.Source.From.flatMap eI.b), .sl a0.Source.Source.To.length 0 (a0.Source.Source.To.flatMap eI.b), .sl a0.Source.Source.Identity.length 0 (a0.Source.Source.Identity.flatMap eI.b), .sl a0.Source.Source.Composites.length 0 (a0.Source.Source.Composites.flatMap (eS eI).b), iv a0.Source.Target.Objects, .sl a0.Source.Target.From.length 0 (a0.Source.Target.From.flatMap eI.b), .sl a0.Source.Target.To.length 0 (a0.Source.Target.To.flatMap eI.b), .sl a0.Source.Target.Identity.length 0 (a0.Source.Target.Identity.flatMap eI.b), .sl a0.Source.Target.Composites.length 0 (a0.Source.Target.Composites.flatMap (eS eI).b), .sl a0.Source.Objects.length 0 (a0.Source.Objects.flatMap eI.b), .sl a0.Source.Arrows.length 0 (a0.Source.Arrows.flatMap eI.b)], .agg [iv a1.Source.Source.Objects, .sl a1.Source.Source.From.length 0 (a1.Source.Source.From.flatMap eI.b), .sl a1.Source.Source.To.length 0 (a1.Source.Source.To.flatMap eI.b), .sl a1.Source.Source.Identity.length 0 (a1.Source.Source.Identity.flatMap eI.b), .sl a1.Source.Source.Composites.length 0 (a1.Source.Source.Composites.flatMap (eS eI).b), iv a1.Source.Target.Objects, .sl a1.Source.Target.From.length 0 (a1.Source.Target.From.flatMap eI.b), .sl a1.Source.Target.To.length 0 (a1.Source.Target.To.flatMap eI.b), .sl a1.Source.Target.Identity.length 0 (a1.Source.Target.Identity.flatMap eI.b), .sl a1.Source.Target.Composites.length 0 (a1.Source.Target.Composites.flatMap (eS eI).b), .sl a1.Source.Objects.length 0 (a1.Source.Objects.flatMap eI.b), .sl a1.Source.Arrows.length 0 (a1.Source.Arrows.flatMap eI.b)]] [] (bv v1))] [4, 6, 20, 2005, 2007] [(4, .d (.rp 1002 0)), (6, .d (.rp 1003 0)), (20, .d (bv (!v1))), bxB 2005 (eXTransformation.b a0), bxB 2007 (eXTransformation.b a1)] (cc0 ok18 (laws_eqFunctor_c a0.Source a1.Source _ hv1) (by kernel_rfl) .nil) (by kernel_rfl) (by kernel_rfl) ?_
  rcases Bool.eq_false_or_eq_true v1 with h2 | h2
  · have hM := ite_true' hM h2
    refine tr_condFe (e := !v1) (congrArg not h2) (by kernel_rfl) ?_
    refine tr_skip (q_n ?_)
    refine tr_seq ?_
    obtain ⟨v3, hv3, hM⟩ := bind_some' hM
    refine tr_sr hT hm [(4, .call [] [] [.agg [iv a0.Target.Source.Objects, .sl a0.Target.Source.From.length 0 (a0.Target.Source.From.flatMap eI.b), .sl a0.Target.Source.To.length 0 (a0.Target.Source.To.flatMap eI.b), .sl a0.Target.Source.Identity.length 0 (a0.Target.Source.Identity.flatMap eI.b), .sl a0.Target.Source.Composites.length 0 (a0.Target.Source.Composites.flatMap (eS eI).b), iv a0.Target.Target.Objects, .sl a0.Target.Target.From.length 0 (a0.Target.Target.From.flatMap eI.b), .sl a0.Target.Target.To.length 0 (a0.Target.Target.To.flatMap eI.b), .sl a0.Target.Target.Identity.length 0 (a0.Target.Target.Identity.flatMap eI.b), .sl a0.Target.Target.Composites.length 0 (a0.Target.Target.Composites.flatMap (eS eI).b), .sl a0.Target.Objects.length 0 (a0.Target.Objects.flatMap eI.b), .sl a0.Target.Arrows.length 0 (a0.Target.Arrows.flatMap eI.b)], .agg [iv a1.Target.Source.Objects, .sl a1.Target.Source.From.length 0 (a1.Target.Source.From.flatMap eI.b), .sl a1.Target.Source.To.length 0 (a1.Target.Source.To.flatMap eI.b), .sl a1.Target.Source.Identity.length 0 (a1.Target.Source.Identity.flatMap eI.b), .sl a1.Target.Source.Composites.length 0 (a1.Target.Source.Composites.flatMap (eS eI).b), iv a1.Target.Target.Objects, .sl a1.Target.Target.From.length 0 (a1.Target.Target.From.flatMap eI.b), .sl a1.Target.Target.To.length 0 (a1.Target.Target.To.flatMap eI.b), .sl a1.Target.Target.Identity.length 0 (a1.Target.Target.Identity.flatMap eI.b), .sl a1.Target.Target.Composites.length 0 (a1.Target.Target.Composites.flatMap (eS eI).b), .sl a1.Target.Objects.length 0 (a1.Target.Objects.flatMap eI.b), .sl a1.Target.Arrows.length 0 (a1.Target.Arrows.flatMap eI.b)]] [] (bv v3))] [4, 6, 32, 2005, 2007] [(4, .d (.rp 1002 0)), (6, .d (.rp 1003 0)), (32, .d (bv (!v3))), bxB 2005 (eXTransformation.b a0), bxB 2007 (eXTransformation.b a1)] (cc0 ok18 (laws_eqFunctor_c a0.Target a1.Target _ hv3) (by kernel_rfl) .nil) (by kernel_rfl) (by kernel_rfl) ?_
    rcases Bool.eq_false_or_eq_true v3 with h4 | h4
    · have hM := ite_true' hM h4
      refine tr_condFe (e := !v3) (congrArg not h4) (by kernel_rfl) ?_
      refine tr_skip (q_n ?_)
      refine tr_seq ?_
      obtain ⟨v5, hv5, hM⟩ := bind_some' hM
      refine tr_sr hT hm [(4, .call [] [] [.sl a0.Components.length 0 (a0.Components.flatMap eI.b), .sl a1.Components.length 0 (a1.Components.flatMap eI.b)] [] (bv v5))] [44] [(44, .d (bv (!v5)))] (cc0 ok65 (laws_eqInt64S_c a0.Components a1.Components _ hv5) (by kernel_rfl) .nil) (by kernel_rfl) (by kernel_rfl) ?_
      rcases Bool.eq_false_or_eq_true v5 with h6 | h6
      · have hM := ite_true' hM h6
        refine tr_condFe (e := !v5) (congrArg not h6) (by kernel_rfl) ?_
        refine tr_skip (q_n ?_)
        refine tr_sr hT hm [] [8] [(8, .d (bv true))] .nil (by kernel_rfl) (by kernel_rfl) ?_
        refine tr_ret (rg_r ?_)
        obtain rfl := Option.some.inj hM
        exact retg (names := []) .nil (by kernel_rfl)
      · have hM := ite_false' hM h6
        refine tr_condTe (e := !v5) (congrArg not h6) (by kernel_rfl) ?_
        refine tr_sr hT hm [] [8] [(8, .d (bv false))] .nil (by kernel_rfl) (by kernel_rfl) ?_
        refine tr_ret (q_r (rg_r ?_))
        obtain rfl := Option.some.inj hM
        exact retg (names := []) .nil (by kernel_rfl)
    · have hM := ite_false' hM h4
      refine tr_condTe (e := !v3) (congrArg not h4) (by kernel_rfl) ?_
      refine tr_sr hT hm [] [8] [(8, .d (bv false))] .nil (by kernel_rfl) (by kernel_rfl) ?_
      refine tr_ret (q_r (rg_r ?_))
      obtain rfl := Option.some.inj hM
      exact retg (names := []) .nil (by kernel_rfl)
  · have hM := ite_false' hM h2
    refine tr_condTe (e := !v1) (congrArg not h2) (by kernel_rfl) ?_
    refine tr_sr hT hm [] [8] [(8, .d (bv false))] .nil (by kernel_rfl) (by kernel_rfl) ?_
    refine tr_ret (q_r (rg_r ?_))
    obtain rfl := Option.some.inj hM
    exact retg (names := []) .nil (by kernel_rfl)

end Go.Proofs.Ytggojehmbpbefaa.L6
