/- Walks. Printed by wip/gen. -/
import Derived.Test.YtggojehmbpbefaaGxL9W
namespace Go.Proofs.Ytggojehmbpbefaa.L9
open Go.Gx

theorem ok192 : CallOk Try.prog 192 := callOk_of Try.func192 (by kernel_rfl) (by kernel_rfl)
theorem spec_l01Has_c (a0 : List Int) (a1 : Int) (r : Bool) (hM : M.spec_l01Has a0 a1 = some r) :
    FnC Try.prog 192 [] [.sl a0.length 0 (a0.flatMap eI.b), iv a1] [] (bv r) := by
  refine fnc_startG (N := 18) (np := 500) hT Try.func192 rfl rfl (by kernel_rfl) ?_
  unfold M.spec_l01Has at hM
  refine tr_start (ks := [0, 2]) (st' := [(0, .d (.sl a0.length 0 (a0.flatMap eI.b))), (2, .d (iv a1))]) (by kernel_rfl) ?_
  refine tr_sr hT hm [] [0, 2] [(0, .d (.sl a0.length 0 (a0.flatMap eI.b))), (2, .d (iv a1))] .nil (by kernel_rfl) (by kernel_rfl) ?_
  refine tr_seq ?_
  refine tr_sr hT hm [] [0, 2, 10] [(0, .d (.sl a0.length 0 (a0.flatMap eI.b))), (2, .d (iv a1)), (10, .d (iv 0))] .nil (by kernel_rfl) (by kernel_rfl) ?_
  refine tr_block ?_
  refine tr_iterS (fun (s1 : Int) => [(0, .d (.sl a0.length 0 (a0.flatMap eI.b))), (2, .d (iv a1)), (10, .d (iv s1))]) 0 [0, 2, 10] (by kernel_rfl) hM ?_
  intro n4 next2 ih3 s1 hM
  refine tr_seq ?_
  refine tr_sr hT hm [] [0, 2, 10, 18] [(0, .d (.sl a0.length 0 (a0.flatMap eI.b))), (2, .d (iv a1)), (10, .d (iv s1)), (18, .d (bv (decide (s1 < (a0.length : Int)))))] .nil (by kernel_rfl) (by kernel_rfl) ?_
  rcases Bool.eq_false_or_eq_true (decide (s1 < (a0.length : Int))) with h5 | h5
  · have hM := ite_true' hM h5
    refine tr_condTe (e := decide (s1 < (a0.length : Int))) h5 (by kernel_rfl) ?_
    refine tr_skip (q_n ?_)
    refine tr_seq ?_
    refine tr_block ?_
    obtain ⟨y6, hy6, hM⟩ := bind_some' hM
    have hy6' := idx_some hy6
    refine tr_sr hT hm [(3, .val (iv y6))] [0, 2, 10, 34] [(0, .d (.sl a0.length 0 (a0.flatMap eI.b))), (2, .d (iv a1)), (10, .d (iv s1)), (34, .d (bv (y6 == a1)))] (.cons hy6'.1 (.cons hy6'.2.1 (.cons (at_b0 eI_ok hy6'.2.2 (d := iv y6) (by kernel_rfl)) .nil))) (by kernel_rfl) (by kernel_rfl) ?_
    rcases Bool.eq_false_or_eq_true (y6 == a1) with h7 | h7
    · have hM := ite_true' hM h7
      refine tr_condTe (e := y6 == a1) h7 (by kernel_rfl) ?_
      refine tr_sr hT hm [] [8] [(8, .d (bv true))] .nil (by kernel_rfl) (by kernel_rfl) ?_
      refine tr_ret (b_r (q_r (l_r (b_r (q_r (rg_r ?_))))))
      obtain rfl := Option.some.inj hM
      exact retg (names := []) .nil (by kernel_rfl)
    · have hM := ite_false' hM h7
      refine tr_condFe (e := y6 == a1) h7 (by kernel_rfl) ?_
      refine tr_skip (b_n (q_n ?_))
      refine tr_r hT hm [] [0, 2, 10] [(0, .d (.sl a0.length 0 (a0.flatMap eI.b))), (2, .d (iv a1)), (10, .d (iv (IntKind.i64.wrap (s1 + 1))))] .nil (by kernel_rfl) (by kernel_rfl) (l_n ?_)
      exact trl_start (ks := [0, 2, 10]) (by kernel_rfl) (ih3 (IntKind.i64.wrap (s1 + 1)) hM)
  · have hM := ite_false' hM h5
    refine tr_condFe (e := decide (s1 < (a0.length : Int))) h5 (by kernel_rfl) ?_
    refine tr_exit (q_x (l_x (b_h (q_n ?_))))
    refine tr_sr hT hm [] [8] [(8, .d (bv false))] .nil (by kernel_rfl) (by kernel_rfl) ?_
    refine tr_ret (rg_r ?_)
    obtain rfl := Option.some.inj hM
    exact retg (names := []) .nil (by kernel_rfl)

theorem ok226 : CallOk Try.prog 226 := callOk_of Try.func226 (by kernel_rfl) (by kernel_rfl)
theorem spec_l01Image_c (a0 : Int) (a1 : List Int) (r : (List Int)) (hM : M.spec_l01Image a0 a1 = some r) :
    FnC Try.prog 226 [] [iv a0, .sl a1.length 0 (a1.flatMap eI.b)] [] (.fr 1 r.length (r.flatMap eI.o)) := by
  refine fnc_startG (N := 21) (np := 500) hT Try.func226 rfl rfl (by kernel_rfl) ?_
  unfold M.spec_l01Image at hM
  refine tr_start (ks := [0, 2]) (st' := [(0, .d (iv a0)), (2, .d (.sl a1.length 0 (a1.flatMap eI.b)))]) (by kernel_rfl) ?_
  refine tr_sr hT hm [] [0, 2] [(0, .d (iv a0)), (2, .d (.sl a1.length 0 (a1.flatMap eI.b)))] .nil (by kernel_rfl) (by kernel_rfl) ?_
  refine tr_sr hT hm [] [0, 2, 10, 2015] [(0, .d (iv a0)), (2, .d (.sl a1.length 0 (a1.flatMap eI.b))), (10, .d (.rs 1007 0 (([] : List Int).length))), (2015, .r (.arr 1 (([] : List Int).flatMap eI.o) []))] .nil (by kernel_rfl) (by kernel_rfl) ?_
  refine tr_seq ?_
  refine tr_sr hT hm [] [0, 2, 10, 12, 2015] [(0, .d (iv a0)), (2, .d (.sl a1.length 0 (a1.flatMap eI.b))), (10, .d (.rs 1007 0 (([] : List Int).length))), (12, .d (iv 0)), (2015, .r (.arr 1 (([] : List Int).flatMap eI.o) []))] .nil (by kernel_rfl) (by kernel_rfl) ?_
  refine tr_block ?_
  refine tr_iterS (fun (s1 : (List Int) × Int) => [(0, .d (iv a0)), (2, .d (.sl a1.length 0 (a1.flatMap eI.b))), (10, .d (.rs 1007 0 s1.1.length)), (12, .d (iv s1.2)), (2015, .r (.arr 1 (s1.1.flatMap eI.o) []))]) (([] : List Int), 0) [0, 2, 10, 12, 2015] (by kernel_rfl) hM ?_
  intro n4 next2 ih3 s1 hM
  refine tr_seq ?_
  refine tr_sr hT hm [] [0, 2, 10, 12, 20, 2015] [(0, .d (iv a0)), (2, .d (.sl a1.length 0 (a1.flatMap eI.b))), (10, .d (.rs 1007 0 s1.1.length)), (12, .d (iv s1.2)), (20, .d (bv (decide (s1.2 < a0)))), (2015, .r (.arr 1 (s1.1.flatMap eI.o) []))] .nil (by kernel_rfl) (by kernel_rfl) ?_
  rcases Bool.eq_false_or_eq_true (decide (s1.2 < a0)) with h5 | h5
  · have hM := ite_true' hM h5
    refine tr_condTe (e := decide (s1.2 < a0)) h5 (by kernel_rfl) ?_
    refine tr_skip (q_n ?_)
    refine tr_seq ?_
    refine tr_block ?_
    obtain ⟨v6, hv6, hM⟩ := bind_some' hM
    refine tr_sr hT hm [(2, .call [] [] [.sl a1.length 0 (a1.flatMap eI.b), iv s1.2] [] (bv v6))] [0, 2, 10, 12, 30, 2015] [(0, .d (iv a0)), (2, .d (.sl a1.length 0 (a1.flatMap eI.b))), (10, .d (.rs 1007 0 s1.1.length)), (12, .d (iv s1.2)), (30, .d (bv v6)), (2015, .r (.arr 1 (s1.1.flatMap eI.o) []))] (cc0 ok192 (spec_l01Has_c a1 s1.2 _ hv6) (by kernel_rfl) .nil) (by kernel_rfl) (by kernel_rfl) ?_
    rcases Bool.eq_false_or_eq_true v6 with h7 | h7
    · have hM := ite_true' hM h7
      refine tr_condTe (e := v6) h7 (by kernel_rfl) ?_
      obtain ⟨h8, hM⟩ := chk_some hM
      refine tr_r hT hm [(3, .app true)] [0, 2, 10, 12, 2039] [(0, .d (iv a0)), (2, .d (.sl a1.length 0 (a1.flatMap eI.b))), (10, .d (.rs 1019 0 (s1.1.length + (([s1.2] : List Int).length)))), (12, .d (iv s1.2)), (2039, .r (.arr 1 (s1.1.flatMap eI.o ++ ([s1.2] : List Int).flatMap eI.o) []))] (.cons (lenO_flat eI_ok s1.1) (.cons (lenO_flat eI_ok ([s1.2] : List Int)) (.cons h8 .nil))) (by kernel_rfl) (by kernel_rfl) (b_n (q_n ?_))
      refine Tr.by (imp_cvE (r := 1019) (sz := 1) (refs := []) (flat_app eI.o s1.1 ([s1.2] : List Int)) (menO_flat eI_ok _) (by kernel_rfl)) ?_
      refine Tr.by (imp_cvD (k := 10) (congrArg (D.rs 1019 0) ((len_app s1.1 ([s1.2] : List Int)) : s1.1.length + (([s1.2] : List Int).length) = (s1.1 ++ ([s1.2] : List Int)).length)) (by kernel_rfl)) ?_
      refine tr_r hT hm [] [0, 2, 10, 12, 2039] [(0, .d (iv a0)), (2, .d (.sl a1.length 0 (a1.flatMap eI.b))), (10, .d (.rs 1019 0 ((s1.1 ++ ([s1.2] : List Int)).length))), (12, .d (iv (IntKind.i64.wrap (s1.2 + 1)))), (2039, .r (.arr 1 ((s1.1 ++ ([s1.2] : List Int)).flatMap eI.o) []))] .nil (by kernel_rfl) (by kernel_rfl) (l_n ?_)
      refine TrL.by (imp_sel (ks := [0, 2, 10, 12, 2039]) (st' := [(0, .d (iv a0)), (2, .d (.sl a1.length 0 (a1.flatMap eI.b))), (10, .d (.rs 1019 0 ((s1.1 ++ ([s1.2] : List Int)).length))), (12, .d (iv (IntKind.i64.wrap (s1.2 + 1)))), (2039, .r (.arr 1 ((s1.1 ++ ([s1.2] : List Int)).flatMap eI.o) []))]) (by kernel_rfl)) ?_
      refine TrL.by (imp_rename (r := 1019) (q := 1007) (by kernel_rfl) (Nat.le_of_ble_eq_true rfl)) ?_
      exact trl_start (ks := [0, 2, 10, 12, 2015]) (by kernel_rfl) (ih3 (s1.1 ++ ([s1.2] : List Int), IntKind.i64.wrap (s1.2 + 1)) hM)
    · have hM := ite_false' hM h7
      refine tr_condFe (e := v6) h7 (by kernel_rfl) ?_
      refine tr_skip (b_n (q_n ?_))
      refine tr_r hT hm [] [0, 2, 10, 12, 2015] [(0, .d (iv a0)), (2, .d (.sl a1.length 0 (a1.flatMap eI.b))), (10, .d (.rs 1007 0 s1.1.length)), (12, .d (iv (IntKind.i64.wrap (s1.2 + 1)))), (2015, .r (.arr 1 (s1.1.flatMap eI.o) []))] .nil (by kernel_rfl) (by kernel_rfl) (l_n ?_)
      exact trl_start (ks := [0, 2, 10, 12, 2015]) (by kernel_rfl) (ih3 (s1.1, IntKind.i64.wrap (s1.2 + 1)) hM)
  · have hM := ite_false' hM h5
    refine tr_condFe (e := decide (s1.2 < a0)) h5 (by kernel_rfl) ?_
    refine tr_exit (q_x (l_x (b_h (q_n ?_))))
    refine tr_sr hT hm [] [8, 2015] [(8, .d (.rs 1007 0 s1.1.length)), (2015, .r (.arr 1 (s1.1.flatMap eI.o) []))] .nil (by kernel_rfl) (by kernel_rfl) ?_
    refine tr_ret (rg_r ?_)
    obtain rfl := Option.some.inj hM
    exact retg (names := []) (.cons (lenO_flat eI_ok s1.1) .nil) (by kernel_rfl)

theorem ok177 : CallOk Try.prog 177 := callOk_of Try.func177 (by kernel_rfl) (by kernel_rfl)
theorem spec_l06Bijective_c (a0 : Int) (a1 : List Int) (r : Bool) (hM : M.spec_l06Bijective a0 a1 = some r) :
    FnC Try.prog 177 [] [iv a0, .sl a1.length 0 (a1.flatMap eI.b)] [] (bv r) := by
  refine fnc_startG (N := 18) (np := 500) hT Try.func177 rfl rfl (by kernel_rfl) ?_
  unfold M.spec_l06Bijective at hM
  refine tr_start (ks := [0, 2]) (st' := [(0, .d (iv a0)), (2, .d (.sl a1.length 0 (a1.flatMap eI.b)))]) (by kernel_rfl) ?_
  refine tr_sr hT hm [] [0, 2] [(0, .d (iv a0)), (2, .d (.sl a1.length 0 (a1.flatMap eI.b)))] .nil (by kernel_rfl) (by kernel_rfl) ?_
  rcases Bool.eq_false_or_eq_true ((a1.length : Int) == a0) with h1 | h1
  · have hM := ite_true' hM h1
    obtain ⟨v2, hv2, hM⟩ := bind_some' hM
    refine tr_sr hT hm [(4, .val (bv true)), (7, .call [] [] [iv a0, .sl a1.length 0 (a1.flatMap eI.b)] [] (.fr 1 v2.length (v2.flatMap eI.o)))] [8] [(8, .d (bv ((v2.length : Int) == (a1.length : Int))))] (.cons (congrArg (fun b => bv b) h1) (cc0 ok226 (spec_l01Image_c a0 a1 _ hv2) (by kernel_rfl) .nil)) (by kernel_rfl) (by kernel_rfl) ?_
    refine tr_ret (rg_r ?_)
    obtain rfl := Option.some.inj hM
    exact retg (names := []) .nil (by kernel_rfl)
  · have hM := ite_false' hM h1
    refine tr_sr hT hm [(4, .val (bv false))] [8] [(8, .d (bv false))] (.cons (congrArg (fun b => bv b) h1) .nil) (by kernel_rfl) (by kernel_rfl) ?_
    refine tr_ret (rg_r ?_)
    obtain rfl := Option.some.inj hM
    exact retg (names := []) .nil (by kernel_rfl)

theorem ok110 : CallOk Try.prog 110 := callOk_of Try.func110 (by kernel_rfl) (by kernel_rfl)
theorem spec_l06Iso_c (a0 : XFunctor) (r : Bool) (hM : M.spec_l06Iso a0 = some r) :
    FnC Try.prog 110 [] [.agg (eXFunctor.b a0)] [] (bv r) := by
  refine fnc_startG (N := 18) (np := 500) hT Try.func110 rfl rfl (by kernel_rfl) ?_
  unfold M.spec_l06Iso at hM
  refine tr_start (ks := [0]) (st' := [(0, .d (.agg (eXFunctor.b a0)))]) (by kernel_rfl) ?_
  refine tr_sr hT hm [] [2, 2003] [(2, .d (.rp 1001 0)), bxB 2003 (eXFunctor.b a0)] .nil (by kernel_rfl) (by kernel_rfl) ?_
  obtain ⟨v1, hv1, hM⟩ := bind_some' hM
  rcases Bool.eq_false_or_eq_true v1 with h2 | h2
  · have hM := ite_true' hM h2
    obtain ⟨v3, hv3, hM⟩ := bind_some' hM
    refine tr_sr hT hm [(5, .call [] [] [iv a0.Target.Objects, .sl a0.Objects.length 0 (a0.Objects.flatMap eI.b)] [] (bv v1)), (6, .val (bv true)), (13, .call [] [] [iv (a0.Target.From.length : Int), .sl a0.Arrows.length 0 (a0.Arrows.flatMap eI.b)] [] (bv v3))] [4] [(4, .d (bv v3))] (cc0 ok177 (spec_l06Bijective_c a0.Target.Objects a0.Objects _ hv1) (by kernel_rfl) (.cons (congrArg (fun b => bv b) h2) (cc0 ok177 (spec_l06Bijective_c (a0.Target.From.length : Int) a0.Arrows _ hv3) (by kernel_rfl) .nil))) (by kernel_rfl) (by kernel_rfl) ?_
    refine tr_ret (rg_r ?_)
    obtain rfl := Option.some.inj hM
    exact retg (names := []) .nil (by kernel_rfl)
  · have hM := ite_false' hM h2
    refine tr_sr hT hm [(5, .call [] [] [iv a0.Target.Objects, .sl a0.Objects.length 0 (a0.Objects.flatMap eI.b)] [] (bv v1)), (6, .val (bv false))] [4] [(4, .d (bv false))] (cc0 ok177 (spec_l06Bijective_c a0.Target.Objects a0.Objects _ hv1) (by kernel_rfl) (.cons (congrArg (fun b => bv b) h2) .nil)) (by kernel_rfl) (by kernel_rfl) ?_
    refine tr_ret (rg_r ?_)
    obtain rfl := Option.some.inj hM
    exact retg (names := []) .nil (by kernel_rfl)

theorem ok112 : CallOk Try.prog 112 := callOk_of Try.func112 (by kernel_rfl) (by kernel_rfl)
theorem spec_l06Back_c (a0 : List Int) (r : (List Int)) (hM : M.spec_l06Back a0 = some r) :
    FnC Try.prog 112 [] [.sl a0.length 0 (a0.flatMap eI.b)] [] (.fr 1 r.length (r.flatMap eI.o)) := by
  refine fnc_startG (N := 22) (np := 500) hT Try.func112 rfl rfl (by kernel_rfl) ?_
  unfold M.spec_l06Back at hM
  refine tr_start (ks := [0]) (st' := [(0, .d (.sl a0.length 0 (a0.flatMap eI.b)))]) (by kernel_rfl) ?_
  refine tr_sr hT hm [] [0] [(0, .d (.sl a0.length 0 (a0.flatMap eI.b)))] .nil (by kernel_rfl) (by kernel_rfl) ?_
  obtain ⟨h1, hM⟩ := chk_some hM
  refine tr_sr hT hm [] [0, 6, 2015] [(0, .d (.sl a0.length 0 (a0.flatMap eI.b))), (6, .d (.rs 1007 0 ((a0.length : Int).toNat))), (2015, .r (.arr 1 (repl (a0.length : Int).toNat [.int .i64 0]) []))] (.cons h1.1 (.cons (Int.le_refl (a0.length : Int)) (.cons h1.2 .nil))) (by kernel_rfl) (by kernel_rfl) ?_
  refine Tr.by (imp_cvE (r := 1007) (sz := 1) (refs := []) (repl_flat (f := eI.o) (zs := [.int .i64 0]) (z := (0 : Int)) rfl (a0.length : Int).toNat) (menO_flat eI_ok _) (by kernel_rfl)) ?_
  refine Tr.by (imp_cvD (k := 6) (congrArg (D.rs 1007 0) (List.length_replicate.symm : (a0.length : Int).toNat = (List.replicate (a0.length : Int).toNat (0 : Int)).length)) (by kernel_rfl)) ?_
  refine tr_seq ?_
  refine tr_sr hT hm [] [0, 6, 8, 2015] [(0, .d (.sl a0.length 0 (a0.flatMap eI.b))), (6, .d (.rs 1007 0 ((List.replicate (a0.length : Int).toNat (0 : Int)).length))), (8, .d (iv 0)), (2015, .r (.arr 1 ((List.replicate (a0.length : Int).toNat (0 : Int)).flatMap eI.o) []))] .nil (by kernel_rfl) (by kernel_rfl) ?_
  refine tr_block ?_
  refine tr_iterS (fun (s2 : (List Int) × Int) => [(0, .d (.sl a0.length 0 (a0.flatMap eI.b))), (6, .d (.rs 1007 0 s2.1.length)), (8, .d (iv s2.2)), (2015, .r (.arr 1 (s2.1.flatMap eI.o) []))]) ((List.replicate (a0.length : Int).toNat (0 : Int)), 0) [0, 6, 8, 2015] (by kernel_rfl) hM ?_
  intro n5 next3 ih4 s2 hM
  refine tr_seq ?_
  refine tr_sr hT hm [] [0, 6, 8, 22, 2015] [(0, .d (.sl a0.length 0 (a0.flatMap eI.b))), (6, .d (.rs 1007 0 s2.1.length)), (8, .d (iv s2.2)), (22, .d (bv (decide (s2.2 < (a0.length : Int))))), (2015, .r (.arr 1 (s2.1.flatMap eI.o) []))] .nil (by kernel_rfl) (by kernel_rfl) ?_
  rcases Bool.eq_false_or_eq_true (decide (s2.2 < (a0.length : Int))) with h6 | h6
  · have hM := ite_true' hM h6
    refine tr_condTe (e := decide (s2.2 < (a0.length : Int))) h6 (by kernel_rfl) ?_
    refine tr_skip (q_n ?_)
    refine tr_seq ?_
    refine tr_block ?_
    obtain ⟨y7, hy7, hM⟩ := bind_some' hM
    have hy7' := idx_some hy7
    obtain ⟨y8, hy8, hM⟩ := bind_some' hM
    have hy8' := idx_some hy8
    refine tr_r hT hm [(4, .val (iv y7))] [0, 6, 8, 2015] [(0, .d (.sl a0.length 0 (a0.flatMap eI.b))), (6, .d (.rs 1007 0 s2.1.length)), (8, .d (iv s2.2)), (2015, .r (.arr 1 ((s2.1.flatMap eI.o).take (0 + y7.toNat * 1) ++ [iv s2.2] ++ (s2.1.flatMap eI.o).drop (0 + y7.toNat * 1 + 1)) []))] (.cons hy7'.1 (.cons hy7'.2.1 (.cons (at_b0 eI_ok hy7'.2.2 (d := iv y7) (by kernel_rfl)) (.cons hy8'.1 (.cons hy8'.2.1 (.cons (store_le eI_ok hy8'.2.2) .nil)))))) (by kernel_rfl) (by kernel_rfl) (b_n (q_n ?_))
    refine Tr.by (imp_cvE (r := 1007) (sz := 1) (refs := []) (set_flat eI_ok.lenO (y := s2.2) hy8'.2.2) (menO_flat eI_ok _) (by kernel_rfl)) ?_
    refine Tr.by (imp_cvD (k := 6) (congrArg (D.rs 1007 0) (List.length_set.symm : s2.1.length = (s2.1.set y7.toNat s2.2).length)) (by kernel_rfl)) ?_
    refine tr_r hT hm [] [0, 6, 8, 2015] [(0, .d (.sl a0.length 0 (a0.flatMap eI.b))), (6, .d (.rs 1007 0 ((s2.1.set y7.toNat s2.2).length))), (8, .d (iv (IntKind.i64.wrap (s2.2 + 1)))), (2015, .r (.arr 1 ((s2.1.set y7.toNat s2.2).flatMap eI.o) []))] .nil (by kernel_rfl) (by kernel_rfl) (l_n ?_)
    exact trl_start (ks := [0, 6, 8, 2015]) (by kernel_rfl) (ih4 (s2.1.set y7.toNat s2.2, IntKind.i64.wrap (s2.2 + 1)) hM)
  · have hM := ite_false' hM h6
    refine tr_condFe (e := decide (s2.2 < (a0.length : Int))) h6 (by kernel_rfl) ?_
    refine tr_exit (q_x (l_x (b_h (q_n ?_))))
    refine tr_sr hT hm [] [4, 2015] [(4, .d (.rs 1007 0 s2.1.length)), (2015, .r (.arr 1 (s2.1.flatMap eI.o) []))] .nil (by kernel_rfl) (by kernel_rfl) ?_
    refine tr_ret (rg_r ?_)
    obtain rfl := Option.some.inj hM
    exact retg (names := []) (.cons (lenO_flat eI_ok s2.1) .nil) (by kernel_rfl)

theorem ok45 : CallOk Try.prog 45 := callOk_of Try.func45 (by kernel_rfl) (by kernel_rfl)
theorem spec_InverseFunctor_c (a0 : XFunctor) (r : XFunctor × Int) (hM : M.spec_InverseFunctor a0 = some r) :
    FnC Try.prog 45 [] [.agg (eXFunctor.b a0)] [] (.tup [.agg (eXFunctor.o r.1), iv r.2]) := by
  refine fnc_startG (N := 23) (np := 500) hT Try.func45 rfl rfl (by kernel_rfl) ?_
  unfold M.spec_InverseFunctor at hM
  refine tr_start (ks := [0]) (st' := [(0, .d (.agg (eXFunctor.b a0)))]) (by kernel_rfl) ?_
  refine tr_sr hT hm [] [2, 4, 2003, 2005] [(2, .d (.rp 1001 0)), (4, .d (.rp 1002 0)), bxB 2003 (eXFunctor.b a0), (2005, .r (.arr 1 [iv 0, nilv, nilv, nilv, nilv, iv 0, nilv, nilv, nilv, nilv, nilv, nilv] []))] .nil (by kernel_rfl) (by kernel_rfl) ?_
  refine tr_seq ?_
  obtain ⟨v1, hv1, hM⟩ := bind_some' hM
  refine tr_sr hT hm [(1, .call [] [] [.agg [iv a0.Source.Objects, .sl a0.Source.From.length 0 (a0.Source.From.flatMap eI.b), .sl a0.Source.To.length 0 (a0.Source.To.flatMap eI.b), .sl a0.Source.Identity.length 0 (a0.Source.Identity.flatMap eI.b), .sl a0.Source.Composites.length 0 (a0.Source.Composites.flatMap (eS eI).b), iv a0.Target.Objects, .sl a0.Target.From.length 0 (a0.Target.From.flatMap eI.b), .sl a0.Target.To.length 0 (a0.Target.To.flatMap eI.b), .sl a0.Target.Identity.length 0 (a0.Target.Identity.flatMap eI.b), .sl a0.Target.Composites.length 0 (a0.Target.Composites.flatMap (eS eI).b), .sl a0.Objects.length 0 (a0.Objects.flatMap eI.b), .sl a0.Arrows.length 0 (a0.Arrows.flatMap eI.b)]] [] (bv v1))] [2, 4, 12, 2003, 2005] [(2, .d (.rp 1001 0)), (4, .d (.rp 1002 0)), (12, .d (bv (!v1))), bxB 2003 (eXFunctor.b a0), (2005, .r (.arr 1 [iv 0, nilv, nilv, nilv, nilv, iv 0, nilv, nilv, nilv, nilv, nilv, nilv] []))] (cc0 ok81 (spec_l06Is_c a0 _ hv1) (by kernel_rfl) .nil) (by kernel_rfl) (by kernel_rfl) ?_
  rcases Bool.eq_false_or_eq_true v1 with h2 | h2
  · have hM := ite_true' hM h2
    refine tr_condFe (e := !v1) (congrArg not h2) (by kernel_rfl) ?_
    refine tr_skip (q_n ?_)
    refine tr_seq ?_
    obtain ⟨v3, hv3, hM⟩ := bind_some' hM
    refine tr_sr hT hm [(1, .call [] [] [.agg [iv a0.Source.Objects, .sl a0.Source.From.length 0 (a0.Source.From.flatMap eI.b), .sl a0.Source.To.length 0 (a0.Source.To.flatMap eI.b), .sl a0.Source.Identity.length 0 (a0.Source.Identity.flatMap eI.b), .sl a0.Source.Composites.length 0 (a0.Source.Composites.flatMap (eS eI).b), iv a0.Target.Objects, .sl a0.Target.From.length 0 (a0.Target.From.flatMap eI.b), .sl a0.Target.To.length 0 (a0.Target.To.flatMap eI.b), .sl a0.Target.Identity.length 0 (a0.Target.Identity.flatMap eI.b), .sl a0.Target.Composites.length 0 (a0.Target.Composites.flatMap (eS eI).b), .sl a0.Objects.length 0 (a0.Objects.flatMap eI.b), .sl a0.Arrows.length 0 (a0.Arrows.flatMap eI.b)]] [] (bv v3))] [2, 4, 20, 2003, 2005] [(2, .d (.rp 1001 0)), (4, .d (.rp 1002 0)), (20, .d (bv (!v3))), bxB 2003 (eXFunctor.b a0), (2005, .r (.arr 1 [iv 0, nilv, nilv, nilv, nilv, iv 0, nilv, nilv, nilv, nilv, nilv, nilv] []))] (cc0 ok110 (spec_l06Iso_c a0 _ hv3) (by kernel_rfl) .nil) (by kernel_rfl) (by kernel_rfl) ?_
    rcases Bool.eq_false_or_eq_true v3 with h4 | h4
    · have hM := ite_true' hM h4
      refine tr_condFe (e := !v3) (congrArg not h4) (by kernel_rfl) ?_
      refine tr_skip (q_n ?_)
      obtain ⟨v5, hv5, hM⟩ := bind_some' hM
      obtain ⟨v6, hv6, hM⟩ := bind_some' hM
      obtain ⟨v7, hv7, hM⟩ := bind_some' hM
      refine tr_sr hT hm [(6, .call [] [] [.sl a0.Objects.length 0 (a0.Objects.flatMap eI.b)] [] (.fr 1 v5.length (v5.flatMap eI.o))), (9, .call [] [] [.sl a0.Arrows.length 0 (a0.Arrows.flatMap eI.b)] [] (.fr 1 v6.length (v6.flatMap eI.o))), (10, .call [20000, 23000] [] [.agg [iv a0.Target.Objects, .sl a0.Target.From.length 0 (a0.Target.From.flatMap eI.b), .sl a0.Target.To.length 0 (a0.Target.To.flatMap eI.b), .sl a0.Target.Identity.length 0 (a0.Target.Identity.flatMap eI.b), .sl a0.Target.Composites.length 0 (a0.Target.Composites.flatMap (eS eI).b)], .agg [iv a0.Source.Objects, .sl a0.Source.From.length 0 (a0.Source.From.flatMap eI.b), .sl a0.Source.To.length 0 (a0.Source.To.flatMap eI.b), .sl a0.Source.Identity.length 0 (a0.Source.Identity.flatMap eI.b), .sl a0.Source.Composites.length 0 (a0.Source.Composites.flatMap (eS eI).b)], .sl v5.length 0 (v5.flatMap eI.b), .sl v6.length 0 (v6.flatMap eI.b)] [] (.agg (eXFunctor.o v7)))] [4, 6, 2005, 48003, 48005, 48007, 48009, 48013, 48015, 48017, 48019, 48021, 48023] ([(4, .d (.rp 1002 0)), (6, .d (iv 0)), bxO 2005 24000 (eXFunctor.o v7)] ++ rsS 24000 (eXFunctor.o v7)) (cc0 ok112 (spec_l06Back_c a0.Objects _ hv5) (by kernel_rfl) (cc0 ok112 (spec_l06Back_c a0.Arrows _ hv6) (by kernel_rfl) (cc (B := [20000, 23000]) (ρ := []) (rB := [(20000, .arr 1 (v5.flatMap eI.o) []), (23000, .arr 1 (v6.flatMap eI.o) [])]) ok111 (spec_l06Make_c a0.Target a0.Source v5 v6 _ hv7) (.cons (.same rfl) (.cons (.same rfl) (.cons (.of1 (.rs (r := 20000) (sz := 1) (refs := []) (memB (by kernel_rfl)) (by kernel_rfl) (bor_flat eI_ok _ _ _))) (.cons (.of1 (.rs (r := 23000) (sz := 1) (refs := []) (memB (by kernel_rfl)) (by kernel_rfl) (bor_flat eI_ok _ _ _))) .nil)))) (.inr ⟨(.agg (eXFunctor_nb _)), trivial⟩) (.cons (Nat.le_of_ble_eq_true (n := 12) (m := 12) rfl) .nil)))) (by kernel_rfl) (by kernel_rfl) ?_
      refine tr_ret (rg_r ?_)
      obtain rfl := Option.some.inj hM
      exact retg (names := []) (.cons (lenO_flat eI_ok v7.Source.From) (.cons (lenO_flat eI_ok v7.Source.To) (.cons (lenO_flat eI_ok v7.Source.Identity) (.cons (lenO_flat (eS_ok eI_ok) v7.Source.Composites) (.cons (lenO_flat eI_ok v7.Target.From) (.cons (lenO_flat eI_ok v7.Target.To) (.cons (lenO_flat eI_ok v7.Target.Identity) (.cons (lenO_flat (eS_ok eI_ok) v7.Target.Composites) (.cons (lenO_flat eI_ok v7.Objects) (.cons (lenO_flat eI_ok v7.Arrows) .nil)))))))))) (by kernel_rfl)
    · have hM := ite_false' hM h4
      refine tr_condTe (e := !v3) (congrArg not h4) (by kernel_rfl) ?_
      refine tr_sr hT hm [] [4, 6, 2005] [(4, .d (.rp 1002 0)), (6, .d (iv 4)), (2005, .r (.arr 1 [iv 0, nilv, nilv, nilv, nilv, iv 0, nilv, nilv, nilv, nilv, nilv, nilv] []))] (.cons (Nat.le_of_ble_eq_true (n := 12) (m := 12) rfl) .nil) (by kernel_rfl) (by kernel_rfl) ?_
      refine tr_ret (q_r (rg_r ?_))
      refine RetG.by (imp_cvB (r := 1002) (sz := 1) (cells := [iv 0, nilv, nilv, nilv, nilv, iv 0, nilv, nilv, nilv, nilv, nilv, nilv]) (cells' := [iv 0, .fr 1 ([] : List Int).length (([] : List Int).flatMap eI.o), .fr 1 ([] : List Int).length (([] : List Int).flatMap eI.o), .fr 1 ([] : List Int).length (([] : List Int).flatMap eI.o), .fr 1 ([] : List (List Int)).length (([] : List (List Int)).flatMap (eS eI).o), iv 0, .fr 1 ([] : List Int).length (([] : List Int).flatMap eI.o), .fr 1 ([] : List Int).length (([] : List Int).flatMap eI.o), .fr 1 ([] : List Int).length (([] : List Int).flatMap eI.o), .fr 1 ([] : List (List Int)).length (([] : List (List Int)).flatMap (eS eI).o), .fr 1 ([] : List Int).length (([] : List Int).flatMap eI.o), .fr 1 ([] : List Int).length (([] : List Int).flatMap eI.o)]) (refs := []) (refs' := []) (.cons (.refl _) (.cons Sub.nil_fr (.cons Sub.nil_fr (.cons Sub.nil_fr (.cons Sub.nil_fr (.cons (.refl _) (.cons Sub.nil_fr (.cons Sub.nil_fr (.cons Sub.nil_fr (.cons Sub.nil_fr (.cons Sub.nil_fr (.cons Sub.nil_fr .nil)))))))))))) (by kernel_rfl) (by kernel_rfl) (by kernel_rfl)) ?_
      obtain rfl := Option.some.inj hM
      exact retg (names := []) .nil (by kernel_rfl)
  · have hM := ite_false' hM h2
    refine tr_condTe (e := !v1) (congrArg not h2) (by kernel_rfl) ?_
    refine tr_sr hT hm [] [4, 6, 2005] [(4, .d (.rp 1002 0)), (6, .d (iv 1)), (2005, .r (.arr 1 [iv 0, nilv, nilv, nilv, nilv, iv 0, nilv, nilv, nilv, nilv, nilv, nilv] []))] (.cons (Nat.le_of_ble_eq_true (n := 12) (m := 12) rfl) .nil) (by kernel_rfl) (by kernel_rfl) ?_
    refine tr_ret (q_r (rg_r ?_))
    refine RetG.by (imp_cvB (r := 1002) (sz := 1) (cells := [iv 0, nilv, nilv, nilv, nilv, iv 0, nilv, nilv, nilv, nilv, nilv, nilv]) (cells' := [iv 0, .fr 1 ([] : List Int).length (([] : List Int).flatMap eI.o), .fr 1 ([] : List Int).length (([] : List Int).flatMap eI.o), .fr 1 ([] : List Int).length (([] : List Int).flatMap eI.o), .fr 1 ([] : List (List Int)).length (([] : List (List Int)).flatMap (eS eI).o), iv 0, .fr 1 ([] : List Int).length (([] : List Int).flatMap eI.o), .fr 1 ([] : List Int).length (([] : List Int).flatMap eI.o), .fr 1 ([] : List Int).length (([] : List Int).flatMap eI.o), .fr 1 ([] : List (List Int)).length (([] : List (List Int)).flatMap (eS eI).o), .fr 1 ([] : List Int).length (([] : List Int).flatMap eI.o), .fr 1 ([] : List Int).length (([] : List Int).flatMap eI.o)]) (refs := []) (refs' := []) (.cons (.refl _) (.cons Sub.nil_fr (.cons Sub.nil_fr (.cons Sub.nil_fr (.cons Sub.nil_fr (.cons (.refl _) (.cons Sub.nil_fr (.cons Sub.nil_fr (.cons Sub.nil_fr (.cons Sub.nil_fr (.cons Sub.nil_fr (.cons Sub.nil_fr .nil)))))))))))) (by kernel_rfl) (by kernel_rfl) (by kernel_rfl)) ?_
    obtain rfl := Option.some.inj hM
    exact retg (names := []) .nil (by kernel_rfl)

theorem ok237 : CallOk Try.prog 237 := callOk_of Try.func237 (by kernel_rfl) (by kernel_rfl)
theorem impl_marked_c (a0 : List Bool) (r : (List Int)) (hM : M.impl_marked a0 = some r) :
    FnC Try.prog 237 [] [.sl a0.length 0 (a0.flatMap eB.b)] [] (.fr 1 r.length (r.flatMap eI.o)) := by
  refine fnc_startG (N := 21) (np := 500) hT Try.func237 rfl rfl (by kernel_rfl) ?_
  unfold M.impl_marked at hM
  refine tr_start (ks := [0]) (st' := [(0, .d (.sl a0.length 0 (a0.flatMap eB.b)))]) (by kernel_rfl) ?_
  refine tr_sr hT hm [] [0] [(0, .d (.sl a0.length 0 (a0.flatMap eB.b)))] .nil (by kernel_rfl) (by kernel_rfl) ?_
  refine tr_sr hT hm [] [0, 6, 2013] [(0, .d (.sl a0.length 0 (a0.flatMap eB.b))), (6, .d (.rs 1006 0 (([] : List Int).length))), (2013, .r (.arr 1 (([] : List Int).flatMap eI.o) []))] .nil (by kernel_rfl) (by kernel_rfl) ?_
  refine tr_seq ?_
  refine tr_sr hT hm [] [6, 14, 16, 18, 2013] [(6, .d (.rs 1006 0 (([] : List Int).length))), (14, .d (.sl a0.length 0 (a0.flatMap eB.b))), (16, .d (iv (a0.length : Int))), (18, .d (iv 0)), (2013, .r (.arr 1 (([] : List Int).flatMap eI.o) []))] .nil (by kernel_rfl) (by kernel_rfl) ?_
  refine tr_block ?_
  refine tr_iterS (fun (s1 : (List Int) × Int) => [(6, .d (.rs 1006 0 s1.1.length)), (14, .d (.sl a0.length 0 (a0.flatMap eB.b))), (16, .d (iv (a0.length : Int))), (18, .d (iv s1.2)), (2013, .r (.arr 1 (s1.1.flatMap eI.o) []))]) (([] : List Int), 0) [6, 14, 16, 18, 2013] (by kernel_rfl) hM ?_
  intro n4 next2 ih3 s1 hM
  refine tr_sr hT hm [] [6, 14, 16, 18, 20, 2013] [(6, .d (.rs 1006 0 s1.1.length)), (14, .d (.sl a0.length 0 (a0.flatMap eB.b))), (16, .d (iv (a0.length : Int))), (18, .d (iv s1.2)), (20, .d (bv (decide (s1.2 < (a0.length : Int))))), (2013, .r (.arr 1 (s1.1.flatMap eI.o) []))] .nil (by kernel_rfl) (by kernel_rfl) ?_
  refine tr_seq ?_
  rcases Bool.eq_false_or_eq_true (decide (s1.2 < (a0.length : Int))) with h5 | h5
  · have hM := ite_true' hM h5
    refine tr_condTe (e := decide (s1.2 < (a0.length : Int))) h5 (by kernel_rfl) ?_
    refine tr_skip (q_n ?_)
    refine tr_seq ?_
    refine tr_block ?_
    obtain ⟨y6, hy6, hM⟩ := bind_some' hM
    have hy6' := idx_some hy6
    refine tr_sr hT hm [(2, .val (bv y6))] [6, 8, 10, 14, 16, 18, 2013] [(6, .d (.rs 1006 0 s1.1.length)), (8, .d (iv s1.2)), (10, .d (bv y6)), (14, .d (.sl a0.length 0 (a0.flatMap eB.b))), (16, .d (iv (a0.length : Int))), (18, .d (iv s1.2)), (2013, .r (.arr 1 (s1.1.flatMap eI.o) []))] (.cons hy6'.1 (.cons hy6'.2.1 (.cons (at_b0 eB_ok hy6'.2.2 (d := bv y6) (by kernel_rfl)) .nil))) (by kernel_rfl) (by kernel_rfl) ?_
    refine tr_sr hT hm [] [6, 8, 14, 16, 18, 28, 2013] [(6, .d (.rs 1006 0 s1.1.length)), (8, .d (iv s1.2)), (14, .d (.sl a0.length 0 (a0.flatMap eB.b))), (16, .d (iv (a0.length : Int))), (18, .d (iv s1.2)), (28, .d (bv y6)), (2013, .r (.arr 1 (s1.1.flatMap eI.o) []))] .nil (by kernel_rfl) (by kernel_rfl) ?_
    rcases Bool.eq_false_or_eq_true y6 with h7 | h7
    · have hM := ite_true' hM h7
      refine tr_condTe (e := y6) h7 (by kernel_rfl) ?_
      obtain ⟨h8, hM⟩ := chk_some hM
      refine tr_r hT hm [(3, .app true)] [6, 14, 16, 18, 2037] [(6, .d (.rs 1018 0 (s1.1.length + (([s1.2] : List Int).length)))), (14, .d (.sl a0.length 0 (a0.flatMap eB.b))), (16, .d (iv (a0.length : Int))), (18, .d (iv s1.2)), (2037, .r (.arr 1 (s1.1.flatMap eI.o ++ ([s1.2] : List Int).flatMap eI.o) []))] (.cons (lenO_flat eI_ok s1.1) (.cons (lenO_flat eI_ok ([s1.2] : List Int)) (.cons h8 .nil))) (by kernel_rfl) (by kernel_rfl) (b_n (q_n ?_))
      refine Tr.by (imp_cvE (r := 1018) (sz := 1) (refs := []) (flat_app eI.o s1.1 ([s1.2] : List Int)) (menO_flat eI_ok _) (by kernel_rfl)) ?_
      refine Tr.by (imp_cvD (k := 6) (congrArg (D.rs 1018 0) ((len_app s1.1 ([s1.2] : List Int)) : s1.1.length + (([s1.2] : List Int).length) = (s1.1 ++ ([s1.2] : List Int)).length)) (by kernel_rfl)) ?_
      refine tr_r hT hm [] [6, 14, 16, 18, 2037] [(6, .d (.rs 1018 0 ((s1.1 ++ ([s1.2] : List Int)).length))), (14, .d (.sl a0.length 0 (a0.flatMap eB.b))), (16, .d (iv (a0.length : Int))), (18, .d (iv (IntKind.i64.wrap (s1.2 + 1)))), (2037, .r (.arr 1 ((s1.1 ++ ([s1.2] : List Int)).flatMap eI.o) []))] .nil (by kernel_rfl) (by kernel_rfl) (l_n ?_)
      refine TrL.by (imp_sel (ks := [6, 14, 16, 18, 2037]) (st' := [(6, .d (.rs 1018 0 ((s1.1 ++ ([s1.2] : List Int)).length))), (14, .d (.sl a0.length 0 (a0.flatMap eB.b))), (16, .d (iv (a0.length : Int))), (18, .d (iv (IntKind.i64.wrap (s1.2 + 1)))), (2037, .r (.arr 1 ((s1.1 ++ ([s1.2] : List Int)).flatMap eI.o) []))]) (by kernel_rfl)) ?_
      refine TrL.by (imp_rename (r := 1018) (q := 1006) (by kernel_rfl) (Nat.le_of_ble_eq_true rfl)) ?_
      exact trl_start (ks := [6, 14, 16, 18, 2013]) (by kernel_rfl) (ih3 (s1.1 ++ ([s1.2] : List Int), IntKind.i64.wrap (s1.2 + 1)) hM)
    · have hM := ite_false' hM h7
      refine tr_condFe (e := y6) h7 (by kernel_rfl) ?_
      refine tr_skip (b_n (q_n ?_))
      refine tr_r hT hm [] [6, 14, 16, 18, 2013] [(6, .d (.rs 1006 0 s1.1.length)), (14, .d (.sl a0.length 0 (a0.flatMap eB.b))), (16, .d (iv (a0.length : Int))), (18, .d (iv (IntKind.i64.wrap (s1.2 + 1)))), (2013, .r (.arr 1 (s1.1.flatMap eI.o) []))] .nil (by kernel_rfl) (by kernel_rfl) (l_n ?_)
      exact trl_start (ks := [6, 14, 16, 18, 2013]) (by kernel_rfl) (ih3 (s1.1, IntKind.i64.wrap (s1.2 + 1)) hM)
  · have hM := ite_false' hM h5
    refine tr_condFe (e := decide (s1.2 < (a0.length : Int))) h5 (by kernel_rfl) ?_
    refine tr_exit (q_x (l_x (b_h (q_n ?_))))
    refine tr_sr hT hm [] [4, 2013] [(4, .d (.rs 1006 0 s1.1.length)), (2013, .r (.arr 1 (s1.1.flatMap eI.o) []))] .nil (by kernel_rfl) (by kernel_rfl) ?_
    refine tr_ret (rg_r ?_)
    obtain rfl := Option.some.inj hM
    exact retg (names := []) (.cons (lenO_flat eI_ok s1.1) .nil) (by kernel_rfl)

theorem ok227 : CallOk Try.prog 227 := callOk_of Try.func227 (by kernel_rfl) (by kernel_rfl)
theorem impl_image_c (a0 : Int) (a1 : List Int) (r : (List Int)) (hM : M.impl_image a0 a1 = some r) :
    FnC Try.prog 227 [] [iv a0, .sl a1.length 0 (a1.flatMap eI.b)] [] (.fr 1 r.length (r.flatMap eI.o)) := by
  refine fnc_startG (N := 22) (np := 500) hT Try.func227 rfl rfl (by kernel_rfl) ?_
  unfold M.impl_image at hM
  refine tr_start (ks := [0, 2]) (st' := [(0, .d (iv a0)), (2, .d (.sl a1.length 0 (a1.flatMap eI.b)))]) (by kernel_rfl) ?_
  refine tr_sr hT hm [] [0, 2] [(0, .d (iv a0)), (2, .d (.sl a1.length 0 (a1.flatMap eI.b)))] .nil (by kernel_rfl) (by kernel_rfl) ?_
  obtain ⟨h1, hM⟩ := chk_some hM
  refine tr_sr hT hm [] [2, 10, 2019] [(2, .d (.sl a1.length 0 (a1.flatMap eI.b))), (10, .d (.rs 1009 0 a0.toNat)), (2019, .r (.arr 1 (repl a0.toNat [.bool false]) []))] (.cons h1.1 (.cons (Int.le_refl a0) (.cons h1.2 .nil))) (by kernel_rfl) (by kernel_rfl) ?_
  refine Tr.by (imp_cvE (r := 1009) (sz := 1) (refs := []) (repl_flat (f := eB.o) (zs := [.bool false]) (z := (false : Bool)) rfl a0.toNat) (menO_flat eB_ok _) (by kernel_rfl)) ?_
  refine Tr.by (imp_cvD (k := 10) (congrArg (D.rs 1009 0) (List.length_replicate.symm : a0.toNat = (List.replicate a0.toNat (false : Bool)).length)) (by kernel_rfl)) ?_
  refine tr_seq ?_
  refine tr_sr hT hm [] [10, 20, 22, 24, 2019] [(10, .d (.rs 1009 0 ((List.replicate a0.toNat (false : Bool)).length))), (20, .d (.sl a1.length 0 (a1.flatMap eI.b))), (22, .d (iv (a1.length : Int))), (24, .d (iv 0)), (2019, .r (.arr 1 ((List.replicate a0.toNat (false : Bool)).flatMap eB.o) []))] .nil (by kernel_rfl) (by kernel_rfl) ?_
  refine tr_block ?_
  refine tr_iterS (fun (s2 : (List Bool) × Int) => [(10, .d (.rs 1009 0 s2.1.length)), (20, .d (.sl a1.length 0 (a1.flatMap eI.b))), (22, .d (iv (a1.length : Int))), (24, .d (iv s2.2)), (2019, .r (.arr 1 (s2.1.flatMap eB.o) []))]) ((List.replicate a0.toNat (false : Bool)), 0) [10, 20, 22, 24, 2019] (by kernel_rfl) hM ?_
  intro n5 next3 ih4 s2 hM
  refine tr_sr hT hm [] [10, 20, 22, 24, 26, 2019] [(10, .d (.rs 1009 0 s2.1.length)), (20, .d (.sl a1.length 0 (a1.flatMap eI.b))), (22, .d (iv (a1.length : Int))), (24, .d (iv s2.2)), (26, .d (bv (decide (s2.2 < (a1.length : Int))))), (2019, .r (.arr 1 (s2.1.flatMap eB.o) []))] .nil (by kernel_rfl) (by kernel_rfl) ?_
  refine tr_seq ?_
  rcases Bool.eq_false_or_eq_true (decide (s2.2 < (a1.length : Int))) with h6 | h6
  · have hM := ite_true' hM h6
    refine tr_condTe (e := decide (s2.2 < (a1.length : Int))) h6 (by kernel_rfl) ?_
    refine tr_skip (q_n ?_)
    refine tr_seq ?_
    refine tr_block ?_
    obtain ⟨y7, hy7, hM⟩ := bind_some' hM
    have hy7' := idx_some hy7
    refine tr_sr hT hm [(1, .val (iv y7))] [10, 14, 20, 22, 24, 2019] [(10, .d (.rs 1009 0 s2.1.length)), (14, .d (iv y7)), (20, .d (.sl a1.length 0 (a1.flatMap eI.b))), (22, .d (iv (a1.length : Int))), (24, .d (iv s2.2)), (2019, .r (.arr 1 (s2.1.flatMap eB.o) []))] (.cons hy7'.1 (.cons hy7'.2.1 (.cons (at_b0 eI_ok hy7'.2.2 (d := iv y7) (by kernel_rfl)) .nil))) (by kernel_rfl) (by kernel_rfl) ?_
    obtain ⟨y8, hy8, hM⟩ := bind_some' hM
    have hy8' := idx_some hy8
    refine tr_r hT hm [] [10, 20, 22, 24, 2019] [(10, .d (.rs 1009 0 s2.1.length)), (20, .d (.sl a1.length 0 (a1.flatMap eI.b))), (22, .d (iv (a1.length : Int))), (24, .d (iv s2.2)), (2019, .r (.arr 1 ((s2.1.flatMap eB.o).take (0 + y7.toNat * 1) ++ [bv true] ++ (s2.1.flatMap eB.o).drop (0 + y7.toNat * 1 + 1)) []))] (.cons hy8'.1 (.cons hy8'.2.1 (.cons (store_le eB_ok hy8'.2.2) .nil))) (by kernel_rfl) (by kernel_rfl) (b_n (q_n ?_))
    refine Tr.by (imp_cvE (r := 1009) (sz := 1) (refs := []) (set_flat eB_ok.lenO (y := true) hy8'.2.2) (menO_flat eB_ok _) (by kernel_rfl)) ?_
    refine Tr.by (imp_cvD (k := 10) (congrArg (D.rs 1009 0) (List.length_set.symm : s2.1.length = (s2.1.set y7.toNat true).length)) (by kernel_rfl)) ?_
    refine tr_r hT hm [] [10, 20, 22, 24, 2019] [(10, .d (.rs 1009 0 ((s2.1.set y7.toNat true).length))), (20, .d (.sl a1.length 0 (a1.flatMap eI.b))), (22, .d (iv (a1.length : Int))), (24, .d (iv (IntKind.i64.wrap (s2.2 + 1)))), (2019, .r (.arr 1 ((s2.1.set y7.toNat true).flatMap eB.o) []))] .nil (by kernel_rfl) (by kernel_rfl) (l_n ?_)
    exact trl_start (ks := [10, 20, 22, 24, 2019]) (by kernel_rfl) (ih4 (s2.1.set y7.toNat true, IntKind.i64.wrap (s2.2 + 1)) hM)
  · have hM := ite_false' hM h6
    refine tr_condFe (e := decide (s2.2 < (a1.length : Int))) h6 (by kernel_rfl) ?_
    refine tr_exit (q_x (l_x (b_h (q_n ?_))))
    obtain ⟨v9, hv9, hM⟩ := bind_some' hM
    refine tr_sr hT hm [(1, .call [1009] [] [.sl s2.1.length 0 (s2.1.flatMap eB.b)] [] (.fr 1 v9.length (v9.flatMap eI.o)))] [8, 46001] [(8, .d (.rs 23000 0 v9.length)), (46001, .r (.arr 1 (v9.flatMap eI.o) []))] (cc (B := [1009]) (ρ := []) (rB := [(1009, .arr 1 (s2.1.flatMap eB.o) [])]) ok237 (impl_marked_c s2.1 _ hv9) (.cons (.of1 (.rs (r := 1009) (sz := 1) (refs := []) (memB (by kernel_rfl)) (by kernel_rfl) (bor_flat eB_ok _ _ _))) .nil) (.inr ⟨(.fr (nb_flat eI_nb _)), trivial⟩) .nil) (by kernel_rfl) (by kernel_rfl) ?_
    refine tr_ret (rg_r ?_)
    obtain rfl := Option.some.inj hM
    exact retg (names := []) (.cons (lenO_flat eI_ok v9) .nil) (by kernel_rfl)

theorem ok179 : CallOk Try.prog 179 := callOk_of Try.func179 (by kernel_rfl) (by kernel_rfl)
theorem impl_isBijective_c (a0 : List Int) (a1 : Int) (r : Bool) (hM : M.impl_isBijective a0 a1 = some r) :
    FnC Try.prog 179 [] [.sl a0.length 0 (a0.flatMap eI.b), iv a1] [] (bv r) := by
  refine fnc_startG (N := 22) (np := 500) hT Try.func179 rfl rfl (by kernel_rfl) ?_
  unfold M.impl_isBijective at hM
  refine tr_start (ks := [0, 2]) (st' := [(0, .d (.sl a0.length 0 (a0.flatMap eI.b))), (2, .d (iv a1))]) (by kernel_rfl) ?_
  refine tr_sr hT hm [] [0, 2] [(0, .d (.sl a0.length 0 (a0.flatMap eI.b))), (2, .d (iv a1))] .nil (by kernel_rfl) (by kernel_rfl) ?_
  rcases Bool.eq_false_or_eq_true ((a0.length : Int) == a1) with h1 | h1
  · have hM := ite_true' hM h1
    obtain ⟨v2, hv2, hM⟩ := bind_some' hM
    rcases Bool.eq_false_or_eq_true v2 with h3 | h3
    · have hM := ite_true' hM h3
      obtain ⟨v4, hv4, hM⟩ := bind_some' hM
      refine tr_sr hT hm [(4, .val (bv true)), (7, .call [] [] [.sl a0.length 0 (a0.flatMap eI.b), iv a1] [] (bv v2)), (9, .val (bv true)), (12, .call [] [] [iv a1, .sl a0.length 0 (a0.flatMap eI.b)] [] (.fr 1 v4.length (v4.flatMap eI.o)))] [8] [(8, .d (bv ((v4.length : Int) == a1)))] (.cons (congrArg (fun b => bv b) h1) (cc0 ok159 (impl_within_c a0 a1 _ hv2) (by kernel_rfl) (.cons (congrArg (fun b => bv b) h3) (cc0 ok227 (impl_image_c a1 a0 _ hv4) (by kernel_rfl) .nil)))) (by kernel_rfl) (by kernel_rfl) ?_
      refine tr_ret (rg_r ?_)
      obtain rfl := Option.some.inj hM
      exact retg (names := []) .nil (by kernel_rfl)
    · have hM := ite_false' hM h3
      refine tr_sr hT hm [(4, .val (bv true)), (7, .call [] [] [.sl a0.length 0 (a0.flatMap eI.b), iv a1] [] (bv v2)), (9, .val (bv false))] [8] [(8, .d (bv false))] (.cons (congrArg (fun b => bv b) h1) (cc0 ok159 (impl_within_c a0 a1 _ hv2) (by kernel_rfl) (.cons (congrArg (fun b => bv b) h3) .nil))) (by kernel_rfl) (by kernel_rfl) ?_
      refine tr_ret (rg_r ?_)
      obtain rfl := Option.some.inj hM
      exact retg (names := []) .nil (by kernel_rfl)
  · have hM := ite_false' hM h1
    refine tr_sr hT hm [(4, .val (bv false))] [8] [(8, .d (bv false))] (.cons (congrArg (fun b => bv b) h1) .nil) (by kernel_rfl) (by kernel_rfl) ?_
    refine tr_ret (rg_r ?_)
    obtain rfl := Option.some.inj hM
    exact retg (names := []) .nil (by kernel_rfl)

theorem ok113 : CallOk Try.prog 113 := callOk_of Try.func113 (by kernel_rfl) (by kernel_rfl)
theorem impl_Functor_isIsomorphism_c (a0 : XFunctor) (r : Bool) (hM : M.impl_Functor_isIsomorphism a0 = some r) :
    FnC Try.prog 113 [] [.pt (eXFunctor.b a0) 0] [] (bv r) := by
  refine fnc_startG (N := 24) (np := 500) hT Try.func113 rfl rfl (by kernel_rfl) ?_
  unfold M.impl_Functor_isIsomorphism at hM
  refine tr_start (ks := [0]) (st' := [(0, .d (.pt (eXFunctor.b a0) 0))]) (by kernel_rfl) ?_
  refine tr_sr hT hm [] [0] [(0, .d (.pt (eXFunctor.b a0) 0))] .nil (by kernel_rfl) (by kernel_rfl) ?_
  obtain ⟨v1, hv1, hM⟩ := bind_some' hM
  rcases Bool.eq_false_or_eq_true v1 with h2 | h2
  · have hM := ite_true' hM h2
    obtain ⟨v3, hv3, hM⟩ := bind_some' hM
    obtain ⟨v4, hv4, hM⟩ := bind_some' hM
    refine tr_sr hT hm [(9, .call [] [] [.sl a0.Objects.length 0 (a0.Objects.flatMap eI.b), iv a0.Target.Objects] [] (bv v1)), (10, .val (bv true)), (18, .call [] [] [.pt (eXCategory.b a0.Target) 0] [] (iv v3)), (19, .call [] [] [.sl a0.Arrows.length 0 (a0.Arrows.flatMap eI.b), iv v3] [] (bv v4))] [4] [(4, .d (bv v4))] (cc0 ok179 (impl_isBijective_c a0.Objects a0.Target.Objects _ hv1) (by kernel_rfl) (.cons (congrArg (fun b => bv b) h2) (cc (B := []) (ρ := []) (rB := []) ok160 (impl_Category_arrows_c a0.Target _ hv3) (.cons (.pass (.ptk (ds := eXFunctor.b a0) (ds' := eXCategory.b a0.Target) (off := 5) (n := 5) (by kernel_rfl) (by kernel_rfl) (by kernel_rfl))) .nil) (.inl rfl) (cc0 ok179 (impl_isBijective_c a0.Arrows v3 _ hv4) (by kernel_rfl) .nil)))) (by kernel_rfl) (by kernel_rfl) ?_
    refine tr_ret (rg_r ?_)
    obtain rfl := Option.some.inj hM
    exact retg (names := []) .nil (by kernel_rfl)
  · have hM := ite_false' hM h2
    refine tr_sr hT hm [(9, .call [] [] [.sl a0.Objects.length 0 (a0.Objects.flatMap eI.b), iv a0.Target.Objects] [] (bv v1)), (10, .val (bv false))] [4] [(4, .d (bv false))] (cc0 ok179 (impl_isBijective_c a0.Objects a0.Target.Objects _ hv1) (by kernel_rfl) (.cons (congrArg (fun b => bv b) h2) .nil)) (by kernel_rfl) (by kernel_rfl) ?_
    refine tr_ret (rg_r ?_)
    obtain rfl := Option.some.inj hM
    exact retg (names := []) .nil (by kernel_rfl)

theorem ok115 : CallOk Try.prog 115 := callOk_of Try.func115 (by kernel_rfl) (by kernel_rfl)
theorem impl_backwards_c (a0 : List Int) (r : (List Int)) (hM : M.impl_backwards a0 = some r) :
    FnC Try.prog 115 [] [.sl a0.length 0 (a0.flatMap eI.b)] [] (.fr 1 r.length (r.flatMap eI.o)) := by
  refine fnc_startG (N := 22) (np := 500) hT Try.func115 rfl rfl (by kernel_rfl) ?_
  unfold M.impl_backwards at hM
  refine tr_start (ks := [0]) (st' := [(0, .d (.sl a0.length 0 (a0.flatMap eI.b)))]) (by kernel_rfl) ?_
  refine tr_sr hT hm [] [0] [(0, .d (.sl a0.length 0 (a0.flatMap eI.b)))] .nil (by kernel_rfl) (by kernel_rfl) ?_
  obtain ⟨h1, hM⟩ := chk_some hM
  refine tr_sr hT hm [] [0, 6, 2017] [(0, .d (.sl a0.length 0 (a0.flatMap eI.b))), (6, .d (.rs 1008 0 ((a0.length : Int).toNat))), (2017, .r (.arr 1 (repl (a0.length : Int).toNat [.int .i64 0]) []))] (.cons h1.1 (.cons (Int.le_refl (a0.length : Int)) (.cons h1.2 .nil))) (by kernel_rfl) (by kernel_rfl) ?_
  refine Tr.by (imp_cvE (r := 1008) (sz := 1) (refs := []) (repl_flat (f := eI.o) (zs := [.int .i64 0]) (z := (0 : Int)) rfl (a0.length : Int).toNat) (menO_flat eI_ok _) (by kernel_rfl)) ?_
  refine Tr.by (imp_cvD (k := 6) (congrArg (D.rs 1008 0) (List.length_replicate.symm : (a0.length : Int).toNat = (List.replicate (a0.length : Int).toNat (0 : Int)).length)) (by kernel_rfl)) ?_
  refine tr_seq ?_
  refine tr_sr hT hm [] [6, 18, 20, 22, 2017] [(6, .d (.rs 1008 0 ((List.replicate (a0.length : Int).toNat (0 : Int)).length))), (18, .d (.sl a0.length 0 (a0.flatMap eI.b))), (20, .d (iv (a0.length : Int))), (22, .d (iv 0)), (2017, .r (.arr 1 ((List.replicate (a0.length : Int).toNat (0 : Int)).flatMap eI.o) []))] .nil (by kernel_rfl) (by kernel_rfl) ?_
  refine tr_block ?_
  refine tr_iterS (fun (s2 : (List Int) × Int) => [(6, .d (.rs 1008 0 s2.1.length)), (18, .d (.sl a0.length 0 (a0.flatMap eI.b))), (20, .d (iv (a0.length : Int))), (22, .d (iv s2.2)), (2017, .r (.arr 1 (s2.1.flatMap eI.o) []))]) ((List.replicate (a0.length : Int).toNat (0 : Int)), 0) [6, 18, 20, 22, 2017] (by kernel_rfl) hM ?_
  intro n5 next3 ih4 s2 hM
  refine tr_sr hT hm [] [6, 18, 20, 22, 24, 2017] [(6, .d (.rs 1008 0 s2.1.length)), (18, .d (.sl a0.length 0 (a0.flatMap eI.b))), (20, .d (iv (a0.length : Int))), (22, .d (iv s2.2)), (24, .d (bv (decide (s2.2 < (a0.length : Int))))), (2017, .r (.arr 1 (s2.1.flatMap eI.o) []))] .nil (by kernel_rfl) (by kernel_rfl) ?_
  refine tr_seq ?_
  rcases Bool.eq_false_or_eq_true (decide (s2.2 < (a0.length : Int))) with h6 | h6
  · have hM := ite_true' hM h6
    refine tr_condTe (e := decide (s2.2 < (a0.length : Int))) h6 (by kernel_rfl) ?_
    refine tr_skip (q_n ?_)
    refine tr_seq ?_
    refine tr_block ?_
    obtain ⟨y7, hy7, hM⟩ := bind_some' hM
    have hy7' := idx_some hy7
    refine tr_sr hT hm [(2, .val (iv y7))] [6, 8, 10, 18, 20, 22, 2017] [(6, .d (.rs 1008 0 s2.1.length)), (8, .d (iv s2.2)), (10, .d (iv y7)), (18, .d (.sl a0.length 0 (a0.flatMap eI.b))), (20, .d (iv (a0.length : Int))), (22, .d (iv s2.2)), (2017, .r (.arr 1 (s2.1.flatMap eI.o) []))] (.cons hy7'.1 (.cons hy7'.2.1 (.cons (at_b0 eI_ok hy7'.2.2 (d := iv y7) (by kernel_rfl)) .nil))) (by kernel_rfl) (by kernel_rfl) ?_
    obtain ⟨y8, hy8, hM⟩ := bind_some' hM
    have hy8' := idx_some hy8
    refine tr_r hT hm [] [6, 18, 20, 22, 2017] [(6, .d (.rs 1008 0 s2.1.length)), (18, .d (.sl a0.length 0 (a0.flatMap eI.b))), (20, .d (iv (a0.length : Int))), (22, .d (iv s2.2)), (2017, .r (.arr 1 ((s2.1.flatMap eI.o).take (0 + y7.toNat * 1) ++ [iv s2.2] ++ (s2.1.flatMap eI.o).drop (0 + y7.toNat * 1 + 1)) []))] (.cons hy8'.1 (.cons hy8'.2.1 (.cons (store_le eI_ok hy8'.2.2) .nil))) (by kernel_rfl) (by kernel_rfl) (b_n (q_n ?_))
    refine Tr.by (imp_cvE (r := 1008) (sz := 1) (refs := []) (set_flat eI_ok.lenO (y := s2.2) hy8'.2.2) (menO_flat eI_ok _) (by kernel_rfl)) ?_
    refine Tr.by (imp_cvD (k := 6) (congrArg (D.rs 1008 0) (List.length_set.symm : s2.1.length = (s2.1.set y7.toNat s2.2).length)) (by kernel_rfl)) ?_
    refine tr_r hT hm [] [6, 18, 20, 22, 2017] [(6, .d (.rs 1008 0 ((s2.1.set y7.toNat s2.2).length))), (18, .d (.sl a0.length 0 (a0.flatMap eI.b))), (20, .d (iv (a0.length : Int))), (22, .d (iv (IntKind.i64.wrap (s2.2 + 1)))), (2017, .r (.arr 1 ((s2.1.set y7.toNat s2.2).flatMap eI.o) []))] .nil (by kernel_rfl) (by kernel_rfl) (l_n ?_)
    exact trl_start (ks := [6, 18, 20, 22, 2017]) (by kernel_rfl) (ih4 (s2.1.set y7.toNat s2.2, IntKind.i64.wrap (s2.2 + 1)) hM)
  · have hM := ite_false' hM h6
    refine tr_condFe (e := decide (s2.2 < (a0.length : Int))) h6 (by kernel_rfl) ?_
    refine tr_exit (q_x (l_x (b_h (q_n ?_))))
    refine tr_sr hT hm [] [4, 2017] [(4, .d (.rs 1008 0 s2.1.length)), (2017, .r (.arr 1 (s2.1.flatMap eI.o) []))] .nil (by kernel_rfl) (by kernel_rfl) ?_
    refine tr_ret (rg_r ?_)
    obtain rfl := Option.some.inj hM
    exact retg (names := []) (.cons (lenO_flat eI_ok s2.1) .nil) (by kernel_rfl)

theorem ok46 : CallOk Try.prog 46 := callOk_of Try.func46 (by kernel_rfl) (by kernel_rfl)
theorem impl_InverseFunctor_c (a0 : XFunctor) (r : XFunctor × Int) (hM : M.impl_InverseFunctor a0 = some r) :
    FnC Try.prog 46 [] [.agg (eXFunctor.b a0)] [] (.tup [.agg (eXFunctor.o r.1), iv r.2]) := by
  refine fnc_startG (N := 19) (np := 500) hT Try.func46 rfl rfl (by kernel_rfl) ?_
  unfold M.impl_InverseFunctor at hM
  refine tr_start (ks := [0]) (st' := [(0, .d (.agg (eXFunctor.b a0)))]) (by kernel_rfl) ?_
  refine tr_sr hT hm [] [2, 4, 2003, 2005] [(2, .d (.rp 1001 0)), (4, .d (.rp 1002 0)), bxB 2003 (eXFunctor.b a0), (2005, .r (.arr 1 [iv 0, nilv, nilv, nilv, nilv, iv 0, nilv, nilv, nilv, nilv, nilv, nilv] []))] .nil (by kernel_rfl) (by kernel_rfl) ?_
  refine tr_seq ?_
  obtain ⟨v1, hv1, hM⟩ := bind_some' hM
  refine tr_sr hT hm [(0, .call [1001] [] [.pt (eXFunctor.b a0) 0] [] (bv v1))] [2, 4, 10, 2003, 2005] [(2, .d (.rp 1001 0)), (4, .d (.rp 1002 0)), (10, .d (bv (!v1))), bxB 2003 (eXFunctor.b a0), (2005, .r (.arr 1 [iv 0, nilv, nilv, nilv, nilv, iv 0, nilv, nilv, nilv, nilv, nilv, nilv] []))] (cc (B := [1001]) (ρ := []) (rB := [(1001, .arr 1 [iv a0.Source.Objects, .sl a0.Source.From.length 0 (a0.Source.From.flatMap eI.b), .sl a0.Source.To.length 0 (a0.Source.To.flatMap eI.b), .sl a0.Source.Identity.length 0 (a0.Source.Identity.flatMap eI.b), .sl a0.Source.Composites.length 0 (a0.Source.Composites.flatMap (eS eI).b), iv a0.Target.Objects, .sl a0.Target.From.length 0 (a0.Target.From.flatMap eI.b), .sl a0.Target.To.length 0 (a0.Target.To.flatMap eI.b), .sl a0.Target.Identity.length 0 (a0.Target.Identity.flatMap eI.b), .sl a0.Target.Composites.length 0 (a0.Target.Composites.flatMap (eS eI).b), .sl a0.Objects.length 0 (a0.Objects.flatMap eI.b), .sl a0.Arrows.length 0 (a0.Arrows.flatMap eI.b)] [])]) ok89 (impl_Functor_isFunctor_c a0 _ hv1) (.cons (.of1 (.rp (r := 1001) (sz := 1) (cells := [iv a0.Source.Objects, .sl a0.Source.From.length 0 (a0.Source.From.flatMap eI.b), .sl a0.Source.To.length 0 (a0.Source.To.flatMap eI.b), .sl a0.Source.Identity.length 0 (a0.Source.Identity.flatMap eI.b), .sl a0.Source.Composites.length 0 (a0.Source.Composites.flatMap (eS eI).b), iv a0.Target.Objects, .sl a0.Target.From.length 0 (a0.Target.From.flatMap eI.b), .sl a0.Target.To.length 0 (a0.Target.To.flatMap eI.b), .sl a0.Target.Identity.length 0 (a0.Target.Identity.flatMap eI.b), .sl a0.Target.Composites.length 0 (a0.Target.Composites.flatMap (eS eI).b), .sl a0.Objects.length 0 (a0.Objects.flatMap eI.b), .sl a0.Arrows.length 0 (a0.Arrows.flatMap eI.b)]) (refs := []) (memB (by kernel_rfl)) (by kernel_rfl) (.cons .v (.cons (.same rfl rfl) (.cons (.same rfl rfl) (.cons (.same rfl rfl) (.cons (.same rfl rfl) (.cons .v (.cons (.same rfl rfl) (.cons (.same rfl rfl) (.cons (.same rfl rfl) (.cons (.same rfl rfl) (.cons (.same rfl rfl) (.cons (.same rfl rfl) .nil)))))))))))))) .nil) (.inr ⟨.v, trivial⟩) .nil) (by kernel_rfl) (by kernel_rfl) ?_
  rcases Bool.eq_false_or_eq_true v1 with h2 | h2
  · have hM := ite_true' hM h2
    refine tr_condFe (e := !v1) (congrArg not h2) (by kernel_rfl) ?_
    refine tr_skip (q_n ?_)
    refine tr_seq ?_
    obtain ⟨v3, hv3, hM⟩ := bind_some' hM
    refine tr_sr hT hm [(0, .call [1001] [] [.pt (eXFunctor.b a0) 0] [] (bv v3))] [2, 4, 16, 2003, 2005] [(2, .d (.rp 1001 0)), (4, .d (.rp 1002 0)), (16, .d (bv (!v3))), bxB 2003 (eXFunctor.b a0), (2005, .r (.arr 1 [iv 0, nilv, nilv, nilv, nilv, iv 0, nilv, nilv, nilv, nilv, nilv, nilv] []))] (cc (B := [1001]) (ρ := []) (rB := [(1001, .arr 1 [iv a0.Source.Objects, .sl a0.Source.From.length 0 (a0.Source.From.flatMap eI.b), .sl a0.Source.To.length 0 (a0.Source.To.flatMap eI.b), .sl a0.Source.Identity.length 0 (a0.Source.Identity.flatMap eI.b), .sl a0.Source.Composites.length 0 (a0.Source.Composites.flatMap (eS eI).b), iv a0.Target.Objects, .sl a0.Target.From.length 0 (a0.Target.From.flatMap eI.b), .sl a0.Target.To.length 0 (a0.Target.To.flatMap eI.b), .sl a0.Target.Identity.length 0 (a0.Target.Identity.flatMap eI.b), .sl a0.Target.Composites.length 0 (a0.Target.Composites.flatMap (eS eI).b), .sl a0.Objects.length 0 (a0.Objects.flatMap eI.b), .sl a0.Arrows.length 0 (a0.Arrows.flatMap eI.b)] [])]) ok113 (impl_Functor_isIsomorphism_c a0 _ hv3) (.cons (.of1 (.rp (r := 1001) (sz := 1) (cells := [iv a0.Source.Objects, .sl a0.Source.From.length 0 (a0.Source.From.flatMap eI.b), .sl a0.Source.To.length 0 (a0.Source.To.flatMap eI.b), .sl a0.Source.Identity.length 0 (a0.Source.Identity.flatMap eI.b), .sl a0.Source.Composites.length 0 (a0.Source.Composites.flatMap (eS eI).b), iv a0.Target.Objects, .sl a0.Target.From.length 0 (a0.Target.From.flatMap eI.b), .sl a0.Target.To.length 0 (a0.Target.To.flatMap eI.b), .sl a0.Target.Identity.length 0 (a0.Target.Identity.flatMap eI.b), .sl a0.Target.Composites.length 0 (a0.Target.Composites.flatMap (eS eI).b), .sl a0.Objects.length 0 (a0.Objects.flatMap eI.b), .sl a0.Arrows.length 0 (a0.Arrows.flatMap eI.b)]) (refs := []) (memB (by kernel_rfl)) (by kernel_rfl) (.cons .v (.cons (.same rfl rfl) (.cons (.same rfl rfl) (.cons (.same rfl rfl) (.cons (.same rfl rfl) (.cons .v (.cons (.same rfl rfl) (.cons (.same rfl rfl) (.cons (.same rfl rfl) (.cons (.same rfl rfl) (.cons (.same rfl rfl) (.cons (.same rfl rfl) .nil)))))))))))))) .nil) (.inr ⟨.v, trivial⟩) .nil) (by kernel_rfl) (by kernel_rfl) ?_
    rcases Bool.eq_false_or_eq_true v3 with h4 | h4
    · have hM := ite_true' hM h4
      refine tr_condFe (e := !v3) (congrArg not h4) (by kernel_rfl) ?_
      refine tr_skip (q_n ?_)
      obtain ⟨v5, hv5, hM⟩ := bind_some' hM
      obtain ⟨v6, hv6, hM⟩ := bind_some' hM
      obtain ⟨v7, hv7, hM⟩ := bind_some' hM
      refine tr_sr hT hm [(4, .call [] [] [.sl a0.Objects.length 0 (a0.Objects.flatMap eI.b)] [] (.fr 1 v5.length (v5.flatMap eI.o))), (7, .call [] [] [.sl a0.Arrows.length 0 (a0.Arrows.flatMap eI.b)] [] (.fr 1 v6.length (v6.flatMap eI.o))), (8, .call [1001, 16000, 19000] [] [.pt (eXCategory.b a0.Target) 0, .pt (eXCategory.b a0.Source) 0, .sl v5.length 0 (v5.flatMap eI.b), .sl v6.length 0 (v6.flatMap eI.b)] [] (.agg (eXFunctor.o v7)))] [4, 6, 2005, 40003, 40005, 40007, 40009, 40013, 40015, 40017, 40019, 40021, 40023] ([(4, .d (.rp 1002 0)), (6, .d (iv 0)), bxO 2005 20000 (eXFunctor.o v7)] ++ rsS 20000 (eXFunctor.o v7)) (cc0 ok115 (impl_backwards_c a0.Objects _ hv5) (by kernel_rfl) (cc0 ok115 (impl_backwards_c a0.Arrows _ hv6) (by kernel_rfl) (cc (B := [1001, 16000, 19000]) (ρ := []) (rB := [(1001, .arr 1 [iv a0.Source.Objects, .sl a0.Source.From.length 0 (a0.Source.From.flatMap eI.b), .sl a0.Source.To.length 0 (a0.Source.To.flatMap eI.b), .sl a0.Source.Identity.length 0 (a0.Source.Identity.flatMap eI.b), .sl a0.Source.Composites.length 0 (a0.Source.Composites.flatMap (eS eI).b), iv a0.Target.Objects, .sl a0.Target.From.length 0 (a0.Target.From.flatMap eI.b), .sl a0.Target.To.length 0 (a0.Target.To.flatMap eI.b), .sl a0.Target.Identity.length 0 (a0.Target.Identity.flatMap eI.b), .sl a0.Target.Composites.length 0 (a0.Target.Composites.flatMap (eS eI).b), .sl a0.Objects.length 0 (a0.Objects.flatMap eI.b), .sl a0.Arrows.length 0 (a0.Arrows.flatMap eI.b)] []), (16000, .arr 1 (v5.flatMap eI.o) []), (19000, .arr 1 (v6.flatMap eI.o) [])]) ok114 (impl_functor_c a0.Target a0.Source v5 v6 _ hv7) (.cons (.rpSub (r := 1001) (off := 5) (n := 5) (sz := 1) (cells := [iv a0.Source.Objects, .sl a0.Source.From.length 0 (a0.Source.From.flatMap eI.b), .sl a0.Source.To.length 0 (a0.Source.To.flatMap eI.b), .sl a0.Source.Identity.length 0 (a0.Source.Identity.flatMap eI.b), .sl a0.Source.Composites.length 0 (a0.Source.Composites.flatMap (eS eI).b), iv a0.Target.Objects, .sl a0.Target.From.length 0 (a0.Target.From.flatMap eI.b), .sl a0.Target.To.length 0 (a0.Target.To.flatMap eI.b), .sl a0.Target.Identity.length 0 (a0.Target.Identity.flatMap eI.b), .sl a0.Target.Composites.length 0 (a0.Target.Composites.flatMap (eS eI).b), .sl a0.Objects.length 0 (a0.Objects.flatMap eI.b), .sl a0.Arrows.length 0 (a0.Arrows.flatMap eI.b)]) (refs := []) (ds' := eXCategory.b a0.Target) (by kernel_rfl) (by kernel_rfl) (.cons .v (.cons (.same rfl rfl) (.cons (.same rfl rfl) (.cons (.same rfl rfl) (.cons (.same rfl rfl) (.cons .v (.cons (.same rfl rfl) (.cons (.same rfl rfl) (.cons (.same rfl rfl) (.cons (.same rfl rfl) (.cons (.same rfl rfl) (.cons (.same rfl rfl) .nil)))))))))))) (Nat.le_of_ble_eq_true rfl) (by kernel_rfl) (by kernel_rfl)) (.cons (.rpSub (r := 1001) (off := 0) (n := 5) (sz := 1) (cells := [iv a0.Source.Objects, .sl a0.Source.From.length 0 (a0.Source.From.flatMap eI.b), .sl a0.Source.To.length 0 (a0.Source.To.flatMap eI.b), .sl a0.Source.Identity.length 0 (a0.Source.Identity.flatMap eI.b), .sl a0.Source.Composites.length 0 (a0.Source.Composites.flatMap (eS eI).b), iv a0.Target.Objects, .sl a0.Target.From.length 0 (a0.Target.From.flatMap eI.b), .sl a0.Target.To.length 0 (a0.Target.To.flatMap eI.b), .sl a0.Target.Identity.length 0 (a0.Target.Identity.flatMap eI.b), .sl a0.Target.Composites.length 0 (a0.Target.Composites.flatMap (eS eI).b), .sl a0.Objects.length 0 (a0.Objects.flatMap eI.b), .sl a0.Arrows.length 0 (a0.Arrows.flatMap eI.b)]) (refs := []) (ds' := eXCategory.b a0.Source) (by kernel_rfl) (by kernel_rfl) (.cons .v (.cons (.same rfl rfl) (.cons (.same rfl rfl) (.cons (.same rfl rfl) (.cons (.same rfl rfl) (.cons .v (.cons (.same rfl rfl) (.cons (.same rfl rfl) (.cons (.same rfl rfl) (.cons (.same rfl rfl) (.cons (.same rfl rfl) (.cons (.same rfl rfl) .nil)))))))))))) (Nat.le_of_ble_eq_true rfl) (by kernel_rfl) (by kernel_rfl)) (.cons (.of1 (.rs (r := 16000) (sz := 1) (refs := []) (memB (by kernel_rfl)) (by kernel_rfl) (bor_flat eI_ok _ _ _))) (.cons (.of1 (.rs (r := 19000) (sz := 1) (refs := []) (memB (by kernel_rfl)) (by kernel_rfl) (bor_flat eI_ok _ _ _))) .nil)))) (.inr ⟨(.agg (eXFunctor_nb _)), trivial⟩) (.cons (Nat.le_of_ble_eq_true (n := 12) (m := 12) rfl) .nil)))) (by kernel_rfl) (by kernel_rfl) ?_
      refine tr_ret (rg_r ?_)
      obtain rfl := Option.some.inj hM
      exact retg (names := []) (.cons (lenO_flat eI_ok v7.Source.From) (.cons (lenO_flat eI_ok v7.Source.To) (.cons (lenO_flat eI_ok v7.Source.Identity) (.cons (lenO_flat (eS_ok eI_ok) v7.Source.Composites) (.cons (lenO_flat eI_ok v7.Target.From) (.cons (lenO_flat eI_ok v7.Target.To) (.cons (lenO_flat eI_ok v7.Target.Identity) (.cons (lenO_flat (eS_ok eI_ok) v7.Target.Composites) (.cons (lenO_flat eI_ok v7.Objects) (.cons (lenO_flat eI_ok v7.Arrows) .nil)))))))))) (by kernel_rfl)
    · have hM := ite_false' hM h4
      refine tr_condTe (e := !v3) (congrArg not h4) (by kernel_rfl) ?_
      refine tr_sr hT hm [] [4, 6, 2005] [(4, .d (.rp 1002 0)), (6, .d (iv 4)), (2005, .r (.arr 1 [iv 0, nilv, nilv, nilv, nilv, iv 0, nilv, nilv, nilv, nilv, nilv, nilv] []))] (.cons (Nat.le_of_ble_eq_true (n := 12) (m := 12) rfl) .nil) (by kernel_rfl) (by kernel_rfl) ?_
      refine tr_ret (q_r (rg_r ?_))
      refine RetG.by (imp_cvB (r := 1002) (sz := 1) (cells := [iv 0, nilv, nilv, nilv, nilv, iv 0, nilv, nilv, nilv, nilv, nilv, nilv]) (cells' := [iv 0, .fr 1 ([] : List Int).length (([] : List Int).flatMap eI.o), .fr 1 ([] : List Int).length (([] : List Int).flatMap eI.o), .fr 1 ([] : List Int).length (([] : List Int).flatMap eI.o), .fr 1 ([] : List (List Int)).length (([] : List (List Int)).flatMap (eS eI).o), iv 0, .fr 1 ([] : List Int).length (([] : List Int).flatMap eI.o), .fr 1 ([] : List Int).length (([] : List Int).flatMap eI.o), .fr 1 ([] : List Int).length (([] : List Int).flatMap eI.o), .fr 1 ([] : List (List Int)).length (([] : List (List Int)).flatMap (eS eI).o), .fr 1 ([] : List Int).length (([] : List Int).flatMap eI.o), .fr 1 ([] : List Int).length (([] : List Int).flatMap eI.o)]) (refs := []) (refs' := []) (.cons (.refl _) (.cons Sub.nil_fr (.cons Sub.nil_fr (.cons Sub.nil_fr (.cons Sub.nil_fr (.cons (.refl _) (.cons Sub.nil_fr (.cons Sub.nil_fr (.cons Sub.nil_fr (.cons Sub.nil_fr (.cons Sub.nil_fr (.cons Sub.nil_fr .nil)))))))))))) (by kernel_rfl) (by kernel_rfl) (by kernel_rfl)) ?_
      obtain rfl := Option.some.inj hM
      exact retg (names := []) .nil (by kernel_rfl)
  · have hM := ite_false' hM h2
    refine tr_condTe (e := !v1) (congrArg not h2) (by kernel_rfl) ?_
    refine tr_sr hT hm [] [4, 6, 2005] [(4, .d (.rp 1002 0)), (6, .d (iv 1)), (2005, .r (.arr 1 [iv 0, nilv, nilv, nilv, nilv, iv 0, nilv, nilv, nilv, nilv, nilv, nilv] []))] (.cons (Nat.le_of_ble_eq_true (n := 12) (m := 12) rfl) .nil) (by kernel_rfl) (by kernel_rfl) ?_
    refine tr_ret (q_r (rg_r ?_))
    refine RetG.by (imp_cvB (r := 1002) (sz := 1) (cells := [iv 0, nilv, nilv, nilv, nilv, iv 0, nilv, nilv, nilv, nilv, nilv, nilv]) (cells' := [iv 0, .fr 1 ([] : List Int).length (([] : List Int).flatMap eI.o), .fr 1 ([] : List Int).length (([] : List Int).flatMap eI.o), .fr 1 ([] : List Int).length (([] : List Int).flatMap eI.o), .fr 1 ([] : List (List Int)).length (([] : List (List Int)).flatMap (eS eI).o), iv 0, .fr 1 ([] : List Int).length (([] : List Int).flatMap eI.o), .fr 1 ([] : List Int).length (([] : List Int).flatMap eI.o), .fr 1 ([] : List Int).length (([] : List Int).flatMap eI.o), .fr 1 ([] : List (List Int)).length (([] : List (List Int)).flatMap (eS eI).o), .fr 1 ([] : List Int).length (([] : List Int).flatMap eI.o), .fr 1 ([] : List Int).length (([] : List Int).flatMap eI.o)]) (refs := []) (refs' := []) (.cons (.refl _) (.cons Sub.nil_fr (.cons Sub.nil_fr (.cons Sub.nil_fr (.cons Sub.nil_fr (.cons (.refl _) (.cons Sub.nil_fr (.cons Sub.nil_fr (.cons Sub.nil_fr (.cons Sub.nil_fr (.cons Sub.nil_fr (.cons Sub.nil_fr .nil)))))))))))) (by kernel_rfl) (by kernel_rfl) (by kernel_rfl)) ?_
    obtain rfl := Option.some.inj hM
    exact retg (names := []) .nil (by kernel_rfl)

theorem ok10 : CallOk Try.prog 10 := callOk_of Try.func10 (by kernel_rfl) (by kernel_rfl)
theorem laws_FnExactInverseFunctor_c (a0 : XFunctor) (r : Bool) (hM : M.laws_FnExactInverseFunctor a0 = some r) :
    FnC Try.prog 10 [] [.agg (eXFunctor.b a0)] [] (bv r) := by
  refine fnc_startG (N := 96) (np := 500) hT Try.func10 rfl rfl (by kernel_rfl) ?_
  unfold M.laws_FnExactInverseFunctor at hM
  refine tr_start (ks := [0]) (st' := [(0, .d (.agg (eXFunctor.b a0)))]) (by kernel_rfl) ?_
  refine tr_sr hT hm [] [2, 2003] [(2, .d (.rp 1001 0)), bxB 2003 (eXFunctor.b a0)] .nil (by kernel_rfl) (by kernel_rfl) ?_
  refine tr_sr hT hm [] [2, 6, 2003] [(2, .d (.rp 1001 0)), (6, .d (iv 1048576)), bxB 2003 (eXFunctor.b a0)] .nil (by kernel_rfl) (by kernel_rfl) ?_
  obtain ⟨v1, hv1, hM⟩ := bind_some' hM
  refine tr_sr hT hm [(2, .call [] [] [.agg [iv a0.Source.Objects, .sl a0.Source.From.length 0 (a0.Source.From.flatMap eI.b), .sl a0.Source.To.length 0 (a0.Source.To.flatMap eI.b), .sl a0.Source.Identity.length 0 (a0.Source.Identity.flatMap eI.b), .sl a0.Source.Composites.length 0 (a0.Source.Composites.flatMap (eS eI).b), iv a0.Target.Objects, .sl a0.Target.From.length 0 (a0.Target.From.flatMap eI.b), .sl a0.Target.To.length 0 (a0.Target.To.flatMap eI.b), .sl a0.Target.Identity.length 0 (a0.Target.Identity.flatMap eI.b), .sl a0.Target.Composites.length 0 (a0.Target.Composites.flatMap (eS eI).b), .sl a0.Objects.length 0 (a0.Objects.flatMap eI.b), .sl a0.Arrows.length 0 (a0.Arrows.flatMap eI.b)], iv 1048576] [] (iv v1))] [2, 6, 2003] [(2, .d (.rp 1001 0)), (6, .d (iv v1)), bxB 2003 (eXFunctor.b a0)] (cc0 ok14 (laws_szFunctor_c a0 1048576 _ hv1) (by kernel_rfl) .nil) (by kernel_rfl) (by kernel_rfl) ?_
  refine tr_seq ?_
  refine tr_sr hT hm [] [2, 36, 2003] [(2, .d (.rp 1001 0)), (36, .d (bv (decide (v1 < 0)))), bxB 2003 (eXFunctor.b a0)] .nil (by kernel_rfl) (by kernel_rfl) ?_
  rcases Bool.eq_false_or_eq_true (decide (v1 < 0)) with h2 | h2
  · have hM := ite_true' hM h2
    refine tr_condTe (e := decide (v1 < 0)) h2 (by kernel_rfl) ?_
    refine tr_sr hT hm [] [4] [(4, .d (bv true))] .nil (by kernel_rfl) (by kernel_rfl) ?_
    refine tr_ret (q_r (rg_r ?_))
    obtain rfl := Option.some.inj hM
    exact retg (names := []) .nil (by kernel_rfl)
  · have hM := ite_false' hM h2
    refine tr_condFe (e := decide (v1 < 0)) h2 (by kernel_rfl) ?_
    refine tr_skip (q_n ?_)
    obtain ⟨v3, hv3, hM⟩ := bind_some' hM
    obtain ⟨v4, hv4, hM⟩ := bind_some' hM
    refine tr_sr hT hm [(1, .call [] [] [.agg [iv a0.Source.Objects, .sl a0.Source.From.length 0 (a0.Source.From.flatMap eI.b), .sl a0.Source.To.length 0 (a0.Source.To.flatMap eI.b), .sl a0.Source.Identity.length 0 (a0.Source.Identity.flatMap eI.b), .sl a0.Source.Composites.length 0 (a0.Source.Composites.flatMap (eS eI).b), iv a0.Target.Objects, .sl a0.Target.From.length 0 (a0.Target.From.flatMap eI.b), .sl a0.Target.To.length 0 (a0.Target.To.flatMap eI.b), .sl a0.Target.Identity.length 0 (a0.Target.Identity.flatMap eI.b), .sl a0.Target.Composites.length 0 (a0.Target.Composites.flatMap (eS eI).b), .sl a0.Objects.length 0 (a0.Objects.flatMap eI.b), .sl a0.Arrows.length 0 (a0.Arrows.flatMap eI.b)]] [] (.agg (eXFunctor.o v3))), (2, .call (rsR 23000 (eXFunctor.o v3)) [] [.agg (eXFunctor.b v3)] [] (.tup [.agg (eXFunctor.o v4.1), iv v4.2]))] [2, 8, 10, 2003, 2009, 48003, 48005, 48007, 48009, 48013, 48015, 48017, 48019, 48021, 48023] ([(2, .d (.rp 1001 0)), (8, .d (.rp 1004 0)), (10, .d (iv v4.2)), bxB 2003 (eXFunctor.b a0), bxO 2009 24000 (eXFunctor.o v4.1)] ++ rsS 24000 (eXFunctor.o v4.1)) (cc0 ok16 (laws_toFunctor_c a0 _ hv3) (by kernel_rfl) (cc (B := (rsR 23000 (eXFunctor.o v3))) (ρ := []) (rB := (rsP 23000 (eXFunctor.o v3))) ok45 (spec_InverseFunctor_c v3 _ hv4) (.cons (bor_rs eXFunctor_r (q := 23000) (x := v3) (by kernel_rfl) (by kernel_rfl)) .nil) (.inr ⟨(nobor_tup (.cons (.agg (eXFunctor_nb _)) (.cons .v .nil))), trivial⟩) (.cons (Nat.le_of_ble_eq_true (n := 12) (m := 12) rfl) .nil))) (by kernel_rfl) (by kernel_rfl) ?_
    refine tr_sr hT hm [(1, .call [] [] [.agg [iv a0.Source.Objects, .sl a0.Source.From.length 0 (a0.Source.From.flatMap eI.b), .sl a0.Source.To.length 0 (a0.Source.To.flatMap eI.b), .sl a0.Source.Identity.length 0 (a0.Source.Identity.flatMap eI.b), .sl a0.Source.Composites.length 0 (a0.Source.Composites.flatMap (eS eI).b), iv a0.Target.Objects, .sl a0.Target.From.length 0 (a0.Target.From.flatMap eI.b), .sl a0.Target.To.length 0 (a0.Target.To.flatMap eI.b), .sl a0.Target.Identity.length 0 (a0.Target.Identity.flatMap eI.b), .sl a0.Target.Composites.length 0 (a0.Target.Composites.flatMap (eS eI).b), .sl a0.Objects.length 0 (a0.Objects.flatMap eI.b), .sl a0.Arrows.length 0 (a0.Arrows.flatMap eI.b)]] [] (.agg (eXFunctor.o v3)))] [2, 8, 10, 12, 2003, 2009, 2013, 48003, 48005, 48007, 48009, 48013, 48015, 48017, 48019, 48021, 48023, 56003, 56005, 56007, 56009, 56013, 56015, 56017, 56019, 56021, 56023] ([(2, .d (.rp 1001 0)), (8, .d (.rp 1004 0)), (10, .d (iv v4.2)), (12, .d (.rp 1006 0)), bxB 2003 (eXFunctor.b a0), bxO 2009 24000 (eXFunctor.o v4.1), bxO 2013 28000 (eXFunctor.o v3)] ++ rsS 24000 (eXFunctor.o v4.1) ++ rsS 28000 (eXFunctor.o v3)) (cc0 ok16 (laws_toFunctor_c a0 _ hv3) (by kernel_rfl) (.cons (Nat.le_of_ble_eq_true (n := 12) (m := 12) rfl) .nil)) (by kernel_rfl) (by kernel_rfl) ?_
    obtain ⟨v5, hv5, hM⟩ := bind_some' hM
    refine tr_sr hT hm [(1, .call (rsR 28000 (eXFunctor.o v3)) [] [.agg (eXFunctor.b v3)] [] (.tup [.agg (eXFunctor.o v5.1), iv v5.2]))] [2, 8, 10, 12, 14, 16, 2003, 2009, 2013, 2015, 48003, 48005, 48007, 48009, 48013, 48015, 48017, 48019, 48021, 48023, 56003, 56005, 56007, 56009, 56013, 56015, 56017, 56019, 56021, 56023, 62003, 62005, 62007, 62009, 62013, 62015, 62017, 62019, 62021, 62023] ([(2, .d (.rp 1001 0)), (8, .d (.rp 1004 0)), (10, .d (iv v4.2)), (12, .d (.rp 1006 0)), (14, .d (.rp 1007 0)), (16, .d (iv v5.2)), bxB 2003 (eXFunctor.b a0), bxO 2009 24000 (eXFunctor.o v4.1), bxO 2013 28000 (eXFunctor.o v3), bxO 2015 31000 (eXFunctor.o v5.1)] ++ rsS 24000 (eXFunctor.o v4.1) ++ rsS 28000 (eXFunctor.o v3) ++ rsS 31000 (eXFunctor.o v5.1)) (cc (B := (rsR 28000 (eXFunctor.o v3))) (ρ := []) (rB := (rsP 28000 (eXFunctor.o v3))) ok46 (impl_InverseFunctor_c v3 _ hv5) (.cons (bor_rs eXFunctor_r (q := 28000) (x := v3) (by kernel_rfl) (by kernel_rfl)) .nil) (.inr ⟨(nobor_tup (.cons (.agg (eXFunctor_nb _)) (.cons .v .nil))), trivial⟩) (.cons (Nat.le_of_ble_eq_true (n := 12) (m := 12) rfl) .nil)) (by kernel_rfl) (by kernel_rfl) ?_
    refine tr_seq ?_
    obtain ⟨v6, hv6, hM⟩ := bind_some' hM
    rcases Bool.eq_false_or_eq_true v6 with h7 | h7
    · have hM := ite_true' hM h7
      refine tr_sr hT hm [(2, .call (rsR 31000 (eXFunctor.o v5.1) ++ rsR 24000 (eXFunctor.o v4.1)) [] [.agg (eXFunctor.b v5.1), .agg (eXFunctor.b v4.1)] [] (bv v6)), (4, .val (bv false))] [2, 8, 10, 12, 14, 16, 80, 2003, 2009, 2013, 2015, 48003, 48005, 48007, 48009, 48013, 48015, 48017, 48019, 48021, 48023, 56003, 56005, 56007, 56009, 56013, 56015, 56017, 56019, 56021, 56023, 62003, 62005, 62007, 62009, 62013, 62015, 62017, 62019, 62021, 62023] ([(2, .d (.rp 1001 0)), (8, .d (.rp 1004 0)), (10, .d (iv v4.2)), (12, .d (.rp 1006 0)), (14, .d (.rp 1007 0)), (16, .d (iv v5.2)), (80, .d (bv (v5.2 != v4.2))), bxB 2003 (eXFunctor.b a0), bxO 2009 24000 (eXFunctor.o v4.1), bxO 2013 28000 (eXFunctor.o v3), bxO 2015 31000 (eXFunctor.o v5.1)] ++ rsS 24000 (eXFunctor.o v4.1) ++ rsS 28000 (eXFunctor.o v3) ++ rsS 31000 (eXFunctor.o v5.1)) (cc (B := (rsR 31000 (eXFunctor.o v5.1) ++ rsR 24000 (eXFunctor.o v4.1))) (ρ := []) (rB := (rsP 31000 (eXFunctor.o v5.1) ++ rsP 24000 (eXFunctor.o v4.1))) ok18 (laws_eqFunctor_c v5.1 v4.1 _ hv6) (.cons (bor_rs eXFunctor_r (q := 31000) (x := v5.1) (by kernel_rfl) (by kernel_rfl)) (.cons (bor_rs eXFunctor_r (q := 24000) (x := v4.1) (by kernel_rfl) (by kernel_rfl)) .nil)) (.inr ⟨.v, trivial⟩) (.cons (congrArg (fun b => bv b) (congrArg not h7)) .nil)) (by kernel_rfl) (by kernel_rfl) ?_
      rcases Bool.eq_false_or_eq_true (v5.2 != v4.2) with h8 | h8
      · have hM := ite_true' hM h8
        refine tr_condTe (e := v5.2 != v4.2) h8 (by kernel_rfl) ?_
        refine tr_sr hT hm [] [4] [(4, .d (bv false))] .nil (by kernel_rfl) (by kernel_rfl) ?_
        refine tr_ret (q_r (rg_r ?_))
        obtain rfl := Option.some.inj hM
        exact retg (names := []) .nil (by kernel_rfl)
      · have hM := ite_false' hM h8
        refine tr_condFe (e := v5.2 != v4.2) h8 (by kernel_rfl) ?_
        refine tr_skip (q_n ?_)
        refine tr_seq ?_
        obtain ⟨v9, hv9, hM⟩ := bind_some' hM
        refine tr_sr hT hm [(2, .call [] [] [.agg [iv a0.Source.Objects, .sl a0.Source.From.length 0 (a0.Source.From.flatMap eI.b), .sl a0.Source.To.length 0 (a0.Source.To.flatMap eI.b), .sl a0.Source.Identity.length 0 (a0.Source.Identity.flatMap eI.b), .sl a0.Source.Composites.length 0 (a0.Source.Composites.flatMap (eS eI).b), iv a0.Target.Objects, .sl a0.Target.From.length 0 (a0.Target.From.flatMap eI.b), .sl a0.Target.To.length 0 (a0.Target.To.flatMap eI.b), .sl a0.Target.Identity.length 0 (a0.Target.Identity.flatMap eI.b), .sl a0.Target.Composites.length 0 (a0.Target.Composites.flatMap (eS eI).b), .sl a0.Objects.length 0 (a0.Objects.flatMap eI.b), .sl a0.Arrows.length 0 (a0.Arrows.flatMap eI.b)]] [] (.agg (eXFunctor.o v3))), (3, .call (rsR 28000 (eXFunctor.o v3) ++ rsR 45000 (eXFunctor.o v3)) [] [.agg (eXFunctor.b v3), .agg (eXFunctor.b v3)] [] (bv v9))] [2, 8, 10, 12, 14, 16, 90, 2003, 2009, 2013, 2015, 48003, 48005, 48007, 48009, 48013, 48015, 48017, 48019, 48021, 48023, 56003, 56005, 56007, 56009, 56013, 56015, 56017, 56019, 56021, 56023, 62003, 62005, 62007, 62009, 62013, 62015, 62017, 62019, 62021, 62023] ([(2, .d (.rp 1001 0)), (8, .d (.rp 1004 0)), (10, .d (iv v4.2)), (12, .d (.rp 1006 0)), (14, .d (.rp 1007 0)), (16, .d (iv v5.2)), (90, .d (bv (!v9))), bxB 2003 (eXFunctor.b a0), bxO 2009 24000 (eXFunctor.o v4.1), bxO 2013 28000 (eXFunctor.o v3), bxO 2015 31000 (eXFunctor.o v5.1)] ++ rsS 24000 (eXFunctor.o v4.1) ++ rsS 28000 (eXFunctor.o v3) ++ rsS 31000 (eXFunctor.o v5.1)) (cc0 ok16 (laws_toFunctor_c a0 _ hv3) (by kernel_rfl) (cc (B := (rsR 28000 (eXFunctor.o v3) ++ rsR 45000 (eXFunctor.o v3))) (ρ := []) (rB := (rsP 28000 (eXFunctor.o v3) ++ rsP 45000 (eXFunctor.o v3))) ok18 (laws_eqFunctor_c v3 v3 _ hv9) (.cons (bor_rs eXFunctor_r (q := 28000) (x := v3) (by kernel_rfl) (by kernel_rfl)) (.cons (bor_rs eXFunctor_r (q := 45000) (x := v3) (by kernel_rfl) (by kernel_rfl)) .nil)) (.inr ⟨.v, trivial⟩) .nil)) (by kernel_rfl) (by kernel_rfl) ?_
        rcases Bool.eq_false_or_eq_true v9 with h10 | h10
        · have hM := ite_true' hM h10
          refine tr_condFe (e := !v9) (congrArg not h10) (by kernel_rfl) ?_
          refine tr_skip (q_n ?_)
          refine tr_sr hT hm [] [2, 8, 10, 12, 14, 16, 18, 2003, 2009, 2013, 2015, 48003, 48005, 48007, 48009, 48013, 48015, 48017, 48019, 48021, 48023, 56003, 56005, 56007, 56009, 56013, 56015, 56017, 56019, 56021, 56023, 62003, 62005, 62007, 62009, 62013, 62015, 62017, 62019, 62021, 62023] ([(2, .d (.rp 1001 0)), (8, .d (.rp 1004 0)), (10, .d (iv v4.2)), (12, .d (.rp 1006 0)), (14, .d (.rp 1007 0)), (16, .d (iv v5.2)), (18, .d (iv 1)), bxB 2003 (eXFunctor.b a0), bxO 2009 24000 (eXFunctor.o v4.1), bxO 2013 28000 (eXFunctor.o v3), bxO 2015 31000 (eXFunctor.o v5.1)] ++ rsS 24000 (eXFunctor.o v4.1) ++ rsS 28000 (eXFunctor.o v3) ++ rsS 31000 (eXFunctor.o v5.1)) .nil (by kernel_rfl) (by kernel_rfl) ?_
          obtain ⟨v11, hv11, hM⟩ := bind_some' hM
          refine tr_sr hT hm [(2, .call [] [(101, 28001), (102, 28002), (103, 28003), (104, 28004), (106, 28006), (107, 28007), (108, 28008), (109, 28009), (110, 28010), (111, 28011)] [.agg [iv v3.Source.Objects, .rs 101 0 v3.Source.From.length, .rs 102 0 v3.Source.To.length, .rs 103 0 v3.Source.Identity.length, .rs 104 0 v3.Source.Composites.length, iv v3.Target.Objects, .rs 106 0 v3.Target.From.length, .rs 107 0 v3.Target.To.length, .rs 108 0 v3.Target.Identity.length, .rs 109 0 v3.Target.Composites.length, .rs 110 0 v3.Objects.length, .rs 111 0 v3.Arrows.length], iv 1] [(101, .arr 1 (v11.2.Source.From.flatMap eI.o) []), (102, .arr 1 (v11.2.Source.To.flatMap eI.o) []), (103, .arr 1 (v11.2.Source.Identity.flatMap eI.o) []), (104, .arr 1 (v11.2.Source.Composites.flatMap (eS eI).o) []), (106, .arr 1 (v11.2.Target.From.flatMap eI.o) []), (107, .arr 1 (v11.2.Target.To.flatMap eI.o) []), (108, .arr 1 (v11.2.Target.Identity.flatMap eI.o) []), (109, .arr 1 (v11.2.Target.Composites.flatMap (eS eI).o) []), (110, .arr 1 (v11.2.Objects.flatMap eI.o) []), (111, .arr 1 (v11.2.Arrows.flatMap eI.o) [])] (iv v11.1))] [2, 8, 10, 14, 16, 18, 2003, 2009, 2015, 48003, 48005, 48007, 48009, 48013, 48015, 48017, 48019, 48021, 48023, 62003, 62005, 62007, 62009, 62013, 62015, 62017, 62019, 62021, 62023] ([(2, .d (.rp 1001 0)), (8, .d (.rp 1004 0)), (10, .d (iv v4.2)), (14, .d (.rp 1007 0)), (16, .d (iv v5.2)), (18, .d (iv v11.1)), bxB 2003 (eXFunctor.b a0), bxO 2009 24000 (eXFunctor.o v4.1), bxO 2015 31000 (eXFunctor.o v5.1)] ++ rsS 24000 (eXFunctor.o v4.1) ++ rsS 31000 (eXFunctor.o v5.1)) (cc (B := []) (ρ := [(101, 28001), (102, 28002), (103, 28003), (104, 28004), (106, 28006), (107, 28007), (108, 28008), (109, 28009), (110, 28010), (111, 28011)]) (rB := []) ok30 (laws_markFunctor_c v3 1 _ hv11) (.cons (.aggA (.cons (.same rfl) (.cons (.pass (.rs rfl)) (.cons (.pass (.rs rfl)) (.cons (.pass (.rs rfl)) (.cons (.pass (.rs rfl)) (.cons (.same rfl) (.cons (.pass (.rs rfl)) (.cons (.pass (.rs rfl)) (.cons (.pass (.rs rfl)) (.cons (.pass (.rs rfl)) (.cons (.pass (.rs rfl)) (.cons (.pass (.rs rfl)) .nil))))))))))))) (.cons (.same rfl) .nil)) (.inl rfl) .nil) (by kernel_rfl) (by kernel_rfl) ?_
          refine tr_seq ?_
          rcases Bool.eq_false_or_eq_true (decide (v11.1 < 0)) with h12 | h12
          · have hM := ite_true' hM h12
            refine tr_sr hT hm [(2, .val (bv true))] [2, 8, 10, 14, 122, 2003, 2009, 2015, 48003, 48005, 48007, 48009, 48013, 48015, 48017, 48019, 48021, 48023, 62003, 62005, 62007, 62009, 62013, 62015, 62017, 62019, 62021, 62023] ([(2, .d (.rp 1001 0)), (8, .d (.rp 1004 0)), (10, .d (iv v4.2)), (14, .d (.rp 1007 0)), (122, .d (bv true)), bxB 2003 (eXFunctor.b a0), bxO 2009 24000 (eXFunctor.o v4.1), bxO 2015 31000 (eXFunctor.o v5.1)] ++ rsS 24000 (eXFunctor.o v4.1) ++ rsS 31000 (eXFunctor.o v5.1)) (.cons (congrArg (fun b => bv b) h12) .nil) (by kernel_rfl) (by kernel_rfl) ?_
            refine tr_condT (by kernel_rfl) ?_
            refine tr_sr hT hm [] [4] [(4, .d (bv false))] .nil (by kernel_rfl) (by kernel_rfl) ?_
            refine tr_ret (q_r (rg_r ?_))
            obtain rfl := Option.some.inj hM
            exact retg (names := []) .nil (by kernel_rfl)
          · have hM := ite_false' hM h12
            refine tr_sr hT hm [(2, .val (bv false)), (5, .call (rsR 31000 (eXFunctor.o v5.1) ++ rsR 24000 (eXFunctor.o v4.1)) [] [.agg (eXFunctor.b v5.1), .agg (eXFunctor.b v4.1)] [] (bv v6)), (8, .val (bv false))] [2, 8, 10, 14, 122, 2003, 2009, 2015, 48003, 48005, 48007, 48009, 48013, 48015, 48017, 48019, 48021, 48023, 62003, 62005, 62007, 62009, 62013, 62015, 62017, 62019, 62021, 62023] ([(2, .d (.rp 1001 0)), (8, .d (.rp 1004 0)), (10, .d (iv v4.2)), (14, .d (.rp 1007 0)), (122, .d (bv (v5.2 != v4.2))), bxB 2003 (eXFunctor.b a0), bxO 2009 24000 (eXFunctor.o v4.1), bxO 2015 31000 (eXFunctor.o v5.1)] ++ rsS 24000 (eXFunctor.o v4.1) ++ rsS 31000 (eXFunctor.o v5.1)) (.cons (congrArg (fun b => bv b) h12) (cc (B := (rsR 31000 (eXFunctor.o v5.1) ++ rsR 24000 (eXFunctor.o v4.1))) (ρ := []) (rB := (rsP 31000 (eXFunctor.o v5.1) ++ rsP 24000 (eXFunctor.o v4.1))) ok18 (laws_eqFunctor_c v5.1 v4.1 _ hv6) (.cons (bor_rs eXFunctor_r (q := 31000) (x := v5.1) (by kernel_rfl) (by kernel_rfl)) (.cons (bor_rs eXFunctor_r (q := 24000) (x := v4.1) (by kernel_rfl) (by kernel_rfl)) .nil)) (.inr ⟨.v, trivial⟩) (.cons (congrArg (fun b => bv b) (congrArg not h7)) .nil))) (by kernel_rfl) (by kernel_rfl) ?_
            refine tr_condFe (e := v5.2 != v4.2) h8 (by kernel_rfl) ?_
            refine tr_skip (q_n ?_)
            refine tr_sr hT hm [] [2, 8, 10, 14, 20, 2003, 2009, 2015, 48003, 48005, 48007, 48009, 48013, 48015, 48017, 48019, 48021, 48023, 62003, 62005, 62007, 62009, 62013, 62015, 62017, 62019, 62021, 62023] ([(2, .d (.rp 1001 0)), (8, .d (.rp 1004 0)), (10, .d (iv v4.2)), (14, .d (.rp 1007 0)), (20, .d (iv 1)), bxB 2003 (eXFunctor.b a0), bxO 2009 24000 (eXFunctor.o v4.1), bxO 2015 31000 (eXFunctor.o v5.1)] ++ rsS 24000 (eXFunctor.o v4.1) ++ rsS 31000 (eXFunctor.o v5.1)) .nil (by kernel_rfl) (by kernel_rfl) ?_
            obtain ⟨v13, hv13, hM⟩ := bind_some' hM
            refine tr_sr hT hm [(2, .call [] [(101, 31001), (102, 31002), (103, 31003), (104, 31004), (106, 31006), (107, 31007), (108, 31008), (109, 31009), (110, 31010), (111, 31011)] [.agg [iv v5.1.Source.Objects, .rs 101 0 v5.1.Source.From.length, .rs 102 0 v5.1.Source.To.length, .rs 103 0 v5.1.Source.Identity.length, .rs 104 0 v5.1.Source.Composites.length, iv v5.1.Target.Objects, .rs 106 0 v5.1.Target.From.length, .rs 107 0 v5.1.Target.To.length, .rs 108 0 v5.1.Target.Identity.length, .rs 109 0 v5.1.Target.Composites.length, .rs 110 0 v5.1.Objects.length, .rs 111 0 v5.1.Arrows.length], iv 1] [(101, .arr 1 (v13.2.Source.From.flatMap eI.o) []), (102, .arr 1 (v13.2.Source.To.flatMap eI.o) []), (103, .arr 1 (v13.2.Source.Identity.flatMap eI.o) []), (104, .arr 1 (v13.2.Source.Composites.flatMap (eS eI).o) []), (106, .arr 1 (v13.2.Target.From.flatMap eI.o) []), (107, .arr 1 (v13.2.Target.To.flatMap eI.o) []), (108, .arr 1 (v13.2.Target.Identity.flatMap eI.o) []), (109, .arr 1 (v13.2.Target.Composites.flatMap (eS eI).o) []), (110, .arr 1 (v13.2.Objects.flatMap eI.o) []), (111, .arr 1 (v13.2.Arrows.flatMap eI.o) [])] (iv v13.1))] [2, 8, 10, 14, 20, 2003, 2009, 2015, 48003, 48005, 48007, 48009, 48013, 48015, 48017, 48019, 48021, 48023, 62003, 62005, 62007, 62009, 62013, 62015, 62017, 62019, 62021, 62023] ([(2, .d (.rp 1001 0)), (8, .d (.rp 1004 0)), (10, .d (iv v4.2)), (14, .d (.rp 1007 0)), (20, .d (iv v13.1)), bxB 2003 (eXFunctor.b a0), bxO 2009 24000 (eXFunctor.o v4.1), bxO 2015 31000 (eXFunctor.o v5.1)] ++ rsS 24000 (eXFunctor.o v4.1) ++ rsS 31000 (eXFunctor.o v13.2)) (cc (B := []) (ρ := [(101, 31001), (102, 31002), (103, 31003), (104, 31004), (106, 31006), (107, 31007), (108, 31008), (109, 31009), (110, 31010), (111, 31011)]) (rB := []) ok30 (laws_markFunctor_c v5.1 1 _ hv13) (.cons (.aggA (.cons (.same rfl) (.cons (.pass (.rs rfl)) (.cons (.pass (.rs rfl)) (.cons (.pass (.rs rfl)) (.cons (.pass (.rs rfl)) (.cons (.same rfl) (.cons (.pass (.rs rfl)) (.cons (.pass (.rs rfl)) (.cons (.pass (.rs rfl)) (.cons (.pass (.rs rfl)) (.cons (.pass (.rs rfl)) (.cons (.pass (.rs rfl)) .nil))))))))))))) (.cons (.same rfl) .nil)) (.inl rfl) .nil) (by kernel_rfl) (by kernel_rfl) ?_
            refine Tr.by (imp_cvB (r := 1007) (sz := 1) (cells := rsC 31000 (eXFunctor.o v5.1)) (cells' := rsC 31000 (eXFunctor.o v13.2)) (refs := rsR 31000 (eXFunctor.o v5.1)) (refs' := rsR 31000 (eXFunctor.o v13.2)) (SubL.of_eq (rsC_eXFunctor 31000 (M.len_markFunctor hv13))) (by kernel_rfl) (by kernel_rfl) (by kernel_rfl)) ?_
            refine tr_sr hT hm [] [2, 8, 10, 14, 20, 22, 2003, 2009, 2015, 48003, 48005, 48007, 48009, 48013, 48015, 48017, 48019, 48021, 48023, 62003, 62005, 62007, 62009, 62013, 62015, 62017, 62019, 62021, 62023] ([(2, .d (.rp 1001 0)), (8, .d (.rp 1004 0)), (10, .d (iv v4.2)), (14, .d (.rp 1007 0)), (20, .d (iv v13.1)), (22, .d (iv 1)), bxB 2003 (eXFunctor.b a0), bxO 2009 24000 (eXFunctor.o v4.1), bxO 2015 31000 (eXFunctor.o v13.2)] ++ rsS 24000 (eXFunctor.o v4.1) ++ rsS 31000 (eXFunctor.o v13.2)) .nil (by kernel_rfl) (by kernel_rfl) ?_
            obtain ⟨v14, hv14, hM⟩ := bind_some' hM
            refine tr_sr hT hm [(2, .call (rsR 31000 (eXFunctor.o v13.2)) [] [.agg (eXFunctor.b v13.2), iv 1] [] (iv v14))] [2, 8, 10, 14, 20, 22, 2003, 2009, 2015, 48003, 48005, 48007, 48009, 48013, 48015, 48017, 48019, 48021, 48023, 62003, 62005, 62007, 62009, 62013, 62015, 62017, 62019, 62021, 62023] ([(2, .d (.rp 1001 0)), (8, .d (.rp 1004 0)), (10, .d (iv v4.2)), (14, .d (.rp 1007 0)), (20, .d (iv v13.1)), (22, .d (iv v14)), bxB 2003 (eXFunctor.b a0), bxO 2009 24000 (eXFunctor.o v4.1), bxO 2015 31000 (eXFunctor.o v13.2)] ++ rsS 24000 (eXFunctor.o v4.1) ++ rsS 31000 (eXFunctor.o v13.2)) (cc (B := (rsR 31000 (eXFunctor.o v13.2))) (ρ := []) (rB := (rsP 31000 (eXFunctor.o v13.2))) ok31 (laws_heldFunctor_c v13.2 1 _ hv14) (.cons (bor_rs eXFunctor_r (q := 31000) (x := v13.2) (by kernel_rfl) (by kernel_rfl)) (.cons (.same rfl) .nil)) (.inr ⟨.v, trivial⟩) .nil) (by kernel_rfl) (by kernel_rfl) ?_
            refine tr_seq ?_
            refine tr_sr hT hm [] [2, 8, 10, 14, 20, 22, 138, 2003, 2009, 2015, 48003, 48005, 48007, 48009, 48013, 48015, 48017, 48019, 48021, 48023, 62003, 62005, 62007, 62009, 62013, 62015, 62017, 62019, 62021, 62023] ([(2, .d (.rp 1001 0)), (8, .d (.rp 1004 0)), (10, .d (iv v4.2)), (14, .d (.rp 1007 0)), (20, .d (iv v13.1)), (22, .d (iv v14)), (138, .d (bv (decide (v14 < 0)))), bxB 2003 (eXFunctor.b a0), bxO 2009 24000 (eXFunctor.o v4.1), bxO 2015 31000 (eXFunctor.o v13.2)] ++ rsS 24000 (eXFunctor.o v4.1) ++ rsS 31000 (eXFunctor.o v13.2)) .nil (by kernel_rfl) (by kernel_rfl) ?_
            rcases Bool.eq_false_or_eq_true (decide (v14 < 0)) with h15 | h15
            · have hM := ite_true' hM h15
              refine tr_condTe (e := decide (v14 < 0)) h15 (by kernel_rfl) ?_
              refine tr_sr hT hm [] [4] [(4, .d (bv false))] .nil (by kernel_rfl) (by kernel_rfl) ?_
              refine tr_ret (q_r (rg_r ?_))
              obtain rfl := Option.some.inj hM
              exact retg (names := []) .nil (by kernel_rfl)
            · have hM := ite_false' hM h15
              refine tr_condFe (e := decide (v14 < 0)) h15 (by kernel_rfl) ?_
              refine tr_skip (q_n ?_)
              refine tr_seq ?_
              refine tr_sr hT hm [] [2, 8, 10, 14, 20, 144, 2003, 2009, 2015, 48003, 48005, 48007, 48009, 48013, 48015, 48017, 48019, 48021, 48023, 62003, 62005, 62007, 62009, 62013, 62015, 62017, 62019, 62021, 62023] ([(2, .d (.rp 1001 0)), (8, .d (.rp 1004 0)), (10, .d (iv v4.2)), (14, .d (.rp 1007 0)), (20, .d (iv v13.1)), (144, .d (bv (v14 != v13.1))), bxB 2003 (eXFunctor.b a0), bxO 2009 24000 (eXFunctor.o v4.1), bxO 2015 31000 (eXFunctor.o v13.2)] ++ rsS 24000 (eXFunctor.o v4.1) ++ rsS 31000 (eXFunctor.o v13.2)) .nil (by kernel_rfl) (by kernel_rfl) ?_
              rcases Bool.eq_false_or_eq_true (v14 != v13.1) with h16 | h16
              · have hM := ite_true' hM h16
                refine tr_condTe (e := v14 != v13.1) h16 (by kernel_rfl) ?_
                refine tr_sr hT hm [] [4] [(4, .d (bv false))] .nil (by kernel_rfl) (by kernel_rfl) ?_
                refine tr_ret (q_r (rg_r ?_))
                obtain rfl := Option.some.inj hM
                exact retg (names := []) .nil (by kernel_rfl)
              · have hM := ite_false' hM h16
                refine tr_condFe (e := v14 != v13.1) h16 (by kernel_rfl) ?_
                refine tr_skip (q_n ?_)
                refine tr_sr hT hm [(1, .call [] [] [.agg [iv a0.Source.Objects, .sl a0.Source.From.length 0 (a0.Source.From.flatMap eI.b), .sl a0.Source.To.length 0 (a0.Source.To.flatMap eI.b), .sl a0.Source.Identity.length 0 (a0.Source.Identity.flatMap eI.b), .sl a0.Source.Composites.length 0 (a0.Source.Composites.flatMap (eS eI).b), iv a0.Target.Objects, .sl a0.Target.From.length 0 (a0.Target.From.flatMap eI.b), .sl a0.Target.To.length 0 (a0.Target.To.flatMap eI.b), .sl a0.Target.Identity.length 0 (a0.Target.Identity.flatMap eI.b), .sl a0.Target.Composites.length 0 (a0.Target.Composites.flatMap (eS eI).b), .sl a0.Objects.length 0 (a0.Objects.flatMap eI.b), .sl a0.Arrows.length 0 (a0.Arrows.flatMap eI.b)]] [] (.agg (eXFunctor.o v3))), (2, .call (rsR 77000 (eXFunctor.o v3)) [] [.agg (eXFunctor.b v3)] [] (.tup [.agg (eXFunctor.o v5.1), iv v5.2]))] [8, 10, 14, 20, 24, 26, 2009, 2015, 2025, 48003, 48005, 48007, 48009, 48013, 48015, 48017, 48019, 48021, 48023, 62003, 62005, 62007, 62009, 62013, 62015, 62017, 62019, 62021, 62023, 156003, 156005, 156007, 156009, 156013, 156015, 156017, 156019, 156021, 156023] ([(8, .d (.rp 1004 0)), (10, .d (iv v4.2)), (14, .d (.rp 1007 0)), (20, .d (iv v13.1)), (24, .d (.rp 1012 0)), (26, .d (iv v5.2)), bxO 2009 24000 (eXFunctor.o v4.1), bxO 2015 31000 (eXFunctor.o v13.2), bxO 2025 78000 (eXFunctor.o v5.1)] ++ rsS 24000 (eXFunctor.o v4.1) ++ rsS 31000 (eXFunctor.o v13.2) ++ rsS 78000 (eXFunctor.o v5.1)) (cc0 ok16 (laws_toFunctor_c a0 _ hv3) (by kernel_rfl) (cc (B := (rsR 77000 (eXFunctor.o v3))) (ρ := []) (rB := (rsP 77000 (eXFunctor.o v3))) ok46 (impl_InverseFunctor_c v3 _ hv5) (.cons (bor_rs eXFunctor_r (q := 77000) (x := v3) (by kernel_rfl) (by kernel_rfl)) .nil) (.inr ⟨(nobor_tup (.cons (.agg (eXFunctor_nb _)) (.cons .v .nil))), trivial⟩) (.cons (Nat.le_of_ble_eq_true (n := 12) (m := 12) rfl) .nil))) (by kernel_rfl) (by kernel_rfl) ?_
                refine tr_seq ?_
                refine tr_sr hT hm [(2, .call (rsR 78000 (eXFunctor.o v5.1) ++ rsR 24000 (eXFunctor.o v4.1)) [] [.agg (eXFunctor.b v5.1), .agg (eXFunctor.b v4.1)] [] (bv v6)), (4, .val (bv false))] [14, 20, 174, 2015, 62003, 62005, 62007, 62009, 62013, 62015, 62017, 62019, 62021, 62023] ([(14, .d (.rp 1007 0)), (20, .d (iv v13.1)), (174, .d (bv (v5.2 != v4.2))), bxO 2015 31000 (eXFunctor.o v13.2)] ++ rsS 31000 (eXFunctor.o v13.2)) (cc (B := (rsR 78000 (eXFunctor.o v5.1) ++ rsR 24000 (eXFunctor.o v4.1))) (ρ := []) (rB := (rsP 78000 (eXFunctor.o v5.1) ++ rsP 24000 (eXFunctor.o v4.1))) ok18 (laws_eqFunctor_c v5.1 v4.1 _ hv6) (.cons (bor_rs eXFunctor_r (q := 78000) (x := v5.1) (by kernel_rfl) (by kernel_rfl)) (.cons (bor_rs eXFunctor_r (q := 24000) (x := v4.1) (by kernel_rfl) (by kernel_rfl)) .nil)) (.inr ⟨.v, trivial⟩) (.cons (congrArg (fun b => bv b) (congrArg not h7)) .nil)) (by kernel_rfl) (by kernel_rfl) ?_
                refine tr_condFe (e := v5.2 != v4.2) h8 (by kernel_rfl) ?_
                refine tr_skip (q_n ?_)
                refine tr_sr hT hm [] [14, 20, 22, 2015, 62003, 62005, 62007, 62009, 62013, 62015, 62017, 62019, 62021, 62023] ([(14, .d (.rp 1007 0)), (20, .d (iv v13.1)), (22, .d (iv 1)), bxO 2015 31000 (eXFunctor.o v13.2)] ++ rsS 31000 (eXFunctor.o v13.2)) .nil (by kernel_rfl) (by kernel_rfl) ?_
                refine tr_sr hT hm [(2, .call (rsR 31000 (eXFunctor.o v13.2)) [] [.agg (eXFunctor.b v13.2), iv 1] [] (iv v14))] [20, 22] [(20, .d (iv v13.1)), (22, .d (iv v14))] (cc (B := (rsR 31000 (eXFunctor.o v13.2))) (ρ := []) (rB := (rsP 31000 (eXFunctor.o v13.2))) ok31 (laws_heldFunctor_c v13.2 1 _ hv14) (.cons (bor_rs eXFunctor_r (q := 31000) (x := v13.2) (by kernel_rfl) (by kernel_rfl)) (.cons (.same rfl) .nil)) (.inr ⟨.v, trivial⟩) .nil) (by kernel_rfl) (by kernel_rfl) ?_
                refine tr_seq ?_
                refine tr_sr hT hm [] [20, 22, 184] [(20, .d (iv v13.1)), (22, .d (iv v14)), (184, .d (bv (decide (v14 < 0))))] .nil (by kernel_rfl) (by kernel_rfl) ?_
                refine tr_condFe (e := decide (v14 < 0)) h15 (by kernel_rfl) ?_
                refine tr_skip (q_n ?_)
                refine tr_seq ?_
                refine tr_sr hT hm [] [190] [(190, .d (bv (v14 != v13.1)))] .nil (by kernel_rfl) (by kernel_rfl) ?_
                refine tr_condFe (e := v14 != v13.1) h16 (by kernel_rfl) ?_
                refine tr_skip (q_n ?_)
                refine tr_sr hT hm [] [4] [(4, .d (bv true))] .nil (by kernel_rfl) (by kernel_rfl) ?_
                refine tr_ret (rg_r ?_)
                obtain rfl := Option.some.inj hM
                exact retg (names := []) .nil (by kernel_rfl)
        · have hM := ite_false' hM h10
          refine tr_condTe (e := !v9) (congrArg not h10) (by kernel_rfl) ?_
          refine tr_sr hT hm [] [4] [(4, .d (bv false))] .nil (by kernel_rfl) (by kernel_rfl) ?_
          refine tr_ret (q_r (rg_r ?_))
          obtain rfl := Option.some.inj hM
          exact retg (names := []) .nil (by kernel_rfl)
    · have hM := ite_false' hM h7
      refine tr_sr hT hm [(2, .call (rsR 31000 (eXFunctor.o v5.1) ++ rsR 24000 (eXFunctor.o v4.1)) [] [.agg (eXFunctor.b v5.1), .agg (eXFunctor.b v4.1)] [] (bv v6)), (4, .val (bv true))] [2, 8, 10, 12, 14, 16, 80, 2003, 2009, 2013, 2015, 48003, 48005, 48007, 48009, 48013, 48015, 48017, 48019, 48021, 48023, 56003, 56005, 56007, 56009, 56013, 56015, 56017, 56019, 56021, 56023, 62003, 62005, 62007, 62009, 62013, 62015, 62017, 62019, 62021, 62023] ([(2, .d (.rp 1001 0)), (8, .d (.rp 1004 0)), (10, .d (iv v4.2)), (12, .d (.rp 1006 0)), (14, .d (.rp 1007 0)), (16, .d (iv v5.2)), (80, .d (bv true)), bxB 2003 (eXFunctor.b a0), bxO 2009 24000 (eXFunctor.o v4.1), bxO 2013 28000 (eXFunctor.o v3), bxO 2015 31000 (eXFunctor.o v5.1)] ++ rsS 24000 (eXFunctor.o v4.1) ++ rsS 28000 (eXFunctor.o v3) ++ rsS 31000 (eXFunctor.o v5.1)) (cc (B := (rsR 31000 (eXFunctor.o v5.1) ++ rsR 24000 (eXFunctor.o v4.1))) (ρ := []) (rB := (rsP 31000 (eXFunctor.o v5.1) ++ rsP 24000 (eXFunctor.o v4.1))) ok18 (laws_eqFunctor_c v5.1 v4.1 _ hv6) (.cons (bor_rs eXFunctor_r (q := 31000) (x := v5.1) (by kernel_rfl) (by kernel_rfl)) (.cons (bor_rs eXFunctor_r (q := 24000) (x := v4.1) (by kernel_rfl) (by kernel_rfl)) .nil)) (.inr ⟨.v, trivial⟩) (.cons (congrArg (fun b => bv b) (congrArg not h7)) .nil)) (by kernel_rfl) (by kernel_rfl) ?_
      refine tr_condT (by kernel_rfl) ?_
      refine tr_sr hT hm [] [4] [(4, .d (bv false))] .nil (by kernel_rfl) (by kernel_rfl) ?_
      refine tr_ret (q_r (rg_r ?_))
      obtain rfl := Option.some.inj hM
      exact retg (names := []) .nil (by kernel_rfl)

end Go.Proofs.Ytggojehmbpbefaa.L9
