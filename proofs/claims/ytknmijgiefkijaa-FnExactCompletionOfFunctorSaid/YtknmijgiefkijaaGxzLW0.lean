/- Walks. Printed by wip/gen. -/
import Derived.Test.YtknmijgiefkijaaGxzLW
namespace Go.Proofs.Ytknmijgiefkijaa.WzL
open Go.Gx Go.Proofs.Ytknmijgiefkijaa.WvB Go.Proofs.Ytknmijgiefkijaa.WyN Go.Proofs.Ytknmijgiefkijaa.WvS

theorem ok36 : CallOk Try.prog 36 := callOk_of Try.func36 (by kernel_rfl) (by kernel_rfl)
theorem spec_l02Fits_c (a0 : XCategory) (r : Bool) (hM : M.spec_l02Fits a0 = some r) :
    FnC Try.prog 36 [] [.agg (eXCategory.b a0)] [] (bv r) := by
  refine fnc_startG (N := 12) (np := 500) hT Try.func36 rfl rfl (by kernel_rfl) ?_
  unfold M.spec_l02Fits at hM
  refine tr_start (ks := [0]) (st' := [(0, .d (.agg (eXCategory.b a0)))]) (by kernel_rfl) ?_
  refine tr_sr hT hm [] [2, 2003] [(2, .d (.rp 1001 0)), bxB 2003 (eXCategory.b a0)] .nil (by kernel_rfl) (by kernel_rfl) ?_
  rcases Bool.eq_false_or_eq_true (decide (a0.Objects ≤ 8)) with h1 | h1
  · have hM := ite_true' hM h1
    refine tr_sr hT hm [(3, .val (bv true))] [4] [(4, .d (bv (decide ((a0.From.length : Int) ≤ 40))))] (.cons (congrArg (fun b => bv b) h1) .nil) (by kernel_rfl) (by kernel_rfl) ?_
    refine tr_ret (rg_r ?_)
    obtain rfl := Option.some.inj hM
    exact retg (names := []) .nil (by kernel_rfl)
  · have hM := ite_false' hM h1
    refine tr_sr hT hm [(3, .val (bv false))] [4] [(4, .d (bv false))] (.cons (congrArg (fun b => bv b) h1) .nil) (by kernel_rfl) (by kernel_rfl) ?_
    refine tr_ret (rg_r ?_)
    obtain rfl := Option.some.inj hM
    exact retg (names := []) .nil (by kernel_rfl)

theorem ok37 : CallOk Try.prog 37 := callOk_of Try.func37 (by kernel_rfl) (by kernel_rfl)
theorem spec_l11Idempotents_c (a0 : XCategory) (r : (List Int)) (hM : M.spec_l11Idempotents a0 = some r) :
    FnC Try.prog 37 [] [.agg (eXCategory.b a0)] [] (.fr 1 r.length (r.flatMap eI.o)) := by
  refine fnc_startG (N := 37) (np := 500) hT Try.func37 rfl rfl (by kernel_rfl) ?_
  unfold M.spec_l11Idempotents at hM
  refine tr_start (ks := [0]) (st' := [(0, .d (.agg (eXCategory.b a0)))]) (by kernel_rfl) ?_
  refine tr_sr hT hm [] [2, 2003] [(2, .d (.rp 1001 0)), bxB 2003 (eXCategory.b a0)] .nil (by kernel_rfl) (by kernel_rfl) ?_
  refine tr_sr hT hm [] [2, 6, 2003, 2011] [(2, .d (.rp 1001 0)), (6, .d (.rs 1005 0 (([] : List Int).length))), bxB 2003 (eXCategory.b a0), (2011, .r (.arr 1 (([] : List Int).flatMap eI.o) []))] .nil (by kernel_rfl) (by kernel_rfl) ?_
  refine tr_seq ?_
  refine tr_sr hT hm [] [2, 6, 8, 2003, 2011] [(2, .d (.rp 1001 0)), (6, .d (.rs 1005 0 (([] : List Int).length))), (8, .d (iv 0)), bxB 2003 (eXCategory.b a0), (2011, .r (.arr 1 (([] : List Int).flatMap eI.o) []))] .nil (by kernel_rfl) (by kernel_rfl) ?_
  refine tr_block ?_
  refine tr_iterS (fun (s1 : (List Int) × Int) => [(2, .d (.rp 1001 0)), (6, .d (.rs 1005 0 s1.1.length)), (8, .d (iv s1.2)), bxB 2003 (eXCategory.b a0), (2011, .r (.arr 1 (s1.1.flatMap eI.o) []))]) (([] : List Int), 0) [2, 6, 8, 2003, 2011] (by kernel_rfl) hM ?_
  intro n4 next2 ih3 s1 hM
  refine tr_seq ?_
  refine tr_sr hT hm [] [2, 6, 8, 20, 2003, 2011] [(2, .d (.rp 1001 0)), (6, .d (.rs 1005 0 s1.1.length)), (8, .d (iv s1.2)), (20, .d (bv (decide (s1.2 < (a0.From.length : Int))))), bxB 2003 (eXCategory.b a0), (2011, .r (.arr 1 (s1.1.flatMap eI.o) []))] .nil (by kernel_rfl) (by kernel_rfl) ?_
  rcases Bool.eq_false_or_eq_true (decide (s1.2 < (a0.From.length : Int))) with h5 | h5
  · have hM := ite_true' hM h5
    refine tr_condTe (e := decide (s1.2 < (a0.From.length : Int))) h5 (by kernel_rfl) ?_
    refine tr_skip (q_n ?_)
    refine tr_seq ?_
    refine tr_block ?_
    obtain ⟨y6, hy6, hM⟩ := bind_some' hM
    have hy6' := idx_some hy6
    obtain ⟨y7, hy7, hM⟩ := bind_some' hM
    have hy7' := idx_some hy7
    rcases Bool.eq_false_or_eq_true (y6 == y7) with h8 | h8
    · have hM := ite_true' hM h8
      obtain ⟨v9, hv9, hM⟩ := bind_some' hM
      refine tr_sr hT hm [(4, .val (iv y6)), (9, .val (iv y7)), (11, .val (bv true)), (15, .call [] [] [.agg (eXCategory.b a0), iv s1.2, iv s1.2] [] (iv v9))] [2, 6, 8, 62, 2003, 2011] [(2, .d (.rp 1001 0)), (6, .d (.rs 1005 0 s1.1.length)), (8, .d (iv s1.2)), (62, .d (bv (v9 == s1.2))), bxB 2003 (eXCategory.b a0), (2011, .r (.arr 1 (s1.1.flatMap eI.o) []))] (.cons hy6'.1 (.cons hy6'.2.1 (.cons (at_b0 eI_ok hy6'.2.2 (d := iv y6) (by kernel_rfl)) (.cons hy7'.1 (.cons hy7'.2.1 (.cons (at_b0 eI_ok hy7'.2.2 (d := iv y7) (by kernel_rfl)) (.cons (congrArg (fun b => bv b) h8) (cc0 ok78 (spec_l02Then_c a0 s1.2 s1.2 _ hv9) (by kernel_rfl) .nil)))))))) (by kernel_rfl) (by kernel_rfl) ?_
      rcases Bool.eq_false_or_eq_true (v9 == s1.2) with h10 | h10
      · have hM := ite_true' hM h10
        refine tr_condTe (e := v9 == s1.2) h10 (by kernel_rfl) ?_
        obtain ⟨h11, hM⟩ := chk_some hM
        refine tr_r hT hm [(3, .app true)] [2, 6, 8, 2003, 2071] [(2, .d (.rp 1001 0)), (6, .d (.rs 1035 0 (s1.1.length + (([s1.2] : List Int).length)))), (8, .d (iv s1.2)), bxB 2003 (eXCategory.b a0), (2071, .r (.arr 1 (s1.1.flatMap eI.o ++ ([s1.2] : List Int).flatMap eI.o) []))] (.cons (lenO_flat eI_ok s1.1) (.cons (lenO_flat eI_ok ([s1.2] : List Int)) (.cons h11 .nil))) (by kernel_rfl) (by kernel_rfl) (b_n (q_n ?_))
        refine Tr.by (imp_cvE (r := 1035) (sz := 1) (refs := []) (flat_app eI.o s1.1 ([s1.2] : List Int)) (menO_flat eI_ok _) (by kernel_rfl)) ?_
        refine Tr.by (imp_cvD (k := 6) (congrArg (D.rs 1035 0) ((len_app s1.1 ([s1.2] : List Int)) : s1.1.length + (([s1.2] : List Int).length) = (s1.1 ++ ([s1.2] : List Int)).length)) (by kernel_rfl)) ?_
        refine tr_r hT hm [] [2, 6, 8, 2003, 2071] [(2, .d (.rp 1001 0)), (6, .d (.rs 1035 0 ((s1.1 ++ ([s1.2] : List Int)).length))), (8, .d (iv (IntKind.i64.wrap (s1.2 + 1)))), bxB 2003 (eXCategory.b a0), (2071, .r (.arr 1 ((s1.1 ++ ([s1.2] : List Int)).flatMap eI.o) []))] .nil (by kernel_rfl) (by kernel_rfl) (l_n ?_)
        refine TrL.by (imp_sel (ks := [2, 6, 8, 2003, 2071]) (st' := [(2, .d (.rp 1001 0)), (6, .d (.rs 1035 0 ((s1.1 ++ ([s1.2] : List Int)).length))), (8, .d (iv (IntKind.i64.wrap (s1.2 + 1)))), bxB 2003 (eXCategory.b a0), (2071, .r (.arr 1 ((s1.1 ++ ([s1.2] : List Int)).flatMap eI.o) []))]) (by kernel_rfl)) ?_
        refine TrL.by (imp_rename (r := 1035) (q := 1005) (by kernel_rfl) (Nat.le_of_ble_eq_true rfl)) ?_
        exact trl_start (ks := [2, 6, 8, 2003, 2011]) (by kernel_rfl) (ih3 (s1.1 ++ ([s1.2] : List Int), IntKind.i64.wrap (s1.2 + 1)) hM)
      · have hM := ite_false' hM h10
        refine tr_condFe (e := v9 == s1.2) h10 (by kernel_rfl) ?_
        refine tr_skip (b_n (q_n ?_))
        refine tr_r hT hm [] [2, 6, 8, 2003, 2011] [(2, .d (.rp 1001 0)), (6, .d (.rs 1005 0 s1.1.length)), (8, .d (iv (IntKind.i64.wrap (s1.2 + 1)))), bxB 2003 (eXCategory.b a0), (2011, .r (.arr 1 (s1.1.flatMap eI.o) []))] .nil (by kernel_rfl) (by kernel_rfl) (l_n ?_)
        exact trl_start (ks := [2, 6, 8, 2003, 2011]) (by kernel_rfl) (ih3 (s1.1, IntKind.i64.wrap (s1.2 + 1)) hM)
    · have hM := ite_false' hM h8
      refine tr_sr hT hm [(4, .val (iv y6)), (9, .val (iv y7)), (11, .val (bv false))] [2, 6, 8, 62, 2003, 2011] [(2, .d (.rp 1001 0)), (6, .d (.rs 1005 0 s1.1.length)), (8, .d (iv s1.2)), (62, .d (bv false)), bxB 2003 (eXCategory.b a0), (2011, .r (.arr 1 (s1.1.flatMap eI.o) []))] (.cons hy6'.1 (.cons hy6'.2.1 (.cons (at_b0 eI_ok hy6'.2.2 (d := iv y6) (by kernel_rfl)) (.cons hy7'.1 (.cons hy7'.2.1 (.cons (at_b0 eI_ok hy7'.2.2 (d := iv y7) (by kernel_rfl)) (.cons (congrArg (fun b => bv b) h8) .nil))))))) (by kernel_rfl) (by kernel_rfl) ?_
      refine tr_condF (by kernel_rfl) ?_
      refine tr_skip (b_n (q_n ?_))
      refine tr_r hT hm [] [2, 6, 8, 2003, 2011] [(2, .d (.rp 1001 0)), (6, .d (.rs 1005 0 s1.1.length)), (8, .d (iv (IntKind.i64.wrap (s1.2 + 1)))), bxB 2003 (eXCategory.b a0), (2011, .r (.arr 1 (s1.1.flatMap eI.o) []))] .nil (by kernel_rfl) (by kernel_rfl) (l_n ?_)
      exact trl_start (ks := [2, 6, 8, 2003, 2011]) (by kernel_rfl) (ih3 (s1.1, IntKind.i64.wrap (s1.2 + 1)) hM)
  · have hM := ite_false' hM h5
    refine tr_condFe (e := decide (s1.2 < (a0.From.length : Int))) h5 (by kernel_rfl) ?_
    refine tr_exit (q_x (l_x (b_h (q_n ?_))))
    refine tr_sr hT hm [] [4, 2011] [(4, .d (.rs 1005 0 s1.1.length)), (2011, .r (.arr 1 (s1.1.flatMap eI.o) []))] .nil (by kernel_rfl) (by kernel_rfl) ?_
    refine tr_ret (rg_r ?_)
    obtain rfl := Option.some.inj hM
    exact retg (names := []) (.cons (lenO_flat eI_ok s1.1) .nil) (by kernel_rfl)

theorem ok79 : CallOk Try.prog 79 := callOk_of Try.func79 (by kernel_rfl) (by kernel_rfl)
theorem spec_l09Column_c (a0 : List (List Int)) (a1 : Int) (r : (List Int)) (hM : M.spec_l09Column a0 a1 = some r) :
    FnC Try.prog 79 [] [.sl a0.length 0 (a0.flatMap (eS eI).b), iv a1] [] (.fr 1 r.length (r.flatMap eI.o)) := by
  refine fnc_startG (N := 25) (np := 500) hT Try.func79 rfl rfl (by kernel_rfl) ?_
  unfold M.spec_l09Column at hM
  refine tr_start (ks := [0, 2]) (st' := [(0, .d (.sl a0.length 0 (a0.flatMap (eS eI).b))), (2, .d (iv a1))]) (by kernel_rfl) ?_
  refine tr_sr hT hm [] [0, 2] [(0, .d (.sl a0.length 0 (a0.flatMap (eS eI).b))), (2, .d (iv a1))] .nil (by kernel_rfl) (by kernel_rfl) ?_
  refine tr_sr hT hm [] [0, 2, 10, 2015] [(0, .d (.sl a0.length 0 (a0.flatMap (eS eI).b))), (2, .d (iv a1)), (10, .d (.rs 1007 0 (([] : List Int).length))), (2015, .r (.arr 1 (([] : List Int).flatMap eI.o) []))] .nil (by kernel_rfl) (by kernel_rfl) ?_
  refine tr_seq ?_
  refine tr_sr hT hm [] [0, 2, 10, 12, 2015] [(0, .d (.sl a0.length 0 (a0.flatMap (eS eI).b))), (2, .d (iv a1)), (10, .d (.rs 1007 0 (([] : List Int).length))), (12, .d (iv 0)), (2015, .r (.arr 1 (([] : List Int).flatMap eI.o) []))] .nil (by kernel_rfl) (by kernel_rfl) ?_
  refine tr_block ?_
  refine tr_iterS (fun (s1 : (List Int) × Int) => [(0, .d (.sl a0.length 0 (a0.flatMap (eS eI).b))), (2, .d (iv a1)), (10, .d (.rs 1007 0 s1.1.length)), (12, .d (iv s1.2)), (2015, .r (.arr 1 (s1.1.flatMap eI.o) []))]) (([] : List Int), 0) [0, 2, 10, 12, 2015] (by kernel_rfl) hM ?_
  intro n4 next2 ih3 s1 hM
  refine tr_seq ?_
  refine tr_sr hT hm [] [0, 2, 10, 12, 22, 2015] [(0, .d (.sl a0.length 0 (a0.flatMap (eS eI).b))), (2, .d (iv a1)), (10, .d (.rs 1007 0 s1.1.length)), (12, .d (iv s1.2)), (22, .d (bv (decide (s1.2 < (a0.length : Int))))), (2015, .r (.arr 1 (s1.1.flatMap eI.o) []))] .nil (by kernel_rfl) (by kernel_rfl) ?_
  rcases Bool.eq_false_or_eq_true (decide (s1.2 < (a0.length : Int))) with h5 | h5
  · have hM := ite_true' hM h5
    refine tr_condTe (e := decide (s1.2 < (a0.length : Int))) h5 (by kernel_rfl) ?_
    refine tr_skip (q_n ?_)
    refine tr_seq ?_
    refine tr_block ?_
    obtain ⟨y6, hy6, hM⟩ := bind_some' hM
    have hy6' := idx_some hy6
    obtain ⟨y7, hy7, hM⟩ := bind_some' hM
    have hy7' := idx_some hy7
    obtain ⟨h8, hM⟩ := chk_some hM
    refine tr_r hT hm [(4, .val (.sl y6.length 0 (y6.flatMap eI.b))), (7, .val (iv y7)), (9, .app true)] [0, 2, 10, 12, 2047] [(0, .d (.sl a0.length 0 (a0.flatMap (eS eI).b))), (2, .d (iv a1)), (10, .d (.rs 1023 0 (s1.1.length + (([y7] : List Int).length)))), (12, .d (iv s1.2)), (2047, .r (.arr 1 (s1.1.flatMap eI.o ++ ([y7] : List Int).flatMap eI.o) []))] (.cons hy6'.1 (.cons hy6'.2.1 (.cons (at_b0 (eS_ok eI_ok) hy6'.2.2 (d := .sl y6.length 0 (y6.flatMap eI.b)) (by kernel_rfl)) (.cons hy7'.1 (.cons hy7'.2.1 (.cons (at_b0 eI_ok hy7'.2.2 (d := iv y7) (by kernel_rfl)) (.cons (lenO_flat eI_ok s1.1) (.cons (lenO_flat eI_ok ([y7] : List Int)) (.cons h8 .nil))))))))) (by kernel_rfl) (by kernel_rfl) (b_n (q_n ?_))
    refine Tr.by (imp_cvE (r := 1023) (sz := 1) (refs := []) (flat_app eI.o s1.1 ([y7] : List Int)) (menO_flat eI_ok _) (by kernel_rfl)) ?_
    refine Tr.by (imp_cvD (k := 10) (congrArg (D.rs 1023 0) ((len_app s1.1 ([y7] : List Int)) : s1.1.length + (([y7] : List Int).length) = (s1.1 ++ ([y7] : List Int)).length)) (by kernel_rfl)) ?_
    refine tr_r hT hm [] [0, 2, 10, 12, 2047] [(0, .d (.sl a0.length 0 (a0.flatMap (eS eI).b))), (2, .d (iv a1)), (10, .d (.rs 1023 0 ((s1.1 ++ ([y7] : List Int)).length))), (12, .d (iv (IntKind.i64.wrap (s1.2 + 1)))), (2047, .r (.arr 1 ((s1.1 ++ ([y7] : List Int)).flatMap eI.o) []))] .nil (by kernel_rfl) (by kernel_rfl) (l_n ?_)
    refine TrL.by (imp_sel (ks := [0, 2, 10, 12, 2047]) (st' := [(0, .d (.sl a0.length 0 (a0.flatMap (eS eI).b))), (2, .d (iv a1)), (10, .d (.rs 1023 0 ((s1.1 ++ ([y7] : List Int)).length))), (12, .d (iv (IntKind.i64.wrap (s1.2 + 1)))), (2047, .r (.arr 1 ((s1.1 ++ ([y7] : List Int)).flatMap eI.o) []))]) (by kernel_rfl)) ?_
    refine TrL.by (imp_rename (r := 1023) (q := 1007) (by kernel_rfl) (Nat.le_of_ble_eq_true rfl)) ?_
    exact trl_start (ks := [0, 2, 10, 12, 2015]) (by kernel_rfl) (ih3 (s1.1 ++ ([y7] : List Int), IntKind.i64.wrap (s1.2 + 1)) hM)
  · have hM := ite_false' hM h5
    refine tr_condFe (e := decide (s1.2 < (a0.length : Int))) h5 (by kernel_rfl) ?_
    refine tr_exit (q_x (l_x (b_h (q_n ?_))))
    refine tr_sr hT hm [] [8, 2015] [(8, .d (.rs 1007 0 s1.1.length)), (2015, .r (.arr 1 (s1.1.flatMap eI.o) []))] .nil (by kernel_rfl) (by kernel_rfl) ?_
    refine tr_ret (rg_r ?_)
    obtain rfl := Option.some.inj hM
    exact retg (names := []) (.cons (lenO_flat eI_ok s1.1) .nil) (by kernel_rfl)

theorem ok39 : CallOk Try.prog 39 := callOk_of Try.func39 (by kernel_rfl) (by kernel_rfl)
theorem spec_l09Find_c (a0 : List (List Int)) (a1 : List Int) (r : Int) (hM : M.spec_l09Find a0 a1 = some r) :
    FnC Try.prog 39 [] [.sl a0.length 0 (a0.flatMap (eS eI).b), .sl a1.length 0 (a1.flatMap eI.b)] [] (iv r) := by
  refine fnc_startG (N := 19) (np := 500) hT Try.func39 rfl rfl (by kernel_rfl) ?_
  unfold M.spec_l09Find at hM
  refine tr_start (ks := [0, 2]) (st' := [(0, .d (.sl a0.length 0 (a0.flatMap (eS eI).b))), (2, .d (.sl a1.length 0 (a1.flatMap eI.b)))]) (by kernel_rfl) ?_
  refine tr_sr hT hm [] [0, 2] [(0, .d (.sl a0.length 0 (a0.flatMap (eS eI).b))), (2, .d (.sl a1.length 0 (a1.flatMap eI.b)))] .nil (by kernel_rfl) (by kernel_rfl) ?_
  refine tr_seq ?_
  refine tr_sr hT hm [] [0, 2, 10] [(0, .d (.sl a0.length 0 (a0.flatMap (eS eI).b))), (2, .d (.sl a1.length 0 (a1.flatMap eI.b))), (10, .d (iv 0))] .nil (by kernel_rfl) (by kernel_rfl) ?_
  refine tr_block ?_
  refine tr_iterS (fun (s1 : Int) => [(0, .d (.sl a0.length 0 (a0.flatMap (eS eI).b))), (2, .d (.sl a1.length 0 (a1.flatMap eI.b))), (10, .d (iv s1))]) 0 [0, 2, 10] (by kernel_rfl) hM ?_
  intro n4 next2 ih3 s1 hM
  refine tr_seq ?_
  refine tr_sr hT hm [] [0, 2, 10, 18] [(0, .d (.sl a0.length 0 (a0.flatMap (eS eI).b))), (2, .d (.sl a1.length 0 (a1.flatMap eI.b))), (10, .d (iv s1)), (18, .d (bv (decide (s1 < (a0.length : Int)))))] .nil (by kernel_rfl) (by kernel_rfl) ?_
  rcases Bool.eq_false_or_eq_true (decide (s1 < (a0.length : Int))) with h5 | h5
  · have hM := ite_true' hM h5
    refine tr_condTe (e := decide (s1 < (a0.length : Int))) h5 (by kernel_rfl) ?_
    refine tr_skip (q_n ?_)
    refine tr_seq ?_
    refine tr_block ?_
    obtain ⟨y6, hy6, hM⟩ := bind_some' hM
    have hy6' := idx_some hy6
    obtain ⟨v7, hv7, hM⟩ := bind_some' hM
    refine tr_sr hT hm [(3, .val (.sl y6.length 0 (y6.flatMap eI.b))), (5, .call [] [] [.sl y6.length 0 (y6.flatMap eI.b), .sl a1.length 0 (a1.flatMap eI.b)] [] (bv v7))] [0, 2, 10, 34] [(0, .d (.sl a0.length 0 (a0.flatMap (eS eI).b))), (2, .d (.sl a1.length 0 (a1.flatMap eI.b))), (10, .d (iv s1)), (34, .d (bv v7))] (.cons hy6'.1 (.cons hy6'.2.1 (.cons (at_b0 (eS_ok eI_ok) hy6'.2.2 (d := .sl y6.length 0 (y6.flatMap eI.b)) (by kernel_rfl)) (cc0 ok80 (spec_l01Same_c y6 a1 _ hv7) (by kernel_rfl) .nil)))) (by kernel_rfl) (by kernel_rfl) ?_
    rcases Bool.eq_false_or_eq_true v7 with h8 | h8
    · have hM := ite_true' hM h8
      refine tr_condTe (e := v7) h8 (by kernel_rfl) ?_
      refine tr_sr hT hm [] [8] [(8, .d (iv s1))] .nil (by kernel_rfl) (by kernel_rfl) ?_
      refine tr_ret (b_r (q_r (l_r (b_r (q_r (rg_r ?_))))))
      obtain rfl := Option.some.inj hM
      exact retg (names := []) .nil (by kernel_rfl)
    · have hM := ite_false' hM h8
      refine tr_condFe (e := v7) h8 (by kernel_rfl) ?_
      refine tr_skip (b_n (q_n ?_))
      refine tr_r hT hm [] [0, 2, 10] [(0, .d (.sl a0.length 0 (a0.flatMap (eS eI).b))), (2, .d (.sl a1.length 0 (a1.flatMap eI.b))), (10, .d (iv (IntKind.i64.wrap (s1 + 1))))] .nil (by kernel_rfl) (by kernel_rfl) (l_n ?_)
      exact trl_start (ks := [0, 2, 10]) (by kernel_rfl) (ih3 (IntKind.i64.wrap (s1 + 1)) hM)
  · have hM := ite_false' hM h5
    refine tr_condFe (e := decide (s1 < (a0.length : Int))) h5 (by kernel_rfl) ?_
    refine tr_exit (q_x (l_x (b_h (q_n ?_))))
    refine tr_sr hT hm [] [8] [(8, .d (iv (-1)))] .nil (by kernel_rfl) (by kernel_rfl) ?_
    refine tr_ret (rg_r ?_)
    obtain rfl := Option.some.inj hM
    exact retg (names := []) .nil (by kernel_rfl)

theorem ok35 : CallOk Try.prog 35 := callOk_of Try.func35 (by kernel_rfl) (by kernel_rfl)
theorem spec_l11Complete_c (a0 : XCategory) (r : XCategory × (List (List Int))) (hM : M.spec_l11Complete a0 = some r) :
    FnC Try.prog 35 [] [.agg (eXCategory.b a0)] [] (.tup [.agg (eXCategory.o r.1), .sl r.2.length 0 (r.2.flatMap (eS eI).b)]) := by
  refine fnc_startG (N := 178) (np := 500) hT Try.func35 rfl rfl (by kernel_rfl) ?_
  unfold M.spec_l11Complete at hM
  refine tr_start (ks := [0]) (st' := [(0, .d (.agg (eXCategory.b a0)))]) (by kernel_rfl) ?_
  refine tr_sr hT hm [] [2, 4, 2003, 2005] [(2, .d (.rp 1001 0)), (4, .d (.rp 1002 0)), bxB 2003 (eXCategory.b a0), (2005, .r (.arr 1 [iv 0, nilv, nilv, nilv, nilv] []))] .nil (by kernel_rfl) (by kernel_rfl) ?_
  obtain ⟨v1, hv1, hM⟩ := bind_some' hM
  refine tr_sr hT hm [(1, .call [] [] [.agg (eXCategory.b a0)] [] (.fr 1 v1.length (v1.flatMap eI.o)))] [2, 4, 8, 2003, 2005, 42001] [(2, .d (.rp 1001 0)), (4, .d (.rp 1002 0)), (8, .d (.rs 21000 0 v1.length)), bxB 2003 (eXCategory.b a0), (2005, .r (.arr 1 [iv 0, nilv, nilv, nilv, nilv] [])), (42001, .r (.arr 1 (v1.flatMap eI.o) []))] (cc0 ok37 (spec_l11Idempotents_c a0 _ hv1) (by kernel_rfl) .nil) (by kernel_rfl) (by kernel_rfl) ?_
  refine tr_sr hT hm [] [2, 4, 8, 10, 2003, 2005, 2041, 42001] [(2, .d (.rp 1001 0)), (4, .d (.rp 1002 0)), (8, .d (.rs 21000 0 v1.length)), (10, .d (.rs 1020 0 (([] : List (List Int)).length))), bxB 2003 (eXCategory.b a0), (2005, .r (.arr 1 [iv 0, nilv, nilv, nilv, nilv] [])), (2041, .r (.arr 1 (([] : List (List Int)).flatMap (eS eI).o) [])), (42001, .r (.arr 1 (v1.flatMap eI.o) []))] .nil (by kernel_rfl) (by kernel_rfl) ?_
  refine tr_seq ?_
  refine tr_sr hT hm [] [2, 4, 8, 10, 12, 2003, 2005, 2041, 42001] [(2, .d (.rp 1001 0)), (4, .d (.rp 1002 0)), (8, .d (.rs 21000 0 v1.length)), (10, .d (.rs 1020 0 (([] : List (List Int)).length))), (12, .d (iv 0)), bxB 2003 (eXCategory.b a0), (2005, .r (.arr 1 [iv 0, nilv, nilv, nilv, nilv] [])), (2041, .r (.arr 1 (([] : List (List Int)).flatMap (eS eI).o) [])), (42001, .r (.arr 1 (v1.flatMap eI.o) []))] .nil (by kernel_rfl) (by kernel_rfl) ?_
  refine tr_block ?_
  refine tr_iterS (fun (s2 : (List (List Int)) × Int) => [(2, .d (.rp 1001 0)), (4, .d (.rp 1002 0)), (8, .d (.rs 21000 0 v1.length)), (10, .d (.rs 1020 0 s2.1.length)), (12, .d (iv s2.2)), bxB 2003 (eXCategory.b a0), (2005, .r (.arr 1 [iv 0, nilv, nilv, nilv, nilv] [])), (2041, .r (.arr 1 (s2.1.flatMap (eS eI).o) [])), (42001, .r (.arr 1 (v1.flatMap eI.o) []))]) (([] : List (List Int)), 0) [2, 4, 8, 10, 12, 2003, 2005, 2041, 42001] (by kernel_rfl) hM ?_
  intro n5 next3 ih4 s2 hM
  refine tr_seq ?_
  refine tr_sr hT hm [] [2, 4, 8, 10, 12, 48, 2003, 2005, 2041, 42001] [(2, .d (.rp 1001 0)), (4, .d (.rp 1002 0)), (8, .d (.rs 21000 0 v1.length)), (10, .d (.rs 1020 0 s2.1.length)), (12, .d (iv s2.2)), (48, .d (bv (decide (s2.2 < (v1.length : Int))))), bxB 2003 (eXCategory.b a0), (2005, .r (.arr 1 [iv 0, nilv, nilv, nilv, nilv] [])), (2041, .r (.arr 1 (s2.1.flatMap (eS eI).o) [])), (42001, .r (.arr 1 (v1.flatMap eI.o) []))] .nil (by kernel_rfl) (by kernel_rfl) ?_
  rcases Bool.eq_false_or_eq_true (decide (s2.2 < (v1.length : Int))) with h6 | h6
  · have hM := ite_true' hM h6
    refine tr_condTe (e := decide (s2.2 < (v1.length : Int))) h6 (by kernel_rfl) ?_
    refine tr_skip (q_n ?_)
    refine tr_seq ?_
    refine tr_block ?_
    refine tr_sr hT hm [] [2, 4, 8, 10, 12, 14, 2003, 2005, 2041, 42001] [(2, .d (.rp 1001 0)), (4, .d (.rp 1002 0)), (8, .d (.rs 21000 0 v1.length)), (10, .d (.rs 1020 0 s2.1.length)), (12, .d (iv s2.2)), (14, .d (iv 0)), bxB 2003 (eXCategory.b a0), (2005, .r (.arr 1 [iv 0, nilv, nilv, nilv, nilv] [])), (2041, .r (.arr 1 (s2.1.flatMap (eS eI).o) [])), (42001, .r (.arr 1 (v1.flatMap eI.o) []))] .nil (by kernel_rfl) (by kernel_rfl) ?_
    refine tr_block ?_
    refine tr_iterS (fun (s7 : (List (List Int)) × Int) => [(2, .d (.rp 1001 0)), (4, .d (.rp 1002 0)), (8, .d (.rs 21000 0 v1.length)), (10, .d (.rs 1020 0 s7.1.length)), (12, .d (iv s2.2)), (14, .d (iv s7.2)), bxB 2003 (eXCategory.b a0), (2005, .r (.arr 1 [iv 0, nilv, nilv, nilv, nilv] [])), (2041, .r (.arr 1 (s7.1.flatMap (eS eI).o) [])), (42001, .r (.arr 1 (v1.flatMap eI.o) []))]) (s2.1, 0) [2, 4, 8, 10, 12, 14, 2003, 2005, 2041, 42001] (by kernel_rfl) hM ?_
    intro n10 next8 ih9 s7 hM
    refine tr_seq ?_
    refine tr_sr hT hm [] [2, 4, 8, 10, 12, 14, 60, 2003, 2005, 2041, 42001] [(2, .d (.rp 1001 0)), (4, .d (.rp 1002 0)), (8, .d (.rs 21000 0 v1.length)), (10, .d (.rs 1020 0 s7.1.length)), (12, .d (iv s2.2)), (14, .d (iv s7.2)), (60, .d (bv (decide (s7.2 < (v1.length : Int))))), bxB 2003 (eXCategory.b a0), (2005, .r (.arr 1 [iv 0, nilv, nilv, nilv, nilv] [])), (2041, .r (.arr 1 (s7.1.flatMap (eS eI).o) [])), (42001, .r (.arr 1 (v1.flatMap eI.o) []))] .nil (by kernel_rfl) (by kernel_rfl) ?_
    rcases Bool.eq_false_or_eq_true (decide (s7.2 < (v1.length : Int))) with h11 | h11
    · have hM := ite_true' hM h11
      refine tr_condTe (e := decide (s7.2 < (v1.length : Int))) h11 (by kernel_rfl) ?_
      refine tr_skip (q_n ?_)
      refine tr_seq ?_
      refine tr_block ?_
      obtain ⟨y12, hy12, hM⟩ := bind_some' hM
      have hy12' := idx_some hy12
      obtain ⟨y13, hy13, hM⟩ := bind_some' hM
      have hy13' := idx_some hy13
      obtain ⟨y14, hy14, hM⟩ := bind_some' hM
      have hy14' := idx_some hy14
      obtain ⟨y15, hy15, hM⟩ := bind_some' hM
      have hy15' := idx_some hy15
      obtain ⟨v16, hv16, hM⟩ := bind_some' hM
      refine tr_sr hT hm [(6, .val (iv y12)), (8, .val (iv y13)), (14, .val (iv y14)), (16, .val (iv y15)), (17, .call [] [] [.agg (eXCategory.b a0), iv y13, iv y15] [] (.fr 1 v16.length (v16.flatMap eI.o)))] [2, 4, 8, 10, 12, 14, 16, 2003, 2005, 2041, 42001, 104001] [(2, .d (.rp 1001 0)), (4, .d (.rp 1002 0)), (8, .d (.rs 21000 0 v1.length)), (10, .d (.rs 1020 0 s7.1.length)), (12, .d (iv s2.2)), (14, .d (iv s7.2)), (16, .d (.rs 52000 0 v16.length)), bxB 2003 (eXCategory.b a0), (2005, .r (.arr 1 [iv 0, nilv, nilv, nilv, nilv] [])), (2041, .r (.arr 1 (s7.1.flatMap (eS eI).o) [])), (42001, .r (.arr 1 (v1.flatMap eI.o) [])), (104001, .r (.arr 1 (v16.flatMap eI.o) []))] (.cons hy12'.1 (.cons hy12'.2.1 (.cons (at_o0 eI_ok hy12'.2.2 (d := iv y12) (by kernel_rfl)) (.cons hy13'.1 (.cons hy13'.2.1 (.cons (at_b0 eI_ok hy13'.2.2 (d := iv y13) (by kernel_rfl)) (.cons hy14'.1 (.cons hy14'.2.1 (.cons (at_o0 eI_ok hy14'.2.2 (d := iv y14) (by kernel_rfl)) (.cons hy15'.1 (.cons hy15'.2.1 (.cons (at_b0 eI_ok hy15'.2.2 (d := iv y15) (by kernel_rfl)) (cc0 ok77 (spec_l02Hom_c a0 y13 y15 _ hv16) (by kernel_rfl) .nil))))))))))))) (by kernel_rfl) (by kernel_rfl) ?_
      refine tr_sr hT hm [] [2, 4, 8, 10, 12, 14, 16, 18, 2003, 2005, 2041, 42001, 104001] [(2, .d (.rp 1001 0)), (4, .d (.rp 1002 0)), (8, .d (.rs 21000 0 v1.length)), (10, .d (.rs 1020 0 s7.1.length)), (12, .d (iv s2.2)), (14, .d (iv s7.2)), (16, .d (.rs 52000 0 v16.length)), (18, .d (iv 0)), bxB 2003 (eXCategory.b a0), (2005, .r (.arr 1 [iv 0, nilv, nilv, nilv, nilv] [])), (2041, .r (.arr 1 (s7.1.flatMap (eS eI).o) [])), (42001, .r (.arr 1 (v1.flatMap eI.o) [])), (104001, .r (.arr 1 (v16.flatMap eI.o) []))] .nil (by kernel_rfl) (by kernel_rfl) ?_
      refine tr_block ?_
      refine tr_iterS (fun (s17 : (List (List Int)) × Int) => [(2, .d (.rp 1001 0)), (4, .d (.rp 1002 0)), (8, .d (.rs 21000 0 v1.length)), (10, .d (.rs 1020 0 s17.1.length)), (12, .d (iv s2.2)), (14, .d (iv s7.2)), (16, .d (.rs 52000 0 v16.length)), (18, .d (iv s17.2)), bxB 2003 (eXCategory.b a0), (2005, .r (.arr 1 [iv 0, nilv, nilv, nilv, nilv] [])), (2041, .r (.arr 1 (s17.1.flatMap (eS eI).o) [])), (42001, .r (.arr 1 (v1.flatMap eI.o) [])), (104001, .r (.arr 1 (v16.flatMap eI.o) []))]) (s7.1, 0) [2, 4, 8, 10, 12, 14, 16, 18, 2003, 2005, 2041, 42001, 104001] (by kernel_rfl) hM ?_
      intro n20 next18 ih19 s17 hM
      refine tr_seq ?_
      refine tr_sr hT hm [] [2, 4, 8, 10, 12, 14, 16, 18, 108, 2003, 2005, 2041, 42001, 104001] [(2, .d (.rp 1001 0)), (4, .d (.rp 1002 0)), (8, .d (.rs 21000 0 v1.length)), (10, .d (.rs 1020 0 s17.1.length)), (12, .d (iv s2.2)), (14, .d (iv s7.2)), (16, .d (.rs 52000 0 v16.length)), (18, .d (iv s17.2)), (108, .d (bv (decide (s17.2 < (v16.length : Int))))), bxB 2003 (eXCategory.b a0), (2005, .r (.arr 1 [iv 0, nilv, nilv, nilv, nilv] [])), (2041, .r (.arr 1 (s17.1.flatMap (eS eI).o) [])), (42001, .r (.arr 1 (v1.flatMap eI.o) [])), (104001, .r (.arr 1 (v16.flatMap eI.o) []))] .nil (by kernel_rfl) (by kernel_rfl) ?_
      rcases Bool.eq_false_or_eq_true (decide (s17.2 < (v16.length : Int))) with h21 | h21
      · have hM := ite_true' hM h21
        refine tr_condTe (e := decide (s17.2 < (v16.length : Int))) h21 (by kernel_rfl) ?_
        refine tr_skip (q_n ?_)
        refine tr_seq ?_
        refine tr_block ?_
        obtain ⟨y22, hy22, hM⟩ := bind_some' hM
        have hy22' := idx_some hy22
        obtain ⟨v23, hv23, hM⟩ := bind_some' hM
        obtain ⟨v24, hv24, hM⟩ := bind_some' hM
        refine tr_sr hT hm [(5, .val (iv y12)), (9, .val (iv y22)), (10, .call [] [] [.agg (eXCategory.b a0), iv y12, iv y22] [] (iv v23)), (14, .val (iv y14)), (15, .call [] [] [.agg (eXCategory.b a0), iv v23, iv y14] [] (iv v24)), (19, .val (iv y22))] [2, 4, 8, 10, 12, 14, 16, 18, 154, 2003, 2005, 2041, 42001, 104001] [(2, .d (.rp 1001 0)), (4, .d (.rp 1002 0)), (8, .d (.rs 21000 0 v1.length)), (10, .d (.rs 1020 0 s17.1.length)), (12, .d (iv s2.2)), (14, .d (iv s7.2)), (16, .d (.rs 52000 0 v16.length)), (18, .d (iv s17.2)), (154, .d (bv (v24 == y22))), bxB 2003 (eXCategory.b a0), (2005, .r (.arr 1 [iv 0, nilv, nilv, nilv, nilv] [])), (2041, .r (.arr 1 (s17.1.flatMap (eS eI).o) [])), (42001, .r (.arr 1 (v1.flatMap eI.o) [])), (104001, .r (.arr 1 (v16.flatMap eI.o) []))] (.cons hy12'.1 (.cons hy12'.2.1 (.cons (at_o0 eI_ok hy12'.2.2 (d := iv y12) (by kernel_rfl)) (.cons hy22'.1 (.cons hy22'.2.1 (.cons (at_o0 eI_ok hy22'.2.2 (d := iv y22) (by kernel_rfl)) (cc0 ok78 (spec_l02Then_c a0 y12 y22 _ hv23) (by kernel_rfl) (.cons hy14'.1 (.cons hy14'.2.1 (.cons (at_o0 eI_ok hy14'.2.2 (d := iv y14) (by kernel_rfl)) (cc0 ok78 (spec_l02Then_c a0 v23 y14 _ hv24) (by kernel_rfl) (.cons hy22'.1 (.cons hy22'.2.1 (.cons (at_o0 eI_ok hy22'.2.2 (d := iv y22) (by kernel_rfl)) .nil)))))))))))))) (by kernel_rfl) (by kernel_rfl) ?_
        rcases Bool.eq_false_or_eq_true (v24 == y22) with h25 | h25
        · have hM := ite_true' hM h25
          refine tr_condTe (e := v24 == y22) h25 (by kernel_rfl) ?_
          obtain ⟨h26, hM⟩ := chk_some hM
          refine tr_r hT hm [(6, .val (iv y22)), (9, .app true)] [2, 4, 8, 10, 12, 14, 16, 18, 2003, 2005, 2171, 2175, 42001, 104001] [(2, .d (.rp 1001 0)), (4, .d (.rp 1002 0)), (8, .d (.rs 21000 0 v1.length)), (10, .d (.rs 1087 0 (s17.1.length + 1))), (12, .d (iv s2.2)), (14, .d (iv s7.2)), (16, .d (.rs 52000 0 v16.length)), (18, .d (iv s17.2)), bxB 2003 (eXCategory.b a0), (2005, .r (.arr 1 [iv 0, nilv, nilv, nilv, nilv] [])), (2171, .r (.arr 1 (([s2.2, s7.2, y22] : List Int).flatMap eI.o) [])), (2175, .r (.arr 1 (s17.1.flatMap (eS eI).o ++ [.rs 1085 0 (([s2.2, s7.2, y22] : List Int).length)]) [1085])), (42001, .r (.arr 1 (v1.flatMap eI.o) [])), (104001, .r (.arr 1 (v16.flatMap eI.o) []))] (.cons hy22'.1 (.cons hy22'.2.1 (.cons (at_o0 eI_ok hy22'.2.2 (d := iv y22) (by kernel_rfl)) (.cons (lenO_flat (eS_ok eI_ok) s17.1) (.cons (by kernel_rfl : ([.rs 1085 0 (([s2.2, s7.2, y22] : List Int).length)] : List D).length = 1 * 1) (.cons h26 .nil)))))) (by kernel_rfl) (by kernel_rfl) (b_n (q_n ?_))
          refine Tr.by (imp_demE (r := 1087) (q := 1085) (sz := 1) (n := (([s2.2, s7.2, y22] : List Int).length)) (j := 0) (pre := s17.1.flatMap (eS eI).o) (l := [.rs 1085 0 (([s2.2, s7.2, y22] : List Int).length)]) (refs := [1085]) (refs' := []) (menO_flat (eS_ok eI_ok) _) (lenO_flat eI_ok ([s2.2, s7.2, y22] : List Int)) (by kernel_rfl) (by kernel_rfl) (by kernel_rfl) (by kernel_rfl) (by kernel_rfl)) ?_
          refine Tr.by (imp_cvE (r := 1087) (sz := 1) (refs := []) (flat_snoc (eS eI).o s17.1 [s2.2, s7.2, y22]) (menO_flat (eS_ok eI_ok) _) (by kernel_rfl)) ?_
          refine Tr.by (imp_cvD (k := 10) (congrArg (D.rs 1087 0) ((len_snoc s17.1 [s2.2, s7.2, y22]) : s17.1.length + 1 = (s17.1 ++ [[s2.2, s7.2, y22]]).length)) (by kernel_rfl)) ?_
          refine tr_r hT hm [] [2, 4, 8, 10, 12, 14, 16, 18, 2003, 2005, 2175, 42001, 104001] [(2, .d (.rp 1001 0)), (4, .d (.rp 1002 0)), (8, .d (.rs 21000 0 v1.length)), (10, .d (.rs 1087 0 ((s17.1 ++ [[s2.2, s7.2, y22]]).length))), (12, .d (iv s2.2)), (14, .d (iv s7.2)), (16, .d (.rs 52000 0 v16.length)), (18, .d (iv (IntKind.i64.wrap (s17.2 + 1)))), bxB 2003 (eXCategory.b a0), (2005, .r (.arr 1 [iv 0, nilv, nilv, nilv, nilv] [])), (2175, .r (.arr 1 ((s17.1 ++ [[s2.2, s7.2, y22]]).flatMap (eS eI).o) [])), (42001, .r (.arr 1 (v1.flatMap eI.o) [])), (104001, .r (.arr 1 (v16.flatMap eI.o) []))] .nil (by kernel_rfl) (by kernel_rfl) (l_n ?_)
          refine TrL.by (imp_sel (ks := [2, 4, 8, 10, 12, 14, 16, 18, 2003, 2005, 2175, 42001, 104001]) (st' := [(2, .d (.rp 1001 0)), (4, .d (.rp 1002 0)), (8, .d (.rs 21000 0 v1.length)), (10, .d (.rs 1087 0 ((s17.1 ++ [[s2.2, s7.2, y22]]).length))), (12, .d (iv s2.2)), (14, .d (iv s7.2)), (16, .d (.rs 52000 0 v16.length)), (18, .d (iv (IntKind.i64.wrap (s17.2 + 1)))), bxB 2003 (eXCategory.b a0), (2005, .r (.arr 1 [iv 0, nilv, nilv, nilv, nilv] [])), (2175, .r (.arr 1 ((s17.1 ++ [[s2.2, s7.2, y22]]).flatMap (eS eI).o) [])), (42001, .r (.arr 1 (v1.flatMap eI.o) [])), (104001, .r (.arr 1 (v16.flatMap eI.o) []))]) (by kernel_rfl)) ?_
          refine TrL.by (imp_rename (r := 1087) (q := 1020) (by kernel_rfl) (Nat.le_of_ble_eq_true rfl)) ?_
          exact trl_start (ks := [2, 4, 8, 10, 12, 14, 16, 18, 2003, 2005, 2041, 42001, 104001]) (by kernel_rfl) (ih19 (s17.1 ++ [[s2.2, s7.2, y22]], IntKind.i64.wrap (s17.2 + 1)) hM)
        · have hM := ite_false' hM h25
          refine tr_condFe (e := v24 == y22) h25 (by kernel_rfl) ?_
          refine tr_skip (b_n (q_n ?_))
          refine tr_r hT hm [] [2, 4, 8, 10, 12, 14, 16, 18, 2003, 2005, 2041, 42001, 104001] [(2, .d (.rp 1001 0)), (4, .d (.rp 1002 0)), (8, .d (.rs 21000 0 v1.length)), (10, .d (.rs 1020 0 s17.1.length)), (12, .d (iv s2.2)), (14, .d (iv s7.2)), (16, .d (.rs 52000 0 v16.length)), (18, .d (iv (IntKind.i64.wrap (s17.2 + 1)))), bxB 2003 (eXCategory.b a0), (2005, .r (.arr 1 [iv 0, nilv, nilv, nilv, nilv] [])), (2041, .r (.arr 1 (s17.1.flatMap (eS eI).o) [])), (42001, .r (.arr 1 (v1.flatMap eI.o) [])), (104001, .r (.arr 1 (v16.flatMap eI.o) []))] .nil (by kernel_rfl) (by kernel_rfl) (l_n ?_)
          exact trl_start (ks := [2, 4, 8, 10, 12, 14, 16, 18, 2003, 2005, 2041, 42001, 104001]) (by kernel_rfl) (ih19 (s17.1, IntKind.i64.wrap (s17.2 + 1)) hM)
      · have hM := ite_false' hM h21
        refine tr_condFe (e := decide (s17.2 < (v16.length : Int))) h21 (by kernel_rfl) ?_
        refine tr_exit (q_x (l_x (b_h (b_n (q_n ?_)))))
        refine tr_r hT hm [] [2, 4, 8, 10, 12, 14, 2003, 2005, 2041, 42001] [(2, .d (.rp 1001 0)), (4, .d (.rp 1002 0)), (8, .d (.rs 21000 0 v1.length)), (10, .d (.rs 1020 0 s17.1.length)), (12, .d (iv s2.2)), (14, .d (iv (IntKind.i64.wrap (s7.2 + 1)))), bxB 2003 (eXCategory.b a0), (2005, .r (.arr 1 [iv 0, nilv, nilv, nilv, nilv] [])), (2041, .r (.arr 1 (s17.1.flatMap (eS eI).o) [])), (42001, .r (.arr 1 (v1.flatMap eI.o) []))] .nil (by kernel_rfl) (by kernel_rfl) (l_n ?_)
        exact trl_start (ks := [2, 4, 8, 10, 12, 14, 2003, 2005, 2041, 42001]) (by kernel_rfl) (ih9 (s17.1, IntKind.i64.wrap (s7.2 + 1)) hM)
    · have hM := ite_false' hM h11
      refine tr_condFe (e := decide (s7.2 < (v1.length : Int))) h11 (by kernel_rfl) ?_
      refine tr_exit (q_x (l_x (b_h (b_n (q_n ?_)))))
      refine tr_r hT hm [] [2, 4, 8, 10, 12, 2003, 2005, 2041, 42001] [(2, .d (.rp 1001 0)), (4, .d (.rp 1002 0)), (8, .d (.rs 21000 0 v1.length)), (10, .d (.rs 1020 0 s7.1.length)), (12, .d (iv (IntKind.i64.wrap (s2.2 + 1)))), bxB 2003 (eXCategory.b a0), (2005, .r (.arr 1 [iv 0, nilv, nilv, nilv, nilv] [])), (2041, .r (.arr 1 (s7.1.flatMap (eS eI).o) [])), (42001, .r (.arr 1 (v1.flatMap eI.o) []))] .nil (by kernel_rfl) (by kernel_rfl) (l_n ?_)
      exact trl_start (ks := [2, 4, 8, 10, 12, 2003, 2005, 2041, 42001]) (by kernel_rfl) (ih4 (s7.1, IntKind.i64.wrap (s2.2 + 1)) hM)
  · have hM := ite_false' hM h6
    refine tr_condFe (e := decide (s2.2 < (v1.length : Int))) h6 (by kernel_rfl) ?_
    refine tr_exit (q_x (l_x (b_h (q_n ?_))))
    obtain ⟨v27, hv27, hM⟩ := bind_some' hM
    obtain ⟨v28, hv28, hM⟩ := bind_some' hM
    refine tr_sr hT hm [(3, .call [1020] [] [.sl s2.1.length 0 (s2.1.flatMap (eS eI).b), iv 0] [] (.fr 1 v27.length (v27.flatMap eI.o))), (5, .call [1020] [] [.sl s2.1.length 0 (s2.1.flatMap (eS eI).b), iv 1] [] (.fr 1 v28.length (v28.flatMap eI.o)))] [2, 4, 8, 10, 20, 2003, 2005, 2021, 2041, 2189, 2191, 42001, 186001, 190001] [(2, .d (.rp 1001 0)), (4, .d (.rp 1002 0)), (8, .d (.rs 21000 0 v1.length)), (10, .d (.rs 1020 0 s2.1.length)), (20, .d (.rp 1010 0)), bxB 2003 (eXCategory.b a0), (2005, .r (.arr 1 [iv 0, nilv, nilv, nilv, nilv] [])), (2021, .r (.arr 1 [iv (v1.length : Int), .rs 93000 0 v27.length, .rs 95000 0 v28.length, .rs 1094 0 (([] : List Int).length), .rs 1095 0 (([] : List (List Int)).length)] [93000, 95000, 1094, 1095])), (2041, .r (.arr 1 (s2.1.flatMap (eS eI).o) [])), (2189, .r (.arr 1 (([] : List Int).flatMap eI.o) [])), (2191, .r (.arr 1 (([] : List (List Int)).flatMap (eS eI).o) [])), (42001, .r (.arr 1 (v1.flatMap eI.o) [])), (186001, .r (.arr 1 (v27.flatMap eI.o) [])), (190001, .r (.arr 1 (v28.flatMap eI.o) []))] (cc (B := [1020]) (ρ := []) (rB := [(1020, .arr 1 (s2.1.flatMap (eS eI).o) [])]) ok79 (spec_l09Column_c s2.1 0 _ hv27) (.cons (.of1 (.rs (r := 1020) (sz := 1) (refs := []) (memB (by kernel_rfl)) (by kernel_rfl) (bor_flat (eS_ok eI_ok) _ _ _))) (.cons (.same rfl) .nil)) (.inr ⟨(.fr (nb_flat eI_nb _)), trivial⟩) (cc (B := [1020]) (ρ := []) (rB := [(1020, .arr 1 (s2.1.flatMap (eS eI).o) [])]) ok79 (spec_l09Column_c s2.1 1 _ hv28) (.cons (.of1 (.rs (r := 1020) (sz := 1) (refs := []) (memB (by kernel_rfl)) (by kernel_rfl) (bor_flat (eS_ok eI_ok) _ _ _))) (.cons (.same rfl) .nil)) (.inr ⟨(.fr (nb_flat eI_nb _)), trivial⟩) (.cons (Nat.le_of_ble_eq_true (n := 5) (m := 5) rfl) .nil))) (by kernel_rfl) (by kernel_rfl) ?_
    refine tr_seq ?_
    refine tr_sr hT hm [] [2, 4, 8, 10, 20, 22, 2003, 2005, 2021, 2041, 2189, 2191, 42001, 186001, 190001] [(2, .d (.rp 1001 0)), (4, .d (.rp 1002 0)), (8, .d (.rs 21000 0 v1.length)), (10, .d (.rs 1020 0 s2.1.length)), (20, .d (.rp 1010 0)), (22, .d (iv 0)), bxB 2003 (eXCategory.b a0), (2005, .r (.arr 1 [iv 0, nilv, nilv, nilv, nilv] [])), (2021, .r (.arr 1 [iv (v1.length : Int), .rs 93000 0 v27.length, .rs 95000 0 v28.length, .rs 1094 0 (([] : List Int).length), .rs 1095 0 (([] : List (List Int)).length)] [93000, 95000, 1094, 1095])), (2041, .r (.arr 1 (s2.1.flatMap (eS eI).o) [])), (2189, .r (.arr 1 (([] : List Int).flatMap eI.o) [])), (2191, .r (.arr 1 (([] : List (List Int)).flatMap (eS eI).o) [])), (42001, .r (.arr 1 (v1.flatMap eI.o) [])), (186001, .r (.arr 1 (v27.flatMap eI.o) [])), (190001, .r (.arr 1 (v28.flatMap eI.o) []))] .nil (by kernel_rfl) (by kernel_rfl) ?_
    refine Tr.by (imp_freeze (B := [1020]) (cv := [(5, .sl s2.1.length 0 (s2.1.flatMap (eS eI).b))]) (.cons (by kernel_rfl) (.of1 (.rs (r := 1020) (sz := 1) (refs := []) (memB (by kernel_rfl)) (by kernel_rfl) (bor_flat (eS_ok eI_ok) _ _ _))) .nil)) ?_
    refine tr_block ?_
    refine tr_iterS (fun (s29 : (List Int) × Int) => [(2, .d (.rp 1001 0)), (4, .d (.rp 1002 0)), (8, .d (.rs 21000 0 v1.length)), (10, .d (.sl s2.1.length 0 (s2.1.flatMap (eS eI).b))), (20, .d (.rp 1010 0)), (22, .d (iv s29.2)), bxB 2003 (eXCategory.b a0), (2005, .r (.arr 1 [iv 0, nilv, nilv, nilv, nilv] [])), (2021, .r (.arr 1 [iv (v1.length : Int), .rs 93000 0 v27.length, .rs 95000 0 v28.length, .rs 1094 0 s29.1.length, .rs 1095 0 (([] : List (List Int)).length)] [93000, 95000, 1094, 1095])), (2189, .r (.arr 1 (s29.1.flatMap eI.o) [])), (2191, .r (.arr 1 (([] : List (List Int)).flatMap (eS eI).o) [])), (42001, .r (.arr 1 (v1.flatMap eI.o) [])), (186001, .r (.arr 1 (v27.flatMap eI.o) [])), (190001, .r (.arr 1 (v28.flatMap eI.o) []))]) (([] : List Int), 0) [2, 4, 8, 10, 20, 22, 2003, 2005, 2021, 2189, 2191, 42001, 186001, 190001] (by kernel_rfl) hM ?_
    intro n32 next30 ih31 s29 hM
    refine tr_seq ?_
    refine tr_sr hT hm [] [2, 4, 8, 10, 20, 22, 200, 2003, 2005, 2021, 2189, 2191, 42001, 186001, 190001] [(2, .d (.rp 1001 0)), (4, .d (.rp 1002 0)), (8, .d (.rs 21000 0 v1.length)), (10, .d (.sl s2.1.length 0 (s2.1.flatMap (eS eI).b))), (20, .d (.rp 1010 0)), (22, .d (iv s29.2)), (200, .d (bv (decide (s29.2 < (v1.length : Int))))), bxB 2003 (eXCategory.b a0), (2005, .r (.arr 1 [iv 0, nilv, nilv, nilv, nilv] [])), (2021, .r (.arr 1 [iv (v1.length : Int), .rs 93000 0 v27.length, .rs 95000 0 v28.length, .rs 1094 0 s29.1.length, .rs 1095 0 (([] : List (List Int)).length)] [93000, 95000, 1094, 1095])), (2189, .r (.arr 1 (s29.1.flatMap eI.o) [])), (2191, .r (.arr 1 (([] : List (List Int)).flatMap (eS eI).o) [])), (42001, .r (.arr 1 (v1.flatMap eI.o) [])), (186001, .r (.arr 1 (v27.flatMap eI.o) [])), (190001, .r (.arr 1 (v28.flatMap eI.o) []))] .nil (by kernel_rfl) (by kernel_rfl) ?_
    rcases Bool.eq_false_or_eq_true (decide (s29.2 < (v1.length : Int))) with h33 | h33
    · have hM := ite_true' hM h33
      refine tr_condTe (e := decide (s29.2 < (v1.length : Int))) h33 (by kernel_rfl) ?_
      refine tr_skip (q_n ?_)
      refine tr_seq ?_
      refine tr_block ?_
      obtain ⟨y34, hy34, hM⟩ := bind_some' hM
      have hy34' := idx_some hy34
      obtain ⟨v35, hv35, hM⟩ := bind_some' hM
      obtain ⟨h36, hM⟩ := chk_some hM
      refine tr_r hT hm [(8, .val (iv y34)), (10, .call [1112] [] [.sl s2.1.length 0 (s2.1.flatMap (eS eI).b), .sl ([s29.2, s29.2, y34] : List Int).length 0 (([s29.2, s29.2, y34] : List Int).flatMap eI.b)] [] (iv v35)), (12, .app true)] [2, 4, 8, 10, 20, 22, 2003, 2005, 2021, 2191, 2231, 42001, 186001, 190001] [(2, .d (.rp 1001 0)), (4, .d (.rp 1002 0)), (8, .d (.rs 21000 0 v1.length)), (10, .d (.sl s2.1.length 0 (s2.1.flatMap (eS eI).b))), (20, .d (.rp 1010 0)), (22, .d (iv s29.2)), bxB 2003 (eXCategory.b a0), (2005, .r (.arr 1 [iv 0, nilv, nilv, nilv, nilv] [])), (2021, .r (.arr 1 [iv (v1.length : Int), .rs 93000 0 v27.length, .rs 95000 0 v28.length, .rs 1115 0 (s29.1.length + (([v35] : List Int).length)), .rs 1095 0 (([] : List (List Int)).length)] [93000, 95000, 1094, 1095, 1115])), (2191, .r (.arr 1 (([] : List (List Int)).flatMap (eS eI).o) [])), (2231, .r (.arr 1 (s29.1.flatMap eI.o ++ ([v35] : List Int).flatMap eI.o) [])), (42001, .r (.arr 1 (v1.flatMap eI.o) [])), (186001, .r (.arr 1 (v27.flatMap eI.o) [])), (190001, .r (.arr 1 (v28.flatMap eI.o) []))] (.cons hy34'.1 (.cons hy34'.2.1 (.cons (at_o0 eI_ok hy34'.2.2 (d := iv y34) (by kernel_rfl)) (cc (B := [1112]) (ρ := []) (rB := [(1112, .arr 1 (([s29.2, s29.2, y34] : List Int).flatMap eI.o) [])]) ok39 (spec_l09Find_c s2.1 ([s29.2, s29.2, y34] : List Int) _ hv35) (.cons (.same rfl) (.cons (.of1 (.rs (r := 1112) (sz := 1) (refs := []) (memB (by kernel_rfl)) (by kernel_rfl) (bor_flat eI_ok _ _ _))) .nil)) (.inr ⟨.v, trivial⟩) (.cons (lenO_flat eI_ok s29.1) (.cons (lenO_flat eI_ok ([v35] : List Int)) (.cons h36 (.cons (Nat.le_of_ble_eq_true (n := 4) (m := 5) rfl) .nil)))))))) (by kernel_rfl) (by kernel_rfl) (b_n (q_n ?_))
      refine Tr.by (imp_cvE (r := 1115) (sz := 1) (refs := []) (flat_app eI.o s29.1 ([v35] : List Int)) (menO_flat eI_ok _) (by kernel_rfl)) ?_
      refine Tr.by (imp_cvB (r := 1010) (sz := 1) (cells := [iv (v1.length : Int), .rs 93000 0 v27.length, .rs 95000 0 v28.length, .rs 1115 0 (s29.1.length + (([v35] : List Int).length)), .rs 1095 0 (([] : List (List Int)).length)]) (cells' := [iv (v1.length : Int), .rs 93000 0 v27.length, .rs 95000 0 v28.length, .rs 1115 0 ((s29.1 ++ ([v35] : List Int)).length), .rs 1095 0 (([] : List (List Int)).length)]) (refs := [93000, 95000, 1094, 1095, 1115]) (refs' := [93000, 95000, 1094, 1095, 1115]) (.cons (.refl _) (.cons (.refl _) (.cons (.refl _) (.cons (Sub.of_eq (congrArg (D.rs 1115 0) ((len_app s29.1 ([v35] : List Int)) : s29.1.length + (([v35] : List Int).length) = (s29.1 ++ ([v35] : List Int)).length))) (.cons (.refl _) .nil))))) (by kernel_rfl) (by kernel_rfl) (by kernel_rfl)) ?_
      refine tr_r hT hm [] [2, 4, 8, 10, 20, 22, 2003, 2005, 2021, 2191, 2231, 42001, 186001, 190001] [(2, .d (.rp 1001 0)), (4, .d (.rp 1002 0)), (8, .d (.rs 21000 0 v1.length)), (10, .d (.sl s2.1.length 0 (s2.1.flatMap (eS eI).b))), (20, .d (.rp 1010 0)), (22, .d (iv (IntKind.i64.wrap (s29.2 + 1)))), bxB 2003 (eXCategory.b a0), (2005, .r (.arr 1 [iv 0, nilv, nilv, nilv, nilv] [])), (2021, .r (.arr 1 [iv (v1.length : Int), .rs 93000 0 v27.length, .rs 95000 0 v28.length, .rs 1115 0 ((s29.1 ++ ([v35] : List Int)).length), .rs 1095 0 (([] : List (List Int)).length)] [93000, 95000, 1094, 1095, 1115])), (2191, .r (.arr 1 (([] : List (List Int)).flatMap (eS eI).o) [])), (2231, .r (.arr 1 ((s29.1 ++ ([v35] : List Int)).flatMap eI.o) [])), (42001, .r (.arr 1 (v1.flatMap eI.o) [])), (186001, .r (.arr 1 (v27.flatMap eI.o) [])), (190001, .r (.arr 1 (v28.flatMap eI.o) []))] .nil (by kernel_rfl) (by kernel_rfl) (l_n ?_)
      refine TrL.by (imp_cvB (r := 1010) (sz := 1) (cells := [iv (v1.length : Int), .rs 93000 0 v27.length, .rs 95000 0 v28.length, .rs 1115 0 ((s29.1 ++ ([v35] : List Int)).length), .rs 1095 0 (([] : List (List Int)).length)]) (cells' := [iv (v1.length : Int), .rs 93000 0 v27.length, .rs 95000 0 v28.length, .rs 1115 0 ((s29.1 ++ ([v35] : List Int)).length), .rs 1095 0 (([] : List (List Int)).length)]) (refs := [93000, 95000, 1094, 1095, 1115]) (refs' := [93000, 95000, 1115, 1095]) (.cons (.refl _) (.cons (.refl _) (.cons (.refl _) (.cons (.refl _) (.cons (.refl _) .nil))))) (by kernel_rfl) (by kernel_rfl) (by kernel_rfl)) ?_
      refine TrL.by (imp_sel (ks := [2, 4, 8, 10, 20, 22, 2003, 2005, 2021, 2191, 2231, 42001, 186001, 190001]) (st' := [(2, .d (.rp 1001 0)), (4, .d (.rp 1002 0)), (8, .d (.rs 21000 0 v1.length)), (10, .d (.sl s2.1.length 0 (s2.1.flatMap (eS eI).b))), (20, .d (.rp 1010 0)), (22, .d (iv (IntKind.i64.wrap (s29.2 + 1)))), bxB 2003 (eXCategory.b a0), (2005, .r (.arr 1 [iv 0, nilv, nilv, nilv, nilv] [])), (2021, .r (.arr 1 [iv (v1.length : Int), .rs 93000 0 v27.length, .rs 95000 0 v28.length, .rs 1115 0 ((s29.1 ++ ([v35] : List Int)).length), .rs 1095 0 (([] : List (List Int)).length)] [93000, 95000, 1115, 1095])), (2191, .r (.arr 1 (([] : List (List Int)).flatMap (eS eI).o) [])), (2231, .r (.arr 1 ((s29.1 ++ ([v35] : List Int)).flatMap eI.o) [])), (42001, .r (.arr 1 (v1.flatMap eI.o) [])), (186001, .r (.arr 1 (v27.flatMap eI.o) [])), (190001, .r (.arr 1 (v28.flatMap eI.o) []))]) (by kernel_rfl)) ?_
      refine TrL.by (imp_rename (r := 1115) (q := 1094) (by kernel_rfl) (Nat.le_of_ble_eq_true rfl)) ?_
      exact trl_start (ks := [2, 4, 8, 10, 20, 22, 2003, 2005, 2021, 2189, 2191, 42001, 186001, 190001]) (by kernel_rfl) (ih31 (s29.1 ++ ([v35] : List Int), IntKind.i64.wrap (s29.2 + 1)) hM)
    · have hM := ite_false' hM h33
      refine tr_condFe (e := decide (s29.2 < (v1.length : Int))) h33 (by kernel_rfl) ?_
      refine tr_exit (q_x (l_x (b_h (q_n ?_))))
      refine tr_seq ?_
      refine tr_sr hT hm [] [2, 4, 10, 20, 24, 2003, 2005, 2021, 2189, 2191, 186001, 190001] [(2, .d (.rp 1001 0)), (4, .d (.rp 1002 0)), (10, .d (.sl s2.1.length 0 (s2.1.flatMap (eS eI).b))), (20, .d (.rp 1010 0)), (24, .d (iv 0)), bxB 2003 (eXCategory.b a0), (2005, .r (.arr 1 [iv 0, nilv, nilv, nilv, nilv] [])), (2021, .r (.arr 1 [iv (v1.length : Int), .rs 93000 0 v27.length, .rs 95000 0 v28.length, .rs 1094 0 s29.1.length, .rs 1095 0 (([] : List (List Int)).length)] [93000, 95000, 1094, 1095])), (2189, .r (.arr 1 (s29.1.flatMap eI.o) [])), (2191, .r (.arr 1 (([] : List (List Int)).flatMap (eS eI).o) [])), (186001, .r (.arr 1 (v27.flatMap eI.o) [])), (190001, .r (.arr 1 (v28.flatMap eI.o) []))] .nil (by kernel_rfl) (by kernel_rfl) ?_
      refine tr_block ?_
      refine tr_iterS (fun (s37 : (List (List Int)) × Int) => [(2, .d (.rp 1001 0)), (4, .d (.rp 1002 0)), (10, .d (.sl s2.1.length 0 (s2.1.flatMap (eS eI).b))), (20, .d (.rp 1010 0)), (24, .d (iv s37.2)), bxB 2003 (eXCategory.b a0), (2005, .r (.arr 1 [iv 0, nilv, nilv, nilv, nilv] [])), (2021, .r (.arr 1 [iv (v1.length : Int), .rs 93000 0 v27.length, .rs 95000 0 v28.length, .rs 1094 0 s29.1.length, .rs 1095 0 s37.1.length] [93000, 95000, 1094, 1095])), (2189, .r (.arr 1 (s29.1.flatMap eI.o) [])), (2191, .r (.arr 1 (s37.1.flatMap (eS eI).o) [])), (186001, .r (.arr 1 (v27.flatMap eI.o) [])), (190001, .r (.arr 1 (v28.flatMap eI.o) []))]) (([] : List (List Int)), 0) [2, 4, 10, 20, 24, 2003, 2005, 2021, 2189, 2191, 186001, 190001] (by kernel_rfl) hM ?_
      intro n40 next38 ih39 s37 hM
      refine tr_seq ?_
      rcases Bool.eq_false_or_eq_true (decide (s37.2 < (s2.1.length : Int))) with h41 | h41
      · have hM := ite_true' hM h41
        obtain ⟨v42, hv42, hM⟩ := bind_some' hM
        refine tr_sr hT hm [(4, .val (bv true)), (6, .call [93000, 95000, 1094, 1095] [] [.agg (eXCategory.b (⟨(v1.length : Int), v27, v28, s29.1, s37.1⟩ : XCategory))] [] (bv v42))] [2, 4, 10, 20, 24, 248, 2003, 2005, 2021, 2189, 2191, 186001, 190001] [(2, .d (.rp 1001 0)), (4, .d (.rp 1002 0)), (10, .d (.sl s2.1.length 0 (s2.1.flatMap (eS eI).b))), (20, .d (.rp 1010 0)), (24, .d (iv s37.2)), (248, .d (bv v42)), bxB 2003 (eXCategory.b a0), (2005, .r (.arr 1 [iv 0, nilv, nilv, nilv, nilv] [])), (2021, .r (.arr 1 [iv (v1.length : Int), .rs 93000 0 v27.length, .rs 95000 0 v28.length, .rs 1094 0 s29.1.length, .rs 1095 0 s37.1.length] [93000, 95000, 1094, 1095])), (2189, .r (.arr 1 (s29.1.flatMap eI.o) [])), (2191, .r (.arr 1 (s37.1.flatMap (eS eI).o) [])), (186001, .r (.arr 1 (v27.flatMap eI.o) [])), (190001, .r (.arr 1 (v28.flatMap eI.o) []))] (.cons (congrArg (fun b => bv b) h41) (cc (B := [93000, 95000, 1094, 1095]) (ρ := []) (rB := [(93000, .arr 1 (v27.flatMap eI.o) []), (95000, .arr 1 (v28.flatMap eI.o) []), (1094, .arr 1 (s29.1.flatMap eI.o) []), (1095, .arr 1 (s37.1.flatMap (eS eI).o) [])]) ok36 (spec_l02Fits_c (⟨(v1.length : Int), v27, v28, s29.1, s37.1⟩ : XCategory) _ hv42) (.cons (.agg (.cons .v (.cons (.rs (r := 93000) (sz := 1) (refs := []) (memB (by kernel_rfl)) (by kernel_rfl) (bor_flat eI_ok _ _ _)) (.cons (.rs (r := 95000) (sz := 1) (refs := []) (memB (by kernel_rfl)) (by kernel_rfl) (bor_flat eI_ok _ _ _)) (.cons (.rs (r := 1094) (sz := 1) (refs := []) (memB (by kernel_rfl)) (by kernel_rfl) (bor_flat eI_ok _ _ _)) (.cons (.rs (r := 1095) (sz := 1) (refs := []) (memB (by kernel_rfl)) (by kernel_rfl) (bor_flat (eS_ok eI_ok) _ _ _)) .nil)))))) .nil) (.inr ⟨.v, trivial⟩) .nil)) (by kernel_rfl) (by kernel_rfl) ?_
        rcases Bool.eq_false_or_eq_true v42 with h43 | h43
        · have hM := ite_true' hM h43
          refine tr_condTe (e := v42) h43 (by kernel_rfl) ?_
          refine tr_skip (q_n ?_)
          refine tr_seq ?_
          refine tr_block ?_
          refine tr_sr hT hm [] [2, 4, 10, 20, 24, 26, 2003, 2005, 2021, 2189, 2191, 2255, 186001, 190001] [(2, .d (.rp 1001 0)), (4, .d (.rp 1002 0)), (10, .d (.sl s2.1.length 0 (s2.1.flatMap (eS eI).b))), (20, .d (.rp 1010 0)), (24, .d (iv s37.2)), (26, .d (.rs 1127 0 (([] : List Int).length))), bxB 2003 (eXCategory.b a0), (2005, .r (.arr 1 [iv 0, nilv, nilv, nilv, nilv] [])), (2021, .r (.arr 1 [iv (v1.length : Int), .rs 93000 0 v27.length, .rs 95000 0 v28.length, .rs 1094 0 s29.1.length, .rs 1095 0 s37.1.length] [93000, 95000, 1094, 1095])), (2189, .r (.arr 1 (s29.1.flatMap eI.o) [])), (2191, .r (.arr 1 (s37.1.flatMap (eS eI).o) [])), (2255, .r (.arr 1 (([] : List Int).flatMap eI.o) [])), (186001, .r (.arr 1 (v27.flatMap eI.o) [])), (190001, .r (.arr 1 (v28.flatMap eI.o) []))] .nil (by kernel_rfl) (by kernel_rfl) ?_
          refine tr_seq ?_
          refine tr_sr hT hm [] [2, 4, 10, 20, 24, 26, 28, 2003, 2005, 2021, 2189, 2191, 2255, 186001, 190001] [(2, .d (.rp 1001 0)), (4, .d (.rp 1002 0)), (10, .d (.sl s2.1.length 0 (s2.1.flatMap (eS eI).b))), (20, .d (.rp 1010 0)), (24, .d (iv s37.2)), (26, .d (.rs 1127 0 (([] : List Int).length))), (28, .d (iv 0)), bxB 2003 (eXCategory.b a0), (2005, .r (.arr 1 [iv 0, nilv, nilv, nilv, nilv] [])), (2021, .r (.arr 1 [iv (v1.length : Int), .rs 93000 0 v27.length, .rs 95000 0 v28.length, .rs 1094 0 s29.1.length, .rs 1095 0 s37.1.length] [93000, 95000, 1094, 1095])), (2189, .r (.arr 1 (s29.1.flatMap eI.o) [])), (2191, .r (.arr 1 (s37.1.flatMap (eS eI).o) [])), (2255, .r (.arr 1 (([] : List Int).flatMap eI.o) [])), (186001, .r (.arr 1 (v27.flatMap eI.o) [])), (190001, .r (.arr 1 (v28.flatMap eI.o) []))] .nil (by kernel_rfl) (by kernel_rfl) ?_
          refine tr_block ?_
          refine tr_iterS (fun (s44 : (List Int) × Int) => [(2, .d (.rp 1001 0)), (4, .d (.rp 1002 0)), (10, .d (.sl s2.1.length 0 (s2.1.flatMap (eS eI).b))), (20, .d (.rp 1010 0)), (24, .d (iv s37.2)), (26, .d (.rs 1127 0 s44.1.length)), (28, .d (iv s44.2)), bxB 2003 (eXCategory.b a0), (2005, .r (.arr 1 [iv 0, nilv, nilv, nilv, nilv] [])), (2021, .r (.arr 1 [iv (v1.length : Int), .rs 93000 0 v27.length, .rs 95000 0 v28.length, .rs 1094 0 s29.1.length, .rs 1095 0 s37.1.length] [93000, 95000, 1094, 1095])), (2189, .r (.arr 1 (s29.1.flatMap eI.o) [])), (2191, .r (.arr 1 (s37.1.flatMap (eS eI).o) [])), (2255, .r (.arr 1 (s44.1.flatMap eI.o) [])), (186001, .r (.arr 1 (v27.flatMap eI.o) [])), (190001, .r (.arr 1 (v28.flatMap eI.o) []))]) (([] : List Int), 0) [2, 4, 10, 20, 24, 26, 28, 2003, 2005, 2021, 2189, 2191, 2255, 186001, 190001] (by kernel_rfl) hM ?_
          intro n47 next45 ih46 s44 hM
          refine tr_seq ?_
          refine tr_sr hT hm [] [2, 4, 10, 20, 24, 26, 28, 262, 2003, 2005, 2021, 2189, 2191, 2255, 186001, 190001] [(2, .d (.rp 1001 0)), (4, .d (.rp 1002 0)), (10, .d (.sl s2.1.length 0 (s2.1.flatMap (eS eI).b))), (20, .d (.rp 1010 0)), (24, .d (iv s37.2)), (26, .d (.rs 1127 0 s44.1.length)), (28, .d (iv s44.2)), (262, .d (bv (decide (s44.2 < (s2.1.length : Int))))), bxB 2003 (eXCategory.b a0), (2005, .r (.arr 1 [iv 0, nilv, nilv, nilv, nilv] [])), (2021, .r (.arr 1 [iv (v1.length : Int), .rs 93000 0 v27.length, .rs 95000 0 v28.length, .rs 1094 0 s29.1.length, .rs 1095 0 s37.1.length] [93000, 95000, 1094, 1095])), (2189, .r (.arr 1 (s29.1.flatMap eI.o) [])), (2191, .r (.arr 1 (s37.1.flatMap (eS eI).o) [])), (2255, .r (.arr 1 (s44.1.flatMap eI.o) [])), (186001, .r (.arr 1 (v27.flatMap eI.o) [])), (190001, .r (.arr 1 (v28.flatMap eI.o) []))] .nil (by kernel_rfl) (by kernel_rfl) ?_
          rcases Bool.eq_false_or_eq_true (decide (s44.2 < (s2.1.length : Int))) with h48 | h48
          · have hM := ite_true' hM h48
            refine tr_condTe (e := decide (s44.2 < (s2.1.length : Int))) h48 (by kernel_rfl) ?_
            refine tr_skip (q_n ?_)
            refine tr_seq ?_
            refine tr_block ?_
            obtain ⟨y49, hy49, hM⟩ := bind_some' hM
            have hy49' := idx_some hy49
            obtain ⟨y50, hy50, hM⟩ := bind_some' hM
            have hy50' := idx_some hy50
            refine tr_sr hT hm [(3, .val (.sl y49.length 0 (y49.flatMap eI.b))), (7, .val (.sl y50.length 0 (y50.flatMap eI.b)))] [2, 4, 10, 20, 24, 26, 28, 30, 32, 2003, 2005, 2021, 2189, 2191, 2255, 186001, 190001] [(2, .d (.rp 1001 0)), (4, .d (.rp 1002 0)), (10, .d (.sl s2.1.length 0 (s2.1.flatMap (eS eI).b))), (20, .d (.rp 1010 0)), (24, .d (iv s37.2)), (26, .d (.rs 1127 0 s44.1.length)), (28, .d (iv s44.2)), (30, .d (.sl y49.length 0 (y49.flatMap eI.b))), (32, .d (.sl y50.length 0 (y50.flatMap eI.b))), bxB 2003 (eXCategory.b a0), (2005, .r (.arr 1 [iv 0, nilv, nilv, nilv, nilv] [])), (2021, .r (.arr 1 [iv (v1.length : Int), .rs 93000 0 v27.length, .rs 95000 0 v28.length, .rs 1094 0 s29.1.length, .rs 1095 0 s37.1.length] [93000, 95000, 1094, 1095])), (2189, .r (.arr 1 (s29.1.flatMap eI.o) [])), (2191, .r (.arr 1 (s37.1.flatMap (eS eI).o) [])), (2255, .r (.arr 1 (s44.1.flatMap eI.o) [])), (186001, .r (.arr 1 (v27.flatMap eI.o) [])), (190001, .r (.arr 1 (v28.flatMap eI.o) []))] (.cons hy49'.1 (.cons hy49'.2.1 (.cons (at_b0 (eS_ok eI_ok) hy49'.2.2 (d := .sl y49.length 0 (y49.flatMap eI.b)) (by kernel_rfl)) (.cons hy50'.1 (.cons hy50'.2.1 (.cons (at_b0 (eS_ok eI_ok) hy50'.2.2 (d := .sl y50.length 0 (y50.flatMap eI.b)) (by kernel_rfl)) .nil)))))) (by kernel_rfl) (by kernel_rfl) ?_
            refine tr_sr hT hm [] [2, 4, 10, 20, 24, 26, 28, 30, 32, 34, 2003, 2005, 2021, 2189, 2191, 2255, 186001, 190001] [(2, .d (.rp 1001 0)), (4, .d (.rp 1002 0)), (10, .d (.sl s2.1.length 0 (s2.1.flatMap (eS eI).b))), (20, .d (.rp 1010 0)), (24, .d (iv s37.2)), (26, .d (.rs 1127 0 s44.1.length)), (28, .d (iv s44.2)), (30, .d (.sl y49.length 0 (y49.flatMap eI.b))), (32, .d (.sl y50.length 0 (y50.flatMap eI.b))), (34, .d (iv (-1))), bxB 2003 (eXCategory.b a0), (2005, .r (.arr 1 [iv 0, nilv, nilv, nilv, nilv] [])), (2021, .r (.arr 1 [iv (v1.length : Int), .rs 93000 0 v27.length, .rs 95000 0 v28.length, .rs 1094 0 s29.1.length, .rs 1095 0 s37.1.length] [93000, 95000, 1094, 1095])), (2189, .r (.arr 1 (s29.1.flatMap eI.o) [])), (2191, .r (.arr 1 (s37.1.flatMap (eS eI).o) [])), (2255, .r (.arr 1 (s44.1.flatMap eI.o) [])), (186001, .r (.arr 1 (v27.flatMap eI.o) [])), (190001, .r (.arr 1 (v28.flatMap eI.o) []))] .nil (by kernel_rfl) (by kernel_rfl) ?_
            refine tr_seq ?_
            obtain ⟨y51, hy51, hM⟩ := bind_some' hM
            have hy51' := idx_some hy51
            obtain ⟨y52, hy52, hM⟩ := bind_some' hM
            have hy52' := idx_some hy52
            refine tr_sr hT hm [(2, .val (iv y51)), (5, .val (iv y52))] [2, 4, 10, 20, 24, 26, 28, 30, 32, 34, 296, 2003, 2005, 2021, 2189, 2191, 2255, 186001, 190001] [(2, .d (.rp 1001 0)), (4, .d (.rp 1002 0)), (10, .d (.sl s2.1.length 0 (s2.1.flatMap (eS eI).b))), (20, .d (.rp 1010 0)), (24, .d (iv s37.2)), (26, .d (.rs 1127 0 s44.1.length)), (28, .d (iv s44.2)), (30, .d (.sl y49.length 0 (y49.flatMap eI.b))), (32, .d (.sl y50.length 0 (y50.flatMap eI.b))), (34, .d (iv (-1))), (296, .d (bv (y51 == y52))), bxB 2003 (eXCategory.b a0), (2005, .r (.arr 1 [iv 0, nilv, nilv, nilv, nilv] [])), (2021, .r (.arr 1 [iv (v1.length : Int), .rs 93000 0 v27.length, .rs 95000 0 v28.length, .rs 1094 0 s29.1.length, .rs 1095 0 s37.1.length] [93000, 95000, 1094, 1095])), (2189, .r (.arr 1 (s29.1.flatMap eI.o) [])), (2191, .r (.arr 1 (s37.1.flatMap (eS eI).o) [])), (2255, .r (.arr 1 (s44.1.flatMap eI.o) [])), (186001, .r (.arr 1 (v27.flatMap eI.o) [])), (190001, .r (.arr 1 (v28.flatMap eI.o) []))] (.cons hy51'.1 (.cons hy51'.2.1 (.cons (at_b0 eI_ok hy51'.2.2 (d := iv y51) (by kernel_rfl)) (.cons hy52'.1 (.cons hy52'.2.1 (.cons (at_b0 eI_ok hy52'.2.2 (d := iv y52) (by kernel_rfl)) .nil)))))) (by kernel_rfl) (by kernel_rfl) ?_
            rcases Bool.eq_false_or_eq_true (y51 == y52) with h53 | h53
            · have hM := ite_true' hM h53
              refine tr_condTe (e := y51 == y52) h53 (by kernel_rfl) ?_
              obtain ⟨y54, hy54, hM⟩ := bind_some' hM
              have hy54' := idx_some hy54
              obtain ⟨y55, hy55, hM⟩ := bind_some' hM
              have hy55' := idx_some hy55
              obtain ⟨y56, hy56, hM⟩ := bind_some' hM
              have hy56' := idx_some hy56
              obtain ⟨y57, hy57, hM⟩ := bind_some' hM
              have hy57' := idx_some hy57
              obtain ⟨v58, hv58, hM⟩ := bind_some' hM
              obtain ⟨v59, hv59, hM⟩ := bind_some' hM
              refine tr_r hT hm [(3, .val (iv y54)), (6, .val (iv y55)), (10, .val (iv y56)), (13, .val (iv y57)), (14, .call [] [] [.agg (eXCategory.b a0), iv y56, iv y57] [] (iv v58)), (16, .call [1164] [] [.sl s2.1.length 0 (s2.1.flatMap (eS eI).b), .sl ([y54, y55, v58] : List Int).length 0 (([y54, y55, v58] : List Int).flatMap eI.b)] [] (iv v59))] [2, 4, 10, 20, 24, 26, 28, 34, 2003, 2005, 2021, 2189, 2191, 2255, 186001, 190001] [(2, .d (.rp 1001 0)), (4, .d (.rp 1002 0)), (10, .d (.sl s2.1.length 0 (s2.1.flatMap (eS eI).b))), (20, .d (.rp 1010 0)), (24, .d (iv s37.2)), (26, .d (.rs 1127 0 s44.1.length)), (28, .d (iv s44.2)), (34, .d (iv v59)), bxB 2003 (eXCategory.b a0), (2005, .r (.arr 1 [iv 0, nilv, nilv, nilv, nilv] [])), (2021, .r (.arr 1 [iv (v1.length : Int), .rs 93000 0 v27.length, .rs 95000 0 v28.length, .rs 1094 0 s29.1.length, .rs 1095 0 s37.1.length] [93000, 95000, 1094, 1095])), (2189, .r (.arr 1 (s29.1.flatMap eI.o) [])), (2191, .r (.arr 1 (s37.1.flatMap (eS eI).o) [])), (2255, .r (.arr 1 (s44.1.flatMap eI.o) [])), (186001, .r (.arr 1 (v27.flatMap eI.o) [])), (190001, .r (.arr 1 (v28.flatMap eI.o) []))] (.cons hy54'.1 (.cons hy54'.2.1 (.cons (at_b0 eI_ok hy54'.2.2 (d := iv y54) (by kernel_rfl)) (.cons hy55'.1 (.cons hy55'.2.1 (.cons (at_b0 eI_ok hy55'.2.2 (d := iv y55) (by kernel_rfl)) (.cons hy56'.1 (.cons hy56'.2.1 (.cons (at_b0 eI_ok hy56'.2.2 (d := iv y56) (by kernel_rfl)) (.cons hy57'.1 (.cons hy57'.2.1 (.cons (at_b0 eI_ok hy57'.2.2 (d := iv y57) (by kernel_rfl)) (cc0 ok78 (spec_l02Then_c a0 y56 y57 _ hv58) (by kernel_rfl) (cc (B := [1164]) (ρ := []) (rB := [(1164, .arr 1 (([y54, y55, v58] : List Int).flatMap eI.o) [])]) ok39 (spec_l09Find_c s2.1 ([y54, y55, v58] : List Int) _ hv59) (.cons (.same rfl) (.cons (.of1 (.rs (r := 1164) (sz := 1) (refs := []) (memB (by kernel_rfl)) (by kernel_rfl) (bor_flat eI_ok _ _ _))) .nil)) (.inr ⟨.v, trivial⟩) .nil)))))))))))))) (by kernel_rfl) (by kernel_rfl) (q_n ?_)
              obtain ⟨h60, hM⟩ := chk_some hM
              refine tr_r hT hm [(3, .app true)] [2, 4, 10, 20, 24, 26, 28, 2003, 2005, 2021, 2189, 2191, 2339, 186001, 190001] [(2, .d (.rp 1001 0)), (4, .d (.rp 1002 0)), (10, .d (.sl s2.1.length 0 (s2.1.flatMap (eS eI).b))), (20, .d (.rp 1010 0)), (24, .d (iv s37.2)), (26, .d (.rs 1169 0 (s44.1.length + (([v59] : List Int).length)))), (28, .d (iv s44.2)), bxB 2003 (eXCategory.b a0), (2005, .r (.arr 1 [iv 0, nilv, nilv, nilv, nilv] [])), (2021, .r (.arr 1 [iv (v1.length : Int), .rs 93000 0 v27.length, .rs 95000 0 v28.length, .rs 1094 0 s29.1.length, .rs 1095 0 s37.1.length] [93000, 95000, 1094, 1095])), (2189, .r (.arr 1 (s29.1.flatMap eI.o) [])), (2191, .r (.arr 1 (s37.1.flatMap (eS eI).o) [])), (2339, .r (.arr 1 (s44.1.flatMap eI.o ++ ([v59] : List Int).flatMap eI.o) [])), (186001, .r (.arr 1 (v27.flatMap eI.o) [])), (190001, .r (.arr 1 (v28.flatMap eI.o) []))] (.cons (lenO_flat eI_ok s44.1) (.cons (lenO_flat eI_ok ([v59] : List Int)) (.cons h60 .nil))) (by kernel_rfl) (by kernel_rfl) (b_n (q_n ?_))
              refine Tr.by (imp_cvE (r := 1169) (sz := 1) (refs := []) (flat_app eI.o s44.1 ([v59] : List Int)) (menO_flat eI_ok _) (by kernel_rfl)) ?_
              refine Tr.by (imp_cvD (k := 26) (congrArg (D.rs 1169 0) ((len_app s44.1 ([v59] : List Int)) : s44.1.length + (([v59] : List Int).length) = (s44.1 ++ ([v59] : List Int)).length)) (by kernel_rfl)) ?_
              refine tr_r hT hm [] [2, 4, 10, 20, 24, 26, 28, 2003, 2005, 2021, 2189, 2191, 2339, 186001, 190001] [(2, .d (.rp 1001 0)), (4, .d (.rp 1002 0)), (10, .d (.sl s2.1.length 0 (s2.1.flatMap (eS eI).b))), (20, .d (.rp 1010 0)), (24, .d (iv s37.2)), (26, .d (.rs 1169 0 ((s44.1 ++ ([v59] : List Int)).length))), (28, .d (iv (IntKind.i64.wrap (s44.2 + 1)))), bxB 2003 (eXCategory.b a0), (2005, .r (.arr 1 [iv 0, nilv, nilv, nilv, nilv] [])), (2021, .r (.arr 1 [iv (v1.length : Int), .rs 93000 0 v27.length, .rs 95000 0 v28.length, .rs 1094 0 s29.1.length, .rs 1095 0 s37.1.length] [93000, 95000, 1094, 1095])), (2189, .r (.arr 1 (s29.1.flatMap eI.o) [])), (2191, .r (.arr 1 (s37.1.flatMap (eS eI).o) [])), (2339, .r (.arr 1 ((s44.1 ++ ([v59] : List Int)).flatMap eI.o) [])), (186001, .r (.arr 1 (v27.flatMap eI.o) [])), (190001, .r (.arr 1 (v28.flatMap eI.o) []))] .nil (by kernel_rfl) (by kernel_rfl) (l_n ?_)
              refine TrL.by (imp_sel (ks := [2, 4, 10, 20, 24, 26, 28, 2003, 2005, 2021, 2189, 2191, 2339, 186001, 190001]) (st' := [(2, .d (.rp 1001 0)), (4, .d (.rp 1002 0)), (10, .d (.sl s2.1.length 0 (s2.1.flatMap (eS eI).b))), (20, .d (.rp 1010 0)), (24, .d (iv s37.2)), (26, .d (.rs 1169 0 ((s44.1 ++ ([v59] : List Int)).length))), (28, .d (iv (IntKind.i64.wrap (s44.2 + 1)))), bxB 2003 (eXCategory.b a0), (2005, .r (.arr 1 [iv 0, nilv, nilv, nilv, nilv] [])), (2021, .r (.arr 1 [iv (v1.length : Int), .rs 93000 0 v27.length, .rs 95000 0 v28.length, .rs 1094 0 s29.1.length, .rs 1095 0 s37.1.length] [93000, 95000, 1094, 1095])), (2189, .r (.arr 1 (s29.1.flatMap eI.o) [])), (2191, .r (.arr 1 (s37.1.flatMap (eS eI).o) [])), (2339, .r (.arr 1 ((s44.1 ++ ([v59] : List Int)).flatMap eI.o) [])), (186001, .r (.arr 1 (v27.flatMap eI.o) [])), (190001, .r (.arr 1 (v28.flatMap eI.o) []))]) (by kernel_rfl)) ?_
              refine TrL.by (imp_rename (r := 1169) (q := 1127) (by kernel_rfl) (Nat.le_of_ble_eq_true rfl)) ?_
              exact trl_start (ks := [2, 4, 10, 20, 24, 26, 28, 2003, 2005, 2021, 2189, 2191, 2255, 186001, 190001]) (by kernel_rfl) (ih46 (s44.1 ++ ([v59] : List Int), IntKind.i64.wrap (s44.2 + 1)) hM)
            · have hM := ite_false' hM h53
              refine tr_condFe (e := y51 == y52) h53 (by kernel_rfl) ?_
              refine tr_skip (q_n ?_)
              obtain ⟨h61, hM⟩ := chk_some hM
              refine tr_r hT hm [(3, .app true)] [2, 4, 10, 20, 24, 26, 28, 2003, 2005, 2021, 2189, 2191, 2339, 186001, 190001] [(2, .d (.rp 1001 0)), (4, .d (.rp 1002 0)), (10, .d (.sl s2.1.length 0 (s2.1.flatMap (eS eI).b))), (20, .d (.rp 1010 0)), (24, .d (iv s37.2)), (26, .d (.rs 1169 0 (s44.1.length + (([(-1)] : List Int).length)))), (28, .d (iv s44.2)), bxB 2003 (eXCategory.b a0), (2005, .r (.arr 1 [iv 0, nilv, nilv, nilv, nilv] [])), (2021, .r (.arr 1 [iv (v1.length : Int), .rs 93000 0 v27.length, .rs 95000 0 v28.length, .rs 1094 0 s29.1.length, .rs 1095 0 s37.1.length] [93000, 95000, 1094, 1095])), (2189, .r (.arr 1 (s29.1.flatMap eI.o) [])), (2191, .r (.arr 1 (s37.1.flatMap (eS eI).o) [])), (2339, .r (.arr 1 (s44.1.flatMap eI.o ++ ([(-1)] : List Int).flatMap eI.o) [])), (186001, .r (.arr 1 (v27.flatMap eI.o) [])), (190001, .r (.arr 1 (v28.flatMap eI.o) []))] (.cons (lenO_flat eI_ok s44.1) (.cons (lenO_flat eI_ok ([(-1)] : List Int)) (.cons h61 .nil))) (by kernel_rfl) (by kernel_rfl) (b_n (q_n ?_))
              refine Tr.by (imp_cvE (r := 1169) (sz := 1) (refs := []) (flat_app eI.o s44.1 ([(-1)] : List Int)) (menO_flat eI_ok _) (by kernel_rfl)) ?_
              refine Tr.by (imp_cvD (k := 26) (congrArg (D.rs 1169 0) ((len_app s44.1 ([(-1)] : List Int)) : s44.1.length + (([(-1)] : List Int).length) = (s44.1 ++ ([(-1)] : List Int)).length)) (by kernel_rfl)) ?_
              refine tr_r hT hm [] [2, 4, 10, 20, 24, 26, 28, 2003, 2005, 2021, 2189, 2191, 2339, 186001, 190001] [(2, .d (.rp 1001 0)), (4, .d (.rp 1002 0)), (10, .d (.sl s2.1.length 0 (s2.1.flatMap (eS eI).b))), (20, .d (.rp 1010 0)), (24, .d (iv s37.2)), (26, .d (.rs 1169 0 ((s44.1 ++ ([(-1)] : List Int)).length))), (28, .d (iv (IntKind.i64.wrap (s44.2 + 1)))), bxB 2003 (eXCategory.b a0), (2005, .r (.arr 1 [iv 0, nilv, nilv, nilv, nilv] [])), (2021, .r (.arr 1 [iv (v1.length : Int), .rs 93000 0 v27.length, .rs 95000 0 v28.length, .rs 1094 0 s29.1.length, .rs 1095 0 s37.1.length] [93000, 95000, 1094, 1095])), (2189, .r (.arr 1 (s29.1.flatMap eI.o) [])), (2191, .r (.arr 1 (s37.1.flatMap (eS eI).o) [])), (2339, .r (.arr 1 ((s44.1 ++ ([(-1)] : List Int)).flatMap eI.o) [])), (186001, .r (.arr 1 (v27.flatMap eI.o) [])), (190001, .r (.arr 1 (v28.flatMap eI.o) []))] .nil (by kernel_rfl) (by kernel_rfl) (l_n ?_)
              refine TrL.by (imp_sel (ks := [2, 4, 10, 20, 24, 26, 28, 2003, 2005, 2021, 2189, 2191, 2339, 186001, 190001]) (st' := [(2, .d (.rp 1001 0)), (4, .d (.rp 1002 0)), (10, .d (.sl s2.1.length 0 (s2.1.flatMap (eS eI).b))), (20, .d (.rp 1010 0)), (24, .d (iv s37.2)), (26, .d (.rs 1169 0 ((s44.1 ++ ([(-1)] : List Int)).length))), (28, .d (iv (IntKind.i64.wrap (s44.2 + 1)))), bxB 2003 (eXCategory.b a0), (2005, .r (.arr 1 [iv 0, nilv, nilv, nilv, nilv] [])), (2021, .r (.arr 1 [iv (v1.length : Int), .rs 93000 0 v27.length, .rs 95000 0 v28.length, .rs 1094 0 s29.1.length, .rs 1095 0 s37.1.length] [93000, 95000, 1094, 1095])), (2189, .r (.arr 1 (s29.1.flatMap eI.o) [])), (2191, .r (.arr 1 (s37.1.flatMap (eS eI).o) [])), (2339, .r (.arr 1 ((s44.1 ++ ([(-1)] : List Int)).flatMap eI.o) [])), (186001, .r (.arr 1 (v27.flatMap eI.o) [])), (190001, .r (.arr 1 (v28.flatMap eI.o) []))]) (by kernel_rfl)) ?_
              refine TrL.by (imp_rename (r := 1169) (q := 1127) (by kernel_rfl) (Nat.le_of_ble_eq_true rfl)) ?_
              exact trl_start (ks := [2, 4, 10, 20, 24, 26, 28, 2003, 2005, 2021, 2189, 2191, 2255, 186001, 190001]) (by kernel_rfl) (ih46 (s44.1 ++ ([(-1)] : List Int), IntKind.i64.wrap (s44.2 + 1)) hM)
          · have hM := ite_false' hM h48
            refine tr_condFe (e := decide (s44.2 < (s2.1.length : Int))) h48 (by kernel_rfl) ?_
            refine tr_exit (q_x (l_x (b_h (q_n ?_))))
            obtain ⟨h62, hM⟩ := chk_some hM
            refine tr_r hT hm [(4, .app true)] [2, 4, 10, 20, 24, 2003, 2005, 2021, 2189, 2255, 2349, 186001, 190001] [(2, .d (.rp 1001 0)), (4, .d (.rp 1002 0)), (10, .d (.sl s2.1.length 0 (s2.1.flatMap (eS eI).b))), (20, .d (.rp 1010 0)), (24, .d (iv s37.2)), bxB 2003 (eXCategory.b a0), (2005, .r (.arr 1 [iv 0, nilv, nilv, nilv, nilv] [])), (2021, .r (.arr 1 [iv (v1.length : Int), .rs 93000 0 v27.length, .rs 95000 0 v28.length, .rs 1094 0 s29.1.length, .rs 1174 0 (s37.1.length + 1)] [93000, 95000, 1094, 1095, 1174])), (2189, .r (.arr 1 (s29.1.flatMap eI.o) [])), (2255, .r (.arr 1 (s44.1.flatMap eI.o) [])), (2349, .r (.arr 1 (s37.1.flatMap (eS eI).o ++ [.rs 1127 0 s44.1.length]) [1127])), (186001, .r (.arr 1 (v27.flatMap eI.o) [])), (190001, .r (.arr 1 (v28.flatMap eI.o) []))] (.cons (lenO_flat (eS_ok eI_ok) s37.1) (.cons (by kernel_rfl : ([.rs 1127 0 s44.1.length] : List D).length = 1 * 1) (.cons h62 (.cons (Nat.le_of_ble_eq_true (n := 5) (m := 5) rfl) .nil)))) (by kernel_rfl) (by kernel_rfl) (b_n (q_n ?_))
            refine Tr.by (imp_demE (r := 1174) (q := 1127) (sz := 1) (n := s44.1.length) (j := 0) (pre := s37.1.flatMap (eS eI).o) (l := [.rs 1127 0 s44.1.length]) (refs := [1127]) (refs' := []) (menO_flat (eS_ok eI_ok) _) (lenO_flat eI_ok s44.1) (by kernel_rfl) (by kernel_rfl) (by kernel_rfl) (by kernel_rfl) (by kernel_rfl)) ?_
            refine Tr.by (imp_cvE (r := 1174) (sz := 1) (refs := []) (flat_snoc (eS eI).o s37.1 s44.1) (menO_flat (eS_ok eI_ok) _) (by kernel_rfl)) ?_
            refine Tr.by (imp_cvB (r := 1010) (sz := 1) (cells := [iv (v1.length : Int), .rs 93000 0 v27.length, .rs 95000 0 v28.length, .rs 1094 0 s29.1.length, .rs 1174 0 (s37.1.length + 1)]) (cells' := [iv (v1.length : Int), .rs 93000 0 v27.length, .rs 95000 0 v28.length, .rs 1094 0 s29.1.length, .rs 1174 0 ((s37.1 ++ [s44.1]).length)]) (refs := [93000, 95000, 1094, 1095, 1174]) (refs' := [93000, 95000, 1094, 1095, 1174]) (.cons (.refl _) (.cons (.refl _) (.cons (.refl _) (.cons (.refl _) (.cons (Sub.of_eq (congrArg (D.rs 1174 0) ((len_snoc s37.1 s44.1) : s37.1.length + 1 = (s37.1 ++ [s44.1]).length))) .nil))))) (by kernel_rfl) (by kernel_rfl) (by kernel_rfl)) ?_
            refine tr_r hT hm [] [2, 4, 10, 20, 24, 2003, 2005, 2021, 2189, 2349, 186001, 190001] [(2, .d (.rp 1001 0)), (4, .d (.rp 1002 0)), (10, .d (.sl s2.1.length 0 (s2.1.flatMap (eS eI).b))), (20, .d (.rp 1010 0)), (24, .d (iv (IntKind.i64.wrap (s37.2 + 1)))), bxB 2003 (eXCategory.b a0), (2005, .r (.arr 1 [iv 0, nilv, nilv, nilv, nilv] [])), (2021, .r (.arr 1 [iv (v1.length : Int), .rs 93000 0 v27.length, .rs 95000 0 v28.length, .rs 1094 0 s29.1.length, .rs 1174 0 ((s37.1 ++ [s44.1]).length)] [93000, 95000, 1094, 1095, 1174])), (2189, .r (.arr 1 (s29.1.flatMap eI.o) [])), (2349, .r (.arr 1 ((s37.1 ++ [s44.1]).flatMap (eS eI).o) [])), (186001, .r (.arr 1 (v27.flatMap eI.o) [])), (190001, .r (.arr 1 (v28.flatMap eI.o) []))] .nil (by kernel_rfl) (by kernel_rfl) (l_n ?_)
            refine TrL.by (imp_cvB (r := 1010) (sz := 1) (cells := [iv (v1.length : Int), .rs 93000 0 v27.length, .rs 95000 0 v28.length, .rs 1094 0 s29.1.length, .rs 1174 0 ((s37.1 ++ [s44.1]).length)]) (cells' := [iv (v1.length : Int), .rs 93000 0 v27.length, .rs 95000 0 v28.length, .rs 1094 0 s29.1.length, .rs 1174 0 ((s37.1 ++ [s44.1]).length)]) (refs := [93000, 95000, 1094, 1095, 1174]) (refs' := [93000, 95000, 1094, 1174]) (.cons (.refl _) (.cons (.refl _) (.cons (.refl _) (.cons (.refl _) (.cons (.refl _) .nil))))) (by kernel_rfl) (by kernel_rfl) (by kernel_rfl)) ?_
            refine TrL.by (imp_sel (ks := [2, 4, 10, 20, 24, 2003, 2005, 2021, 2189, 2349, 186001, 190001]) (st' := [(2, .d (.rp 1001 0)), (4, .d (.rp 1002 0)), (10, .d (.sl s2.1.length 0 (s2.1.flatMap (eS eI).b))), (20, .d (.rp 1010 0)), (24, .d (iv (IntKind.i64.wrap (s37.2 + 1)))), bxB 2003 (eXCategory.b a0), (2005, .r (.arr 1 [iv 0, nilv, nilv, nilv, nilv] [])), (2021, .r (.arr 1 [iv (v1.length : Int), .rs 93000 0 v27.length, .rs 95000 0 v28.length, .rs 1094 0 s29.1.length, .rs 1174 0 ((s37.1 ++ [s44.1]).length)] [93000, 95000, 1094, 1174])), (2189, .r (.arr 1 (s29.1.flatMap eI.o) [])), (2349, .r (.arr 1 ((s37.1 ++ [s44.1]).flatMap (eS eI).o) [])), (186001, .r (.arr 1 (v27.flatMap eI.o) [])), (190001, .r (.arr 1 (v28.flatMap eI.o) []))]) (by kernel_rfl)) ?_
            refine TrL.by (imp_rename (r := 1174) (q := 1095) (by kernel_rfl) (Nat.le_of_ble_eq_true rfl)) ?_
            exact trl_start (ks := [2, 4, 10, 20, 24, 2003, 2005, 2021, 2189, 2191, 186001, 190001]) (by kernel_rfl) (ih39 (s37.1 ++ [s44.1], IntKind.i64.wrap (s37.2 + 1)) hM)
        · have hM := ite_false' hM h43
          refine tr_condFe (e := v42) h43 (by kernel_rfl) ?_
          refine tr_exit (q_x (l_x (b_h (q_n ?_))))
          refine tr_sr hT hm [] [4, 6, 2005, 2189, 2191, 186001, 190001] [(4, .d (.rp 1002 0)), (6, .d (.sl s2.1.length 0 (s2.1.flatMap (eS eI).b))), (2005, .r (.arr 1 [iv (v1.length : Int), .rs 93000 0 v27.length, .rs 95000 0 v28.length, .rs 1094 0 s29.1.length, .rs 1095 0 s37.1.length] [93000, 95000, 1094, 1095])), (2189, .r (.arr 1 (s29.1.flatMap eI.o) [])), (2191, .r (.arr 1 (s37.1.flatMap (eS eI).o) [])), (186001, .r (.arr 1 (v27.flatMap eI.o) [])), (190001, .r (.arr 1 (v28.flatMap eI.o) []))] (.cons (Nat.le_of_ble_eq_true (n := 5) (m := 5) rfl) .nil) (by kernel_rfl) (by kernel_rfl) ?_
          refine tr_ret (rg_r ?_)
          obtain rfl := Option.some.inj hM
          exact retg (names := []) (.cons (lenO_flat eI_ok v27) (.cons (lenO_flat eI_ok v28) (.cons (lenO_flat eI_ok s29.1) (.cons (lenO_flat (eS_ok eI_ok) s37.1) .nil)))) (by kernel_rfl)
      · have hM := ite_false' hM h41
        refine tr_sr hT hm [(4, .val (bv false))] [2, 4, 10, 20, 24, 248, 2003, 2005, 2021, 2189, 2191, 186001, 190001] [(2, .d (.rp 1001 0)), (4, .d (.rp 1002 0)), (10, .d (.sl s2.1.length 0 (s2.1.flatMap (eS eI).b))), (20, .d (.rp 1010 0)), (24, .d (iv s37.2)), (248, .d (bv false)), bxB 2003 (eXCategory.b a0), (2005, .r (.arr 1 [iv 0, nilv, nilv, nilv, nilv] [])), (2021, .r (.arr 1 [iv (v1.length : Int), .rs 93000 0 v27.length, .rs 95000 0 v28.length, .rs 1094 0 s29.1.length, .rs 1095 0 s37.1.length] [93000, 95000, 1094, 1095])), (2189, .r (.arr 1 (s29.1.flatMap eI.o) [])), (2191, .r (.arr 1 (s37.1.flatMap (eS eI).o) [])), (186001, .r (.arr 1 (v27.flatMap eI.o) [])), (190001, .r (.arr 1 (v28.flatMap eI.o) []))] (.cons (congrArg (fun b => bv b) h41) .nil) (by kernel_rfl) (by kernel_rfl) ?_
        refine tr_condF (by kernel_rfl) ?_
        refine tr_exit (q_x (l_x (b_h (q_n ?_))))
        refine tr_sr hT hm [] [4, 6, 2005, 2189, 2191, 186001, 190001] [(4, .d (.rp 1002 0)), (6, .d (.sl s2.1.length 0 (s2.1.flatMap (eS eI).b))), (2005, .r (.arr 1 [iv (v1.length : Int), .rs 93000 0 v27.length, .rs 95000 0 v28.length, .rs 1094 0 s29.1.length, .rs 1095 0 s37.1.length] [93000, 95000, 1094, 1095])), (2189, .r (.arr 1 (s29.1.flatMap eI.o) [])), (2191, .r (.arr 1 (s37.1.flatMap (eS eI).o) [])), (186001, .r (.arr 1 (v27.flatMap eI.o) [])), (190001, .r (.arr 1 (v28.flatMap eI.o) []))] (.cons (Nat.le_of_ble_eq_true (n := 5) (m := 5) rfl) .nil) (by kernel_rfl) (by kernel_rfl) ?_
        refine tr_ret (rg_r ?_)
        obtain rfl := Option.some.inj hM
        exact retg (names := []) (.cons (lenO_flat eI_ok v27) (.cons (lenO_flat eI_ok v28) (.cons (lenO_flat eI_ok s29.1) (.cons (lenO_flat (eS_ok eI_ok) s37.1) .nil)))) (by kernel_rfl)

theorem ok85 : CallOk Try.prog 85 := callOk_of Try.func85 (by kernel_rfl) (by kernel_rfl)
theorem impl_Category_idempotents_c (a0 : XCategory) (r : (List Int)) (hM : M.impl_Category_idempotents a0 = some r) :
    FnC Try.prog 85 [] [.pt (eXCategory.b a0) 0] [] (.fr 1 r.length (r.flatMap eI.o)) := by
  refine fnc_startG (N := 32) (np := 500) hT Try.func85 rfl rfl (by kernel_rfl) ?_
  unfold M.impl_Category_idempotents at hM
  refine tr_start (ks := [0]) (st' := [(0, .d (.pt (eXCategory.b a0) 0))]) (by kernel_rfl) ?_
  refine tr_sr hT hm [] [0] [(0, .d (.pt (eXCategory.b a0) 0))] .nil (by kernel_rfl) (by kernel_rfl) ?_
  refine tr_sr hT hm [] [0, 6, 2011] [(0, .d (.pt (eXCategory.b a0) 0)), (6, .d (.rs 1005 0 (([] : List Int).length))), (2011, .r (.arr 1 (([] : List Int).flatMap eI.o) []))] .nil (by kernel_rfl) (by kernel_rfl) ?_
  refine tr_seq ?_
  refine tr_sr hT hm [] [0, 6, 20, 22, 2011] [(0, .d (.pt (eXCategory.b a0) 0)), (6, .d (.rs 1005 0 (([] : List Int).length))), (20, .d (iv (a0.From.length : Int))), (22, .d (iv 0)), (2011, .r (.arr 1 (([] : List Int).flatMap eI.o) []))] .nil (by kernel_rfl) (by kernel_rfl) ?_
  refine tr_block ?_
  refine tr_iterS (fun (s1 : (List Int) × Int) => [(0, .d (.pt (eXCategory.b a0) 0)), (6, .d (.rs 1005 0 s1.1.length)), (20, .d (iv (a0.From.length : Int))), (22, .d (iv s1.2)), (2011, .r (.arr 1 (s1.1.flatMap eI.o) []))]) (([] : List Int), 0) [0, 6, 20, 22, 2011] (by kernel_rfl) hM ?_
  intro n4 next2 ih3 s1 hM
  refine tr_sr hT hm [] [0, 6, 20, 22, 24, 2011] [(0, .d (.pt (eXCategory.b a0) 0)), (6, .d (.rs 1005 0 s1.1.length)), (20, .d (iv (a0.From.length : Int))), (22, .d (iv s1.2)), (24, .d (bv (decide (s1.2 < (a0.From.length : Int))))), (2011, .r (.arr 1 (s1.1.flatMap eI.o) []))] .nil (by kernel_rfl) (by kernel_rfl) ?_
  refine tr_seq ?_
  rcases Bool.eq_false_or_eq_true (decide (s1.2 < (a0.From.length : Int))) with h5 | h5
  · have hM := ite_true' hM h5
    refine tr_condTe (e := decide (s1.2 < (a0.From.length : Int))) h5 (by kernel_rfl) ?_
    refine tr_skip (q_n ?_)
    refine tr_seq ?_
    refine tr_block ?_
    refine tr_sr hT hm [] [0, 6, 8, 20, 22, 2011] [(0, .d (.pt (eXCategory.b a0) 0)), (6, .d (.rs 1005 0 s1.1.length)), (8, .d (iv s1.2)), (20, .d (iv (a0.From.length : Int))), (22, .d (iv s1.2)), (2011, .r (.arr 1 (s1.1.flatMap eI.o) []))] .nil (by kernel_rfl) (by kernel_rfl) ?_
    obtain ⟨y6, hy6, hM⟩ := bind_some' hM
    have hy6' := idx_some hy6
    obtain ⟨y7, hy7, hM⟩ := bind_some' hM
    have hy7' := idx_some hy7
    refine tr_sr hT hm [(6, .val (.sl y6.length 0 (y6.flatMap eI.b))), (9, .val (iv y7))] [0, 6, 8, 20, 22, 50, 2011] [(0, .d (.pt (eXCategory.b a0) 0)), (6, .d (.rs 1005 0 s1.1.length)), (8, .d (iv s1.2)), (20, .d (iv (a0.From.length : Int))), (22, .d (iv s1.2)), (50, .d (bv (y7 == s1.2))), (2011, .r (.arr 1 (s1.1.flatMap eI.o) []))] (.cons hy6'.1 (.cons hy6'.2.1 (.cons (at_b0 (eS_ok eI_ok) hy6'.2.2 (d := .sl y6.length 0 (y6.flatMap eI.b)) (by kernel_rfl)) (.cons hy7'.1 (.cons hy7'.2.1 (.cons (at_b0 eI_ok hy7'.2.2 (d := iv y7) (by kernel_rfl)) .nil)))))) (by kernel_rfl) (by kernel_rfl) ?_
    rcases Bool.eq_false_or_eq_true (y7 == s1.2) with h8 | h8
    · have hM := ite_true' hM h8
      refine tr_condTe (e := y7 == s1.2) h8 (by kernel_rfl) ?_
      obtain ⟨h9, hM⟩ := chk_some hM
      refine tr_r hT hm [(3, .app true)] [0, 6, 20, 22, 2059] [(0, .d (.pt (eXCategory.b a0) 0)), (6, .d (.rs 1029 0 (s1.1.length + (([s1.2] : List Int).length)))), (20, .d (iv (a0.From.length : Int))), (22, .d (iv s1.2)), (2059, .r (.arr 1 (s1.1.flatMap eI.o ++ ([s1.2] : List Int).flatMap eI.o) []))] (.cons (lenO_flat eI_ok s1.1) (.cons (lenO_flat eI_ok ([s1.2] : List Int)) (.cons h9 .nil))) (by kernel_rfl) (by kernel_rfl) (b_n (q_n ?_))
      refine Tr.by (imp_cvE (r := 1029) (sz := 1) (refs := []) (flat_app eI.o s1.1 ([s1.2] : List Int)) (menO_flat eI_ok _) (by kernel_rfl)) ?_
      refine Tr.by (imp_cvD (k := 6) (congrArg (D.rs 1029 0) ((len_app s1.1 ([s1.2] : List Int)) : s1.1.length + (([s1.2] : List Int).length) = (s1.1 ++ ([s1.2] : List Int)).length)) (by kernel_rfl)) ?_
      refine tr_r hT hm [] [0, 6, 20, 22, 2059] [(0, .d (.pt (eXCategory.b a0) 0)), (6, .d (.rs 1029 0 ((s1.1 ++ ([s1.2] : List Int)).length))), (20, .d (iv (a0.From.length : Int))), (22, .d (iv (IntKind.i64.wrap (s1.2 + 1)))), (2059, .r (.arr 1 ((s1.1 ++ ([s1.2] : List Int)).flatMap eI.o) []))] .nil (by kernel_rfl) (by kernel_rfl) (l_n ?_)
      refine TrL.by (imp_sel (ks := [0, 6, 20, 22, 2059]) (st' := [(0, .d (.pt (eXCategory.b a0) 0)), (6, .d (.rs 1029 0 ((s1.1 ++ ([s1.2] : List Int)).length))), (20, .d (iv (a0.From.length : Int))), (22, .d (iv (IntKind.i64.wrap (s1.2 + 1)))), (2059, .r (.arr 1 ((s1.1 ++ ([s1.2] : List Int)).flatMap eI.o) []))]) (by kernel_rfl)) ?_
      refine TrL.by (imp_rename (r := 1029) (q := 1005) (by kernel_rfl) (Nat.le_of_ble_eq_true rfl)) ?_
      exact trl_start (ks := [0, 6, 20, 22, 2011]) (by kernel_rfl) (ih3 (s1.1 ++ ([s1.2] : List Int), IntKind.i64.wrap (s1.2 + 1)) hM)
    · have hM := ite_false' hM h8
      refine tr_condFe (e := y7 == s1.2) h8 (by kernel_rfl) ?_
      refine tr_skip (b_n (q_n ?_))
      refine tr_r hT hm [] [0, 6, 20, 22, 2011] [(0, .d (.pt (eXCategory.b a0) 0)), (6, .d (.rs 1005 0 s1.1.length)), (20, .d (iv (a0.From.length : Int))), (22, .d (iv (IntKind.i64.wrap (s1.2 + 1)))), (2011, .r (.arr 1 (s1.1.flatMap eI.o) []))] .nil (by kernel_rfl) (by kernel_rfl) (l_n ?_)
      exact trl_start (ks := [0, 6, 20, 22, 2011]) (by kernel_rfl) (ih3 (s1.1, IntKind.i64.wrap (s1.2 + 1)) hM)
  · have hM := ite_false' hM h5
    refine tr_condFe (e := decide (s1.2 < (a0.From.length : Int))) h5 (by kernel_rfl) ?_
    refine tr_exit (q_x (l_x (b_h (q_n ?_))))
    refine tr_sr hT hm [] [4, 2011] [(4, .d (.rs 1005 0 s1.1.length)), (2011, .r (.arr 1 (s1.1.flatMap eI.o) []))] .nil (by kernel_rfl) (by kernel_rfl) ?_
    refine tr_ret (rg_r ?_)
    obtain rfl := Option.some.inj hM
    exact retg (names := []) (.cons (lenO_flat eI_ok s1.1) .nil) (by kernel_rfl)

theorem ok140 : CallOk Try.prog 140 := callOk_of Try.func140 (by kernel_rfl) (by kernel_rfl)
theorem slices_Index_3_int64_3_int64_c (a0 : List X3_int64) (a1 : X3_int64) (r : Int) (hM : M.slices_Index_3_int64_3_int64 a0 a1 = some r) :
    FnC Try.prog 140 [] [.sl a0.length 0 (a0.flatMap eX3_int64.b), .agg (eX3_int64.b a1)] [] (iv r) := by
  refine fnc_startG (N := 19) (np := 500) hT Try.func140 rfl rfl (by kernel_rfl) ?_
  unfold M.slices_Index_3_int64_3_int64 at hM
  refine tr_start (ks := [0, 2]) (st' := [(0, .d (.sl a0.length 0 (a0.flatMap eX3_int64.b))), (2, .d (.agg (eX3_int64.b a1)))]) (by kernel_rfl) ?_
  refine tr_sr hT hm [] [0, 6, 2007] [(0, .d (.sl a0.length 0 (a0.flatMap eX3_int64.b))), (6, .d (.rp 1003 0)), bxB 2007 (eX3_int64.b a1)] .nil (by kernel_rfl) (by kernel_rfl) ?_
  refine tr_seq ?_
  refine tr_sr hT hm [] [0, 6, 14, 16, 2007] [(0, .d (.sl a0.length 0 (a0.flatMap eX3_int64.b))), (6, .d (.rp 1003 0)), (14, .d (iv (a0.length : Int))), (16, .d (iv 0)), bxB 2007 (eX3_int64.b a1)] .nil (by kernel_rfl) (by kernel_rfl) ?_
  refine tr_block ?_
  refine tr_iterS (fun (s1 : Int) => [(0, .d (.sl a0.length 0 (a0.flatMap eX3_int64.b))), (6, .d (.rp 1003 0)), (14, .d (iv (a0.length : Int))), (16, .d (iv s1)), bxB 2007 (eX3_int64.b a1)]) 0 [0, 6, 14, 16, 2007] (by kernel_rfl) hM ?_
  intro n4 next2 ih3 s1 hM
  refine tr_sr hT hm [] [0, 6, 14, 16, 18, 2007] [(0, .d (.sl a0.length 0 (a0.flatMap eX3_int64.b))), (6, .d (.rp 1003 0)), (14, .d (iv (a0.length : Int))), (16, .d (iv s1)), (18, .d (bv (decide (s1 < (a0.length : Int))))), bxB 2007 (eX3_int64.b a1)] .nil (by kernel_rfl) (by kernel_rfl) ?_
  refine tr_seq ?_
  rcases Bool.eq_false_or_eq_true (decide (s1 < (a0.length : Int))) with h5 | h5
  · have hM := ite_true' hM h5
    refine tr_condTe (e := decide (s1 < (a0.length : Int))) h5 (by kernel_rfl) ?_
    refine tr_skip (q_n ?_)
    refine tr_seq ?_
    refine tr_block ?_
    refine tr_sr hT hm [] [0, 6, 10, 14, 16, 2007] [(0, .d (.sl a0.length 0 (a0.flatMap eX3_int64.b))), (6, .d (.rp 1003 0)), (10, .d (iv s1)), (14, .d (iv (a0.length : Int))), (16, .d (iv s1)), bxB 2007 (eX3_int64.b a1)] .nil (by kernel_rfl) (by kernel_rfl) ?_
    obtain ⟨y6, hy6, hM⟩ := bind_some' hM
    have hy6' := idx_some hy6
    refine tr_sr hT hm [(4, .val (.agg [iv y6.E0, iv y6.E1, iv y6.E2]))] [0, 6, 10, 14, 16, 32, 2007] [(0, .d (.sl a0.length 0 (a0.flatMap eX3_int64.b))), (6, .d (.rp 1003 0)), (10, .d (iv s1)), (14, .d (iv (a0.length : Int))), (16, .d (iv s1)), (32, .d (bv (((a1.E0 == y6.E0) && ((a1.E1 == y6.E1) && (a1.E2 == y6.E2))) == true))), bxB 2007 (eX3_int64.b a1)] (.cons hy6'.1 (.cons hy6'.2.1 (.cons (sub_b eX3_int64_ok hy6'.2.2) (.cons (by kernel_rfl : Try.prog.eqGuardType Try.prog.depth 89 = false) .nil)))) (by kernel_rfl) (by kernel_rfl) ?_
    rcases Bool.eq_false_or_eq_true (((a1.E0 == y6.E0) && ((a1.E1 == y6.E1) && (a1.E2 == y6.E2))) == true) with h7 | h7
    · have hM := ite_true' hM h7
      refine tr_condTe (e := ((a1.E0 == y6.E0) && ((a1.E1 == y6.E1) && (a1.E2 == y6.E2))) == true) h7 (by kernel_rfl) ?_
      refine tr_sr hT hm [] [8] [(8, .d (iv s1))] .nil (by kernel_rfl) (by kernel_rfl) ?_
      refine tr_ret (b_r (q_r (l_r (b_r (q_r (rg_r ?_))))))
      obtain rfl := Option.some.inj hM
      exact retg (names := []) .nil (by kernel_rfl)
    · have hM := ite_false' hM h7
      refine tr_condFe (e := ((a1.E0 == y6.E0) && ((a1.E1 == y6.E1) && (a1.E2 == y6.E2))) == true) h7 (by kernel_rfl) ?_
      refine tr_skip (b_n (q_n ?_))
      refine tr_r hT hm [] [0, 6, 14, 16, 2007] [(0, .d (.sl a0.length 0 (a0.flatMap eX3_int64.b))), (6, .d (.rp 1003 0)), (14, .d (iv (a0.length : Int))), (16, .d (iv (IntKind.i64.wrap (s1 + 1)))), bxB 2007 (eX3_int64.b a1)] .nil (by kernel_rfl) (by kernel_rfl) (l_n ?_)
      exact trl_start (ks := [0, 6, 14, 16, 2007]) (by kernel_rfl) (ih3 (IntKind.i64.wrap (s1 + 1)) hM)
  · have hM := ite_false' hM h5
    refine tr_condFe (e := decide (s1 < (a0.length : Int))) h5 (by kernel_rfl) ?_
    refine tr_exit (q_x (l_x (b_h (q_n ?_))))
    refine tr_sr hT hm [] [8] [(8, .d (iv (-1)))] .nil (by kernel_rfl) (by kernel_rfl) ?_
    refine tr_ret (rg_r ?_)
    obtain rfl := Option.some.inj hM
    exact retg (names := []) .nil (by kernel_rfl)

theorem ok91 : CallOk Try.prog 91 := callOk_of Try.func91 (by kernel_rfl) (by kernel_rfl)
theorem impl_index_3_int64_c (a0 : List X3_int64) (a1 : X3_int64) (r : Int) (hM : M.impl_index_3_int64 a0 a1 = some r) :
    FnC Try.prog 91 [] [.sl a0.length 0 (a0.flatMap eX3_int64.b), .agg (eX3_int64.b a1)] [] (iv r) := by
  refine fnc_startG (N := 8) (np := 500) hT Try.func91 rfl rfl (by kernel_rfl) ?_
  unfold M.impl_index_3_int64 at hM
  refine tr_start (ks := [0, 2]) (st' := [(0, .d (.sl a0.length 0 (a0.flatMap eX3_int64.b))), (2, .d (.agg (eX3_int64.b a1)))]) (by kernel_rfl) ?_
  refine tr_sr hT hm [] [0, 6, 2007] [(0, .d (.sl a0.length 0 (a0.flatMap eX3_int64.b))), (6, .d (.rp 1003 0)), bxB 2007 (eX3_int64.b a1)] .nil (by kernel_rfl) (by kernel_rfl) ?_
  obtain ⟨v1, hv1, hM⟩ := bind_some' hM
  refine tr_sr hT hm [(2, .call [] [] [.sl a0.length 0 (a0.flatMap eX3_int64.b), .agg (eX3_int64.b a1)] [] (iv v1))] [8] [(8, .d (iv v1))] (cc0 ok140 (slices_Index_3_int64_3_int64_c a0 a1 _ hv1) (by kernel_rfl) .nil) (by kernel_rfl) (by kernel_rfl) ?_
  refine tr_ret (rg_r ?_)
  obtain rfl := Option.some.inj hM
  exact retg (names := []) .nil (by kernel_rfl)

theorem ok45 : CallOk Try.prog 45 := callOk_of Try.func45 (by kernel_rfl) (by kernel_rfl)
theorem impl_completion_arrow_c (a0 : Xcompletion_q) (a1 : Int) (a2 : Int) (a3 : Int) (r : Int) (hM : M.impl_completion_arrow a0 a1 a2 a3 = some r) :
    FnC Try.prog 45 [] [.pt (eXcompletion_q.b a0) 0, iv a1, iv a2, iv a3] [] (iv r) := by
  refine fnc_startG (N := 18) (np := 500) hT Try.func45 rfl rfl (by kernel_rfl) ?_
  unfold M.impl_completion_arrow at hM
  refine tr_start (ks := [0, 2, 4, 6]) (st' := [(0, .d (.pt (eXcompletion_q.b a0) 0)), (2, .d (iv a1)), (4, .d (iv a2)), (6, .d (iv a3))]) (by kernel_rfl) ?_
  refine tr_sr hT hm [] [0, 2, 4, 6] [(0, .d (.pt (eXcompletion_q.b a0) 0)), (2, .d (iv a1)), (4, .d (iv a2)), (6, .d (iv a3))] .nil (by kernel_rfl) (by kernel_rfl) ?_
  obtain ⟨v1, hv1, hM⟩ := bind_some' hM
  refine tr_sr hT hm [(8, .call [] [] [.sl a0.arrows_.length 0 (a0.arrows_.flatMap eX3_int64.b), .agg [iv a1, iv a2, iv a3]] [] (iv v1))] [16] [(16, .d (iv v1))] (cc0 ok91 (impl_index_3_int64_c a0.arrows_ (⟨a1, a2, a3⟩ : X3_int64) _ hv1) (by kernel_rfl) .nil) (by kernel_rfl) (by kernel_rfl) ?_
  refine tr_ret (rg_r ?_)
  obtain rfl := Option.some.inj hM
  exact retg (names := []) .nil (by kernel_rfl)

theorem ok44 : CallOk Try.prog 44 := callOk_of Try.func44 (by kernel_rfl) (by kernel_rfl)
theorem impl_completion_object_c (a0 : Xcompletion) (a1 : Int) (r : Int) (hM : M.impl_completion_object a0 a1 = some r) :
    FnC Try.prog 44 [] [.pt (eXcompletion.b a0) 0, iv a1] [] (iv r) := by
  refine fnc_startG (N := 11) (np := 500) hT Try.func44 rfl rfl (by kernel_rfl) ?_
  unfold M.impl_completion_object at hM
  refine tr_start (ks := [0, 2]) (st' := [(0, .d (.pt (eXcompletion.b a0) 0)), (2, .d (iv a1))]) (by kernel_rfl) ?_
  refine tr_sr hT hm [] [0, 2] [(0, .d (.pt (eXcompletion.b a0) 0)), (2, .d (iv a1))] .nil (by kernel_rfl) (by kernel_rfl) ?_
  obtain ⟨v1, hv1, hM⟩ := bind_some' hM
  refine tr_sr hT hm [(5, .call [] [] [.sl a0.objects_.length 0 (a0.objects_.flatMap eI.b), iv a1] [] (iv v1))] [8] [(8, .d (iv v1))] (cc0 ok90 (impl_index_int64_c a0.objects_ a1 _ hv1) (by kernel_rfl) .nil) (by kernel_rfl) (by kernel_rfl) ?_
  refine tr_ret (rg_r ?_)
  obtain rfl := Option.some.inj hM
  exact retg (names := []) .nil (by kernel_rfl)

theorem ok89 : CallOk Try.prog 89 := callOk_of Try.func89 (by kernel_rfl) (by kernel_rfl)
theorem impl_Category_completed_1_c (a0 : Int) (a1 : Int) (a2 : Xcompletion_q) (a3 : XCategory) (r : Int) (hM : M.impl_Category_completed_1 a0 a1 a2 a3 = some r) :
    FnC Try.prog 89 [] [iv a0, iv a1, .pt ((eP eXcompletion_q).b a2) 0, .pt ((eP eXCategory).b a3) 0] [] (iv r) := by
  refine fnc_startG (N := 35) (np := 500) hT Try.func89 rfl rfl (by kernel_rfl) ?_
  unfold M.impl_Category_completed_1 at hM
  refine tr_start (ks := [0, 2, 4, 6]) (st' := [(0, .d (iv a0)), (2, .d (iv a1)), (4, .d (.pt ((eP eXcompletion_q).b a2) 0)), (6, .d (.pt ((eP eXCategory).b a3) 0))]) (by kernel_rfl) ?_
  refine tr_sr hT hm [] [0, 2, 4, 6] [(0, .d (iv a0)), (2, .d (iv a1)), (4, .d (.pt ((eP eXcompletion_q).b a2) 0)), (6, .d (.pt ((eP eXCategory).b a3) 0))] .nil (by kernel_rfl) (by kernel_rfl) ?_
  obtain ⟨y1, hy1, hM⟩ := bind_some' hM
  have hy1' := idx_some hy1
  obtain ⟨y2, hy2, hM⟩ := bind_some' hM
  have hy2' := idx_some hy2
  refine tr_sr hT hm [(6, .val (.agg [iv y1.E0, iv y1.E1, iv y1.E2])), (13, .val (.agg [iv y2.E0, iv y2.E1, iv y2.E2]))] [4, 6, 14, 16, 2015, 2017] [(4, .d (.pt ((eP eXcompletion_q).b a2) 0)), (6, .d (.pt ((eP eXCategory).b a3) 0)), (14, .d (.rp 1007 0)), (16, .d (.rp 1008 0)), bxB 2015 (eX3_int64.b y1), bxB 2017 (eX3_int64.b y2)] (.cons hy1'.1 (.cons hy1'.2.1 (.cons (sub_b eX3_int64_ok hy1'.2.2) (.cons hy2'.1 (.cons hy2'.2.1 (.cons (sub_b eX3_int64_ok hy2'.2.2) (.cons (Nat.le_of_ble_eq_true (n := 3) (m := 3) rfl) (.cons (Nat.le_of_ble_eq_true (n := 3) (m := 3) rfl) .nil)))))))) (by kernel_rfl) (by kernel_rfl) ?_
  obtain ⟨v3, hv3, hM⟩ := bind_some' hM
  obtain ⟨v4, hv4, hM⟩ := bind_some' hM
  refine tr_sr hT hm [(10, .call [] [] [.pt (eXCategory.b a3) 0, iv y1.E2, iv y2.E2] [] (iv v3)), (11, .call [] [] [.pt (eXcompletion_q.b a2) 0, iv y1.E0, iv y2.E1, iv v3] [] (iv v4))] [12] [(12, .d (iv v4))] (cc0 ok87 (impl_Category_then_c a3 y1.E2 y2.E2 _ hv3) (by kernel_rfl) (cc0 ok45 (impl_completion_arrow_c a2 y1.E0 y2.E1 v3 _ hv4) (by kernel_rfl) .nil)) (by kernel_rfl) (by kernel_rfl) ?_
  refine tr_ret (rg_r ?_)
  obtain rfl := Option.some.inj hM
  exact retg (names := []) .nil (by kernel_rfl)

end Go.Proofs.Ytknmijgiefkijaa.WzL
