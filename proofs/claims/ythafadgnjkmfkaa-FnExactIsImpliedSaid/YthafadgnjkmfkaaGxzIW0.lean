/- Walks. Printed by wip/gen. -/
import Derived.Test.YthafadgnjkmfkaaGxzIW
namespace Go.Proofs.Ythafadgnjkmfkaa.WzI
open Go.Gx Go.Proofs.Ythafadgnjkmfkaa.WvB Go.Proofs.Ythafadgnjkmfkaa.WyN Go.Proofs.Ythafadgnjkmfkaa.WzC Go.Proofs.Ythafadgnjkmfkaa.WvI Go.Proofs.Ythafadgnjkmfkaa.WzU Go.Proofs.Ythafadgnjkmfkaa.WvS Go.Proofs.Ythafadgnjkmfkaa.WyO

theorem ok44 : CallOk Try.prog 44 := callOk_of Try.func44 (by kernel_rfl) (by kernel_rfl)
theorem laws_szTermS_c (a0 : List XTerm) (a1 : Int) (r : Int) (hM : M.laws_szTermS a0 a1 = some r) :
    FnC Try.prog 44 [] [.sl a0.length 0 (a0.flatMap eXTerm.b), iv a1] [] (iv r) := by
  refine fnc_startG (N := 12) (np := 500) hT Try.func44 rfl rfl (by kernel_rfl) ?_
  unfold M.laws_szTermS at hM
  refine tr_start (ks := [0, 2]) (st' := [(0, .d (.sl a0.length 0 (a0.flatMap eXTerm.b))), (2, .d (iv a1))]) (by kernel_rfl) ?_
  refine tr_sr hT hm [] [0, 2] [(0, .d (.sl a0.length 0 (a0.flatMap eXTerm.b))), (2, .d (iv a1))] .nil (by kernel_rfl) (by kernel_rfl) ?_
  refine tr_sr hT hm [] [2] [(2, .d (iv (IntKind.i64.wrap (a1 - (a0.length : Int)))))] .nil (by kernel_rfl) (by kernel_rfl) ?_
  refine tr_seq ?_
  refine tr_sr hT hm [] [2, 20] [(2, .d (iv (IntKind.i64.wrap (a1 - (a0.length : Int))))), (20, .d (bv (decide ((IntKind.i64.wrap (a1 - (a0.length : Int))) < 0))))] .nil (by kernel_rfl) (by kernel_rfl) ?_
  rcases Bool.eq_false_or_eq_true (decide ((IntKind.i64.wrap (a1 - (a0.length : Int))) < 0)) with h1 | h1
  · have hM := ite_true' hM h1
    refine tr_condTe (e := decide ((IntKind.i64.wrap (a1 - (a0.length : Int))) < 0)) h1 (by kernel_rfl) ?_
    refine tr_sr hT hm [] [8] [(8, .d (iv (-1)))] .nil (by kernel_rfl) (by kernel_rfl) ?_
    refine tr_ret (q_r (rg_r ?_))
    obtain rfl := Option.some.inj hM
    exact retg (names := []) .nil (by kernel_rfl)
  · have hM := ite_false' hM h1
    refine tr_condFe (e := decide ((IntKind.i64.wrap (a1 - (a0.length : Int))) < 0)) h1 (by kernel_rfl) ?_
    refine tr_skip (q_n ?_)
    refine tr_sr hT hm [] [8] [(8, .d (iv (IntKind.i64.wrap (a1 - (a0.length : Int)))))] .nil (by kernel_rfl) (by kernel_rfl) ?_
    refine tr_ret (rg_r ?_)
    obtain rfl := Option.some.inj hM
    exact retg (names := []) .nil (by kernel_rfl)

theorem ok16 : CallOk Try.prog 16 := callOk_of Try.func16 (by kernel_rfl) (by kernel_rfl)
theorem laws_szQuery_c (a0 : XQuery) (a1 : Int) (r : Int) (hM : M.laws_szQuery a0 a1 = some r) :
    FnC Try.prog 16 [] [.agg (eXQuery.b a0), iv a1] [] (iv r) := by
  refine fnc_startG (N := 30) (np := 500) hT Try.func16 rfl rfl (by kernel_rfl) ?_
  unfold M.laws_szQuery at hM
  refine tr_start (ks := [0, 2]) (st' := [(0, .d (.agg (eXQuery.b a0))), (2, .d (iv a1))]) (by kernel_rfl) ?_
  refine tr_sr hT hm [] [2, 4, 2005] [(2, .d (iv a1)), (4, .d (.rp 1002 0)), bxB 2005 (eXQuery.b a0)] .nil (by kernel_rfl) (by kernel_rfl) ?_
  obtain ⟨v1, hv1, hM⟩ := bind_some' hM
  refine tr_sr hT hm [(3, .call [] [] [.sl a0.Variables.length 0 (a0.Variables.flatMap eI.b), iv a1] [] (iv v1))] [2, 4, 2005] [(2, .d (iv v1)), (4, .d (.rp 1002 0)), bxB 2005 (eXQuery.b a0)] (cc0 ok28 (laws_szInt64S_c a0.Variables a1 _ hv1) (by kernel_rfl) .nil) (by kernel_rfl) (by kernel_rfl) ?_
  refine tr_seq ?_
  refine tr_sr hT hm [] [2, 4, 20, 2005] [(2, .d (iv v1)), (4, .d (.rp 1002 0)), (20, .d (bv (decide (v1 < 0)))), bxB 2005 (eXQuery.b a0)] .nil (by kernel_rfl) (by kernel_rfl) ?_
  rcases Bool.eq_false_or_eq_true (decide (v1 < 0)) with h2 | h2
  · have hM := ite_true' hM h2
    refine tr_condTe (e := decide (v1 < 0)) h2 (by kernel_rfl) ?_
    refine tr_sr hT hm [] [8] [(8, .d (iv (-1)))] .nil (by kernel_rfl) (by kernel_rfl) ?_
    refine tr_ret (q_r (rg_r ?_))
    obtain rfl := Option.some.inj hM
    exact retg (names := []) .nil (by kernel_rfl)
  · have hM := ite_false' hM h2
    refine tr_condFe (e := decide (v1 < 0)) h2 (by kernel_rfl) ?_
    refine tr_skip (q_n ?_)
    obtain ⟨v3, hv3, hM⟩ := bind_some' hM
    refine tr_sr hT hm [(3, .call [] [] [.sl a0.Left.length 0 (a0.Left.flatMap eXTerm.b), iv v1] [] (iv v3))] [2, 4, 2005] [(2, .d (iv v3)), (4, .d (.rp 1002 0)), bxB 2005 (eXQuery.b a0)] (cc0 ok44 (laws_szTermS_c a0.Left v1 _ hv3) (by kernel_rfl) .nil) (by kernel_rfl) (by kernel_rfl) ?_
    refine tr_seq ?_
    refine tr_sr hT hm [] [2, 4, 32, 2005] [(2, .d (iv v3)), (4, .d (.rp 1002 0)), (32, .d (bv (decide (v3 < 0)))), bxB 2005 (eXQuery.b a0)] .nil (by kernel_rfl) (by kernel_rfl) ?_
    rcases Bool.eq_false_or_eq_true (decide (v3 < 0)) with h4 | h4
    · have hM := ite_true' hM h4
      refine tr_condTe (e := decide (v3 < 0)) h4 (by kernel_rfl) ?_
      refine tr_sr hT hm [] [8] [(8, .d (iv (-1)))] .nil (by kernel_rfl) (by kernel_rfl) ?_
      refine tr_ret (q_r (rg_r ?_))
      obtain rfl := Option.some.inj hM
      exact retg (names := []) .nil (by kernel_rfl)
    · have hM := ite_false' hM h4
      refine tr_condFe (e := decide (v3 < 0)) h4 (by kernel_rfl) ?_
      refine tr_skip (q_n ?_)
      obtain ⟨v5, hv5, hM⟩ := bind_some' hM
      refine tr_sr hT hm [(3, .call [] [] [.sl a0.Right.length 0 (a0.Right.flatMap eXTerm.b), iv v3] [] (iv v5))] [2, 4, 2005] [(2, .d (iv v5)), (4, .d (.rp 1002 0)), bxB 2005 (eXQuery.b a0)] (cc0 ok44 (laws_szTermS_c a0.Right v3 _ hv5) (by kernel_rfl) .nil) (by kernel_rfl) (by kernel_rfl) ?_
      refine tr_seq ?_
      refine tr_sr hT hm [] [2, 4, 44, 2005] [(2, .d (iv v5)), (4, .d (.rp 1002 0)), (44, .d (bv (decide (v5 < 0)))), bxB 2005 (eXQuery.b a0)] .nil (by kernel_rfl) (by kernel_rfl) ?_
      rcases Bool.eq_false_or_eq_true (decide (v5 < 0)) with h6 | h6
      · have hM := ite_true' hM h6
        refine tr_condTe (e := decide (v5 < 0)) h6 (by kernel_rfl) ?_
        refine tr_sr hT hm [] [8] [(8, .d (iv (-1)))] .nil (by kernel_rfl) (by kernel_rfl) ?_
        refine tr_ret (q_r (rg_r ?_))
        obtain rfl := Option.some.inj hM
        exact retg (names := []) .nil (by kernel_rfl)
      · have hM := ite_false' hM h6
        refine tr_condFe (e := decide (v5 < 0)) h6 (by kernel_rfl) ?_
        refine tr_skip (q_n ?_)
        obtain ⟨v7, hv7, hM⟩ := bind_some' hM
        refine tr_sr hT hm [(3, .call [] [] [.sl a0.Output.length 0 (a0.Output.flatMap eI.b), iv v5] [] (iv v7))] [2] [(2, .d (iv v7))] (cc0 ok28 (laws_szInt64S_c a0.Output v5 _ hv7) (by kernel_rfl) .nil) (by kernel_rfl) (by kernel_rfl) ?_
        refine tr_seq ?_
        refine tr_sr hT hm [] [2, 56] [(2, .d (iv v7)), (56, .d (bv (decide (v7 < 0))))] .nil (by kernel_rfl) (by kernel_rfl) ?_
        rcases Bool.eq_false_or_eq_true (decide (v7 < 0)) with h8 | h8
        · have hM := ite_true' hM h8
          refine tr_condTe (e := decide (v7 < 0)) h8 (by kernel_rfl) ?_
          refine tr_sr hT hm [] [8] [(8, .d (iv (-1)))] .nil (by kernel_rfl) (by kernel_rfl) ?_
          refine tr_ret (q_r (rg_r ?_))
          obtain rfl := Option.some.inj hM
          exact retg (names := []) .nil (by kernel_rfl)
        · have hM := ite_false' hM h8
          refine tr_condFe (e := decide (v7 < 0)) h8 (by kernel_rfl) ?_
          refine tr_skip (q_n ?_)
          refine tr_sr hT hm [] [8] [(8, .d (iv v7))] .nil (by kernel_rfl) (by kernel_rfl) ?_
          refine tr_ret (rg_r ?_)
          obtain rfl := Option.some.inj hM
          exact retg (names := []) .nil (by kernel_rfl)

theorem ok20 : CallOk Try.prog 20 := callOk_of Try.func20 (by kernel_rfl) (by kernel_rfl)
theorem laws_toTerm_c (a0 : XTerm) (r : XTerm) (hM : M.laws_toTerm a0 = some r) :
    FnC Try.prog 20 [] [.agg (eXTerm.b a0)] [] (.agg (eXTerm.o r)) := by
  refine fnc_startG (N := 11) (np := 500) hT Try.func20 rfl rfl (by kernel_rfl) ?_
  unfold M.laws_toTerm at hM
  refine tr_start (ks := [0]) (st' := [(0, .d (.agg (eXTerm.b a0)))]) (by kernel_rfl) ?_
  refine tr_sr hT hm [] [2, 4, 2003, 2005] [(2, .d (.rp 1001 0)), (4, .d (.rp 1002 0)), bxB 2003 (eXTerm.b a0), (2005, .r (.arr 1 [iv 0, iv 0] []))] .nil (by kernel_rfl) (by kernel_rfl) ?_
  refine tr_sr hT hm [] [2, 4, 6, 2003, 2005, 2007] [(2, .d (.rp 1001 0)), (4, .d (.rp 1002 0)), (6, .d (.rp 1003 0)), bxB 2003 (eXTerm.b a0), (2005, .r (.arr 1 [iv 0, iv 0] [])), (2007, .r (.arr 1 [iv 0, iv 0] []))] .nil (by kernel_rfl) (by kernel_rfl) ?_
  refine tr_sr hT hm [] [2, 4, 6, 2003, 2005, 2007] [(2, .d (.rp 1001 0)), (4, .d (.rp 1002 0)), (6, .d (.rp 1003 0)), bxB 2003 (eXTerm.b a0), (2005, .r (.arr 1 [iv 0, iv 0] [])), (2007, .r (.arr 1 [iv a0.Variable, iv 0] []))] (.cons (Nat.le_of_ble_eq_true (n := 1) (m := 2) rfl) .nil) (by kernel_rfl) (by kernel_rfl) ?_
  refine tr_sr hT hm [] [4, 6, 2005, 2007] [(4, .d (.rp 1002 0)), (6, .d (.rp 1003 0)), (2005, .r (.arr 1 [iv 0, iv 0] [])), bxB 2007 (eXTerm.b a0)] (.cons (Nat.le_of_ble_eq_true (n := 2) (m := 2) rfl) .nil) (by kernel_rfl) (by kernel_rfl) ?_
  refine tr_sr hT hm [] [4, 2005] [(4, .d (.rp 1002 0)), bxB 2005 (eXTerm.b a0)] (.cons (Nat.le_of_ble_eq_true (n := 2) (m := 2) rfl) .nil) (by kernel_rfl) (by kernel_rfl) ?_
  refine tr_ret (rg_r ?_)
  obtain rfl := Option.some.inj hM
  exact retg (names := []) .nil (by kernel_rfl)

theorem ok48 : CallOk Try.prog 48 := callOk_of Try.func48 (by kernel_rfl) (by kernel_rfl)
theorem laws_toTermS_c (a0 : List XTerm) (r : (List XTerm)) (hM : M.laws_toTermS a0 = some r) :
    FnC Try.prog 48 [] [.sl a0.length 0 (a0.flatMap eXTerm.b)] [] (.fr 2 r.length (r.flatMap eXTerm.o)) := by
  refine fnc_startG (N := 23) (np := 500) hT Try.func48 rfl rfl (by kernel_rfl) ?_
  unfold M.laws_toTermS at hM
  refine tr_start (ks := [0]) (st' := [(0, .d (.sl a0.length 0 (a0.flatMap eXTerm.b)))]) (by kernel_rfl) ?_
  refine tr_sr hT hm [] [0] [(0, .d (.sl a0.length 0 (a0.flatMap eXTerm.b)))] .nil (by kernel_rfl) (by kernel_rfl) ?_
  obtain ⟨h1, hM⟩ := chk_some hM
  refine tr_sr hT hm [] [0, 6, 2015] [(0, .d (.sl a0.length 0 (a0.flatMap eXTerm.b))), (6, .d (.rs 1007 0 ((a0.length : Int).toNat))), (2015, .r (.arr 2 (repl (a0.length : Int).toNat [.int .i64 0, .int .i64 0]) []))] (.cons h1.1 (.cons (Int.le_refl (a0.length : Int)) (.cons h1.2 .nil))) (by kernel_rfl) (by kernel_rfl) ?_
  refine Tr.by (imp_cvL (r := 1007) (sz := 2) (refs := []) (subl_repl (f := eXTerm.o) (zs := [.int .i64 0, .int .i64 0]) (z := (⟨0, 0⟩ : XTerm)) (.cons (.refl _) (.cons (.refl _) .nil)) (a0.length : Int).toNat) (repl_hl (by kernel_rfl)) (menO_flat eXTerm_ok _) (by kernel_rfl)) ?_
  refine Tr.by (imp_cvD (k := 6) (congrArg (D.rs 1007 0) (List.length_replicate.symm : (a0.length : Int).toNat = (List.replicate (a0.length : Int).toNat (⟨0, 0⟩ : XTerm)).length)) (by kernel_rfl)) ?_
  refine tr_seq ?_
  refine tr_sr hT hm [] [0, 6, 8, 2015] [(0, .d (.sl a0.length 0 (a0.flatMap eXTerm.b))), (6, .d (.rs 1007 0 ((List.replicate (a0.length : Int).toNat (⟨0, 0⟩ : XTerm)).length))), (8, .d (iv 0)), (2015, .r (.arr 2 ((List.replicate (a0.length : Int).toNat (⟨0, 0⟩ : XTerm)).flatMap eXTerm.o) []))] .nil (by kernel_rfl) (by kernel_rfl) ?_
  refine tr_block ?_
  refine tr_iterS (fun (s2 : (List XTerm) × Int) => [(0, .d (.sl a0.length 0 (a0.flatMap eXTerm.b))), (6, .d (.rs 1007 0 s2.1.length)), (8, .d (iv s2.2)), (2015, .r (.arr 2 (s2.1.flatMap eXTerm.o) []))]) ((List.replicate (a0.length : Int).toNat (⟨0, 0⟩ : XTerm)), 0) [0, 6, 8, 2015] (by kernel_rfl) hM ?_
  intro n5 next3 ih4 s2 hM
  refine tr_seq ?_
  refine tr_sr hT hm [] [0, 6, 8, 22, 2015] [(0, .d (.sl a0.length 0 (a0.flatMap eXTerm.b))), (6, .d (.rs 1007 0 s2.1.length)), (8, .d (iv s2.2)), (22, .d (bv (decide (s2.2 < (a0.length : Int))))), (2015, .r (.arr 2 (s2.1.flatMap eXTerm.o) []))] .nil (by kernel_rfl) (by kernel_rfl) ?_
  rcases Bool.eq_false_or_eq_true (decide (s2.2 < (a0.length : Int))) with h6 | h6
  · have hM := ite_true' hM h6
    refine tr_condTe (e := decide (s2.2 < (a0.length : Int))) h6 (by kernel_rfl) ?_
    refine tr_skip (q_n ?_)
    refine tr_seq ?_
    refine tr_block ?_
    obtain ⟨y7, hy7, hM⟩ := bind_some' hM
    have hy7' := idx_some hy7
    obtain ⟨v8, hv8, hM⟩ := bind_some' hM
    obtain ⟨y9, hy9, hM⟩ := bind_some' hM
    have hy9' := idx_some hy9
    refine tr_r hT hm [(5, .val (.agg [iv y7.Variable, iv y7.Arrow])), (6, .call [] [] [.agg (eXTerm.b y7)] [] (.agg (eXTerm.o v8)))] [0, 6, 8, 2015] [(0, .d (.sl a0.length 0 (a0.flatMap eXTerm.b))), (6, .d (.rs 1007 0 s2.1.length)), (8, .d (iv s2.2)), (2015, .r (.arr 2 ((s2.1.flatMap eXTerm.o).take (0 + s2.2.toNat * 2) ++ [iv v8.Variable, iv v8.Arrow] ++ (s2.1.flatMap eXTerm.o).drop (0 + s2.2.toNat * 2 + 2)) []))] (.cons hy7'.1 (.cons hy7'.2.1 (.cons (sub_b eXTerm_ok hy7'.2.2) (cc0 ok20 (laws_toTerm_c y7 _ hv8) (by kernel_rfl) (.cons hy9'.1 (.cons hy9'.2.1 (.cons (store_le eXTerm_ok hy9'.2.2) .nil))))))) (by kernel_rfl) (by kernel_rfl) (b_n (q_n ?_))
    refine Tr.by (imp_cvE (r := 1007) (sz := 2) (refs := []) (set_flat eXTerm_ok.lenO (y := v8) hy9'.2.2) (menO_flat eXTerm_ok _) (by kernel_rfl)) ?_
    refine Tr.by (imp_cvD (k := 6) (congrArg (D.rs 1007 0) (List.length_set.symm : s2.1.length = (s2.1.set s2.2.toNat v8).length)) (by kernel_rfl)) ?_
    refine tr_r hT hm [] [0, 6, 8, 2015] [(0, .d (.sl a0.length 0 (a0.flatMap eXTerm.b))), (6, .d (.rs 1007 0 ((s2.1.set s2.2.toNat v8).length))), (8, .d (iv (IntKind.i64.wrap (s2.2 + 1)))), (2015, .r (.arr 2 ((s2.1.set s2.2.toNat v8).flatMap eXTerm.o) []))] .nil (by kernel_rfl) (by kernel_rfl) (l_n ?_)
    exact trl_start (ks := [0, 6, 8, 2015]) (by kernel_rfl) (ih4 (s2.1.set s2.2.toNat v8, IntKind.i64.wrap (s2.2 + 1)) hM)
  · have hM := ite_false' hM h6
    refine tr_condFe (e := decide (s2.2 < (a0.length : Int))) h6 (by kernel_rfl) ?_
    refine tr_exit (q_x (l_x (b_h (q_n ?_))))
    refine tr_sr hT hm [] [4, 2015] [(4, .d (.rs 1007 0 s2.1.length)), (2015, .r (.arr 2 (s2.1.flatMap eXTerm.o) []))] .nil (by kernel_rfl) (by kernel_rfl) ?_
    refine tr_ret (rg_r ?_)
    obtain rfl := Option.some.inj hM
    exact retg (names := []) (.cons (lenO_flat eXTerm_ok s2.1) .nil) (by kernel_rfl)

theorem ok19 : CallOk Try.prog 19 := callOk_of Try.func19 (by kernel_rfl) (by kernel_rfl)
theorem laws_toQuery_c (a0 : XQuery) (r : XQuery) (hM : M.laws_toQuery a0 = some r) :
    FnC Try.prog 19 [] [.agg (eXQuery.b a0)] [] (.agg (eXQuery.o r)) := by
  refine fnc_startG (N := 21) (np := 500) hT Try.func19 rfl rfl (by kernel_rfl) ?_
  unfold M.laws_toQuery at hM
  refine tr_start (ks := [0]) (st' := [(0, .d (.agg (eXQuery.b a0)))]) (by kernel_rfl) ?_
  refine tr_sr hT hm [] [2, 4, 2003, 2005] [(2, .d (.rp 1001 0)), (4, .d (.rp 1002 0)), bxB 2003 (eXQuery.b a0), (2005, .r (.arr 1 [nilv, nilv, nilv, nilv] []))] .nil (by kernel_rfl) (by kernel_rfl) ?_
  refine tr_sr hT hm [] [2, 4, 6, 2003, 2005, 2007] [(2, .d (.rp 1001 0)), (4, .d (.rp 1002 0)), (6, .d (.rp 1003 0)), bxB 2003 (eXQuery.b a0), (2005, .r (.arr 1 [nilv, nilv, nilv, nilv] [])), (2007, .r (.arr 1 [nilv, nilv, nilv, nilv] []))] .nil (by kernel_rfl) (by kernel_rfl) ?_
  obtain ⟨v1, hv1, hM⟩ := bind_some' hM
  refine tr_sr hT hm [(2, .call [] [] [.sl a0.Variables.length 0 (a0.Variables.flatMap eI.b)] [] (.fr 1 v1.length (v1.flatMap eI.o)))] [2, 4, 6, 2003, 2005, 2007, 16001] [(2, .d (.rp 1001 0)), (4, .d (.rp 1002 0)), (6, .d (.rp 1003 0)), bxB 2003 (eXQuery.b a0), (2005, .r (.arr 1 [nilv, nilv, nilv, nilv] [])), (2007, .r (.arr 1 [.rs 8000 0 v1.length, nilv, nilv, nilv] [8000])), (16001, .r (.arr 1 (v1.flatMap eI.o) []))] (cc0 ok33 (laws_toInt64S_c a0.Variables _ hv1) (by kernel_rfl) (.cons (Nat.le_of_ble_eq_true (n := 1) (m := 4) rfl) .nil)) (by kernel_rfl) (by kernel_rfl) ?_
  obtain ⟨v2, hv2, hM⟩ := bind_some' hM
  refine tr_sr hT hm [(2, .call [] [] [.sl a0.Left.length 0 (a0.Left.flatMap eXTerm.b)] [] (.fr 2 v2.length (v2.flatMap eXTerm.o)))] [2, 4, 6, 2003, 2005, 2007, 16001, 24001] [(2, .d (.rp 1001 0)), (4, .d (.rp 1002 0)), (6, .d (.rp 1003 0)), bxB 2003 (eXQuery.b a0), (2005, .r (.arr 1 [nilv, nilv, nilv, nilv] [])), (2007, .r (.arr 1 [.rs 8000 0 v1.length, .rs 12000 0 v2.length, nilv, nilv] [8000, 12000])), (16001, .r (.arr 1 (v1.flatMap eI.o) [])), (24001, .r (.arr 2 (v2.flatMap eXTerm.o) []))] (cc0 ok48 (laws_toTermS_c a0.Left _ hv2) (by kernel_rfl) (.cons (Nat.le_of_ble_eq_true (n := 2) (m := 4) rfl) .nil)) (by kernel_rfl) (by kernel_rfl) ?_
  obtain ⟨v3, hv3, hM⟩ := bind_some' hM
  refine tr_sr hT hm [(2, .call [] [] [.sl a0.Right.length 0 (a0.Right.flatMap eXTerm.b)] [] (.fr 2 v3.length (v3.flatMap eXTerm.o)))] [2, 4, 6, 2003, 2005, 2007, 16001, 24001, 32001] [(2, .d (.rp 1001 0)), (4, .d (.rp 1002 0)), (6, .d (.rp 1003 0)), bxB 2003 (eXQuery.b a0), (2005, .r (.arr 1 [nilv, nilv, nilv, nilv] [])), (2007, .r (.arr 1 [.rs 8000 0 v1.length, .rs 12000 0 v2.length, .rs 16000 0 v3.length, nilv] [8000, 12000, 16000])), (16001, .r (.arr 1 (v1.flatMap eI.o) [])), (24001, .r (.arr 2 (v2.flatMap eXTerm.o) [])), (32001, .r (.arr 2 (v3.flatMap eXTerm.o) []))] (cc0 ok48 (laws_toTermS_c a0.Right _ hv3) (by kernel_rfl) (.cons (Nat.le_of_ble_eq_true (n := 3) (m := 4) rfl) .nil)) (by kernel_rfl) (by kernel_rfl) ?_
  obtain ⟨v4, hv4, hM⟩ := bind_some' hM
  refine tr_sr hT hm [(2, .call [] [] [.sl a0.Output.length 0 (a0.Output.flatMap eI.b)] [] (.fr 1 v4.length (v4.flatMap eI.o)))] [4, 6, 2005, 2007, 16001, 24001, 32001, 40001] [(4, .d (.rp 1002 0)), (6, .d (.rp 1003 0)), (2005, .r (.arr 1 [nilv, nilv, nilv, nilv] [])), (2007, .r (.arr 1 [.rs 8000 0 v1.length, .rs 12000 0 v2.length, .rs 16000 0 v3.length, .rs 20000 0 v4.length] [8000, 12000, 16000, 20000])), (16001, .r (.arr 1 (v1.flatMap eI.o) [])), (24001, .r (.arr 2 (v2.flatMap eXTerm.o) [])), (32001, .r (.arr 2 (v3.flatMap eXTerm.o) [])), (40001, .r (.arr 1 (v4.flatMap eI.o) []))] (cc0 ok33 (laws_toInt64S_c a0.Output _ hv4) (by kernel_rfl) (.cons (Nat.le_of_ble_eq_true (n := 4) (m := 4) rfl) .nil)) (by kernel_rfl) (by kernel_rfl) ?_
  refine tr_sr hT hm [] [4, 2005, 16001, 24001, 32001, 40001] [(4, .d (.rp 1002 0)), (2005, .r (.arr 1 [.rs 8000 0 v1.length, .rs 12000 0 v2.length, .rs 16000 0 v3.length, .rs 20000 0 v4.length] [8000, 12000, 16000, 20000])), (16001, .r (.arr 1 (v1.flatMap eI.o) [])), (24001, .r (.arr 2 (v2.flatMap eXTerm.o) [])), (32001, .r (.arr 2 (v3.flatMap eXTerm.o) [])), (40001, .r (.arr 1 (v4.flatMap eI.o) []))] (.cons (Nat.le_of_ble_eq_true (n := 4) (m := 4) rfl) .nil) (by kernel_rfl) (by kernel_rfl) ?_
  refine tr_ret (rg_r ?_)
  obtain rfl := Option.some.inj hM
  exact retg (names := []) (.cons (lenO_flat eI_ok v1) (.cons (lenO_flat eXTerm_ok v2) (.cons (lenO_flat eXTerm_ok v3) (.cons (lenO_flat eI_ok v4) .nil)))) (by kernel_rfl)

theorem ok94 : CallOk Try.prog 94 := callOk_of Try.func94 (by kernel_rfl) (by kernel_rfl)
theorem laws_eqTerm_c (a0 : XTerm) (a1 : XTerm) (r : Bool) (hM : M.laws_eqTerm a0 a1 = some r) :
    FnC Try.prog 94 [] [.agg (eXTerm.b a0), .agg (eXTerm.b a1)] [] (bv r) := by
  refine fnc_startG (N := 15) (np := 500) hT Try.func94 rfl rfl (by kernel_rfl) ?_
  unfold M.laws_eqTerm at hM
  refine tr_start (ks := [0, 2]) (st' := [(0, .d (.agg (eXTerm.b a0))), (2, .d (.agg (eXTerm.b a1)))]) (by kernel_rfl) ?_
  refine tr_sr hT hm [] [4, 6, 2005, 2007] [(4, .d (.rp 1002 0)), (6, .d (.rp 1003 0)), bxB 2005 (eXTerm.b a0), bxB 2007 (eXTerm.b a1)] .nil (by kernel_rfl) (by kernel_rfl) ?_
  refine tr_seq ?_
  refine tr_sr hT hm [] [4, 6, 18, 2005, 2007] [(4, .d (.rp 1002 0)), (6, .d (.rp 1003 0)), (18, .d (bv (a0.Variable != a1.Variable))), bxB 2005 (eXTerm.b a0), bxB 2007 (eXTerm.b a1)] .nil (by kernel_rfl) (by kernel_rfl) ?_
  rcases Bool.eq_false_or_eq_true (a0.Variable != a1.Variable) with h1 | h1
  · have hM := ite_true' hM h1
    refine tr_condTe (e := a0.Variable != a1.Variable) h1 (by kernel_rfl) ?_
    refine tr_sr hT hm [] [8] [(8, .d (bv false))] .nil (by kernel_rfl) (by kernel_rfl) ?_
    refine tr_ret (q_r (rg_r ?_))
    obtain rfl := Option.some.inj hM
    exact retg (names := []) .nil (by kernel_rfl)
  · have hM := ite_false' hM h1
    refine tr_condFe (e := a0.Variable != a1.Variable) h1 (by kernel_rfl) ?_
    refine tr_skip (q_n ?_)
    refine tr_seq ?_
    refine tr_sr hT hm [] [28] [(28, .d (bv (a0.Arrow != a1.Arrow)))] .nil (by kernel_rfl) (by kernel_rfl) ?_
    rcases Bool.eq_false_or_eq_true (a0.Arrow != a1.Arrow) with h2 | h2
    · have hM := ite_true' hM h2
      refine tr_condTe (e := a0.Arrow != a1.Arrow) h2 (by kernel_rfl) ?_
      refine tr_sr hT hm [] [8] [(8, .d (bv false))] .nil (by kernel_rfl) (by kernel_rfl) ?_
      refine tr_ret (q_r (rg_r ?_))
      obtain rfl := Option.some.inj hM
      exact retg (names := []) .nil (by kernel_rfl)
    · have hM := ite_false' hM h2
      refine tr_condFe (e := a0.Arrow != a1.Arrow) h2 (by kernel_rfl) ?_
      refine tr_skip (q_n ?_)
      refine tr_sr hT hm [] [8] [(8, .d (bv true))] .nil (by kernel_rfl) (by kernel_rfl) ?_
      refine tr_ret (rg_r ?_)
      obtain rfl := Option.some.inj hM
      exact retg (names := []) .nil (by kernel_rfl)

theorem ok53 : CallOk Try.prog 53 := callOk_of Try.func53 (by kernel_rfl) (by kernel_rfl)
theorem laws_eqTermS_c (a0 : List XTerm) (a1 : List XTerm) (r : Bool) (hM : M.laws_eqTermS a0 a1 = some r) :
    FnC Try.prog 53 [] [.sl a0.length 0 (a0.flatMap eXTerm.b), .sl a1.length 0 (a1.flatMap eXTerm.b)] [] (bv r) := by
  refine fnc_startG (N := 27) (np := 500) hT Try.func53 rfl rfl (by kernel_rfl) ?_
  unfold M.laws_eqTermS at hM
  refine tr_start (ks := [0, 2]) (st' := [(0, .d (.sl a0.length 0 (a0.flatMap eXTerm.b))), (2, .d (.sl a1.length 0 (a1.flatMap eXTerm.b)))]) (by kernel_rfl) ?_
  refine tr_sr hT hm [] [0, 2] [(0, .d (.sl a0.length 0 (a0.flatMap eXTerm.b))), (2, .d (.sl a1.length 0 (a1.flatMap eXTerm.b)))] .nil (by kernel_rfl) (by kernel_rfl) ?_
  refine tr_seq ?_
  refine tr_sr hT hm [] [0, 2, 20] [(0, .d (.sl a0.length 0 (a0.flatMap eXTerm.b))), (2, .d (.sl a1.length 0 (a1.flatMap eXTerm.b))), (20, .d (bv ((a0.length : Int) != (a1.length : Int))))] .nil (by kernel_rfl) (by kernel_rfl) ?_
  rcases Bool.eq_false_or_eq_true ((a0.length : Int) != (a1.length : Int)) with h1 | h1
  · have hM := ite_true' hM h1
    refine tr_condTe (e := (a0.length : Int) != (a1.length : Int)) h1 (by kernel_rfl) ?_
    refine tr_sr hT hm [] [8] [(8, .d (bv false))] .nil (by kernel_rfl) (by kernel_rfl) ?_
    refine tr_ret (q_r (rg_r ?_))
    obtain rfl := Option.some.inj hM
    exact retg (names := []) .nil (by kernel_rfl)
  · have hM := ite_false' hM h1
    refine tr_condFe (e := (a0.length : Int) != (a1.length : Int)) h1 (by kernel_rfl) ?_
    refine tr_skip (q_n ?_)
    refine tr_seq ?_
    refine tr_sr hT hm [] [0, 2, 10] [(0, .d (.sl a0.length 0 (a0.flatMap eXTerm.b))), (2, .d (.sl a1.length 0 (a1.flatMap eXTerm.b))), (10, .d (iv 0))] .nil (by kernel_rfl) (by kernel_rfl) ?_
    refine tr_block ?_
    refine tr_iterS (fun (s2 : Int) => [(0, .d (.sl a0.length 0 (a0.flatMap eXTerm.b))), (2, .d (.sl a1.length 0 (a1.flatMap eXTerm.b))), (10, .d (iv s2))]) 0 [0, 2, 10] (by kernel_rfl) hM ?_
    intro n5 next3 ih4 s2 hM
    refine tr_seq ?_
    refine tr_sr hT hm [] [0, 2, 10, 28] [(0, .d (.sl a0.length 0 (a0.flatMap eXTerm.b))), (2, .d (.sl a1.length 0 (a1.flatMap eXTerm.b))), (10, .d (iv s2)), (28, .d (bv (decide (s2 < (a0.length : Int)))))] .nil (by kernel_rfl) (by kernel_rfl) ?_
    rcases Bool.eq_false_or_eq_true (decide (s2 < (a0.length : Int))) with h6 | h6
    · have hM := ite_true' hM h6
      refine tr_condTe (e := decide (s2 < (a0.length : Int))) h6 (by kernel_rfl) ?_
      refine tr_skip (q_n ?_)
      refine tr_seq ?_
      refine tr_block ?_
      obtain ⟨y7, hy7, hM⟩ := bind_some' hM
      have hy7' := idx_some hy7
      obtain ⟨y8, hy8, hM⟩ := bind_some' hM
      have hy8' := idx_some hy8
      obtain ⟨v9, hv9, hM⟩ := bind_some' hM
      refine tr_sr hT hm [(3, .val (.agg [iv y7.Variable, iv y7.Arrow])), (7, .val (.agg [iv y8.Variable, iv y8.Arrow])), (8, .call [] [] [.agg (eXTerm.b y7), .agg (eXTerm.b y8)] [] (bv v9))] [0, 2, 10, 52] [(0, .d (.sl a0.length 0 (a0.flatMap eXTerm.b))), (2, .d (.sl a1.length 0 (a1.flatMap eXTerm.b))), (10, .d (iv s2)), (52, .d (bv (!v9)))] (.cons hy7'.1 (.cons hy7'.2.1 (.cons (sub_b eXTerm_ok hy7'.2.2) (.cons hy8'.1 (.cons hy8'.2.1 (.cons (sub_b eXTerm_ok hy8'.2.2) (cc0 ok94 (laws_eqTerm_c y7 y8 _ hv9) (by kernel_rfl) .nil))))))) (by kernel_rfl) (by kernel_rfl) ?_
      rcases Bool.eq_false_or_eq_true v9 with h10 | h10
      · have hM := ite_true' hM h10
        refine tr_condFe (e := !v9) (congrArg not h10) (by kernel_rfl) ?_
        refine tr_skip (b_n (q_n ?_))
        refine tr_r hT hm [] [0, 2, 10] [(0, .d (.sl a0.length 0 (a0.flatMap eXTerm.b))), (2, .d (.sl a1.length 0 (a1.flatMap eXTerm.b))), (10, .d (iv (IntKind.i64.wrap (s2 + 1))))] .nil (by kernel_rfl) (by kernel_rfl) (l_n ?_)
        exact trl_start (ks := [0, 2, 10]) (by kernel_rfl) (ih4 (IntKind.i64.wrap (s2 + 1)) hM)
      · have hM := ite_false' hM h10
        refine tr_condTe (e := !v9) (congrArg not h10) (by kernel_rfl) ?_
        refine tr_sr hT hm [] [8] [(8, .d (bv false))] .nil (by kernel_rfl) (by kernel_rfl) ?_
        refine tr_ret (b_r (q_r (l_r (b_r (q_r (rg_r ?_))))))
        obtain rfl := Option.some.inj hM
        exact retg (names := []) .nil (by kernel_rfl)
    · have hM := ite_false' hM h6
      refine tr_condFe (e := decide (s2 < (a0.length : Int))) h6 (by kernel_rfl) ?_
      refine tr_exit (q_x (l_x (b_h (q_n ?_))))
      refine tr_sr hT hm [] [8] [(8, .d (bv true))] .nil (by kernel_rfl) (by kernel_rfl) ?_
      refine tr_ret (rg_r ?_)
      obtain rfl := Option.some.inj hM
      exact retg (names := []) .nil (by kernel_rfl)

theorem ok23 : CallOk Try.prog 23 := callOk_of Try.func23 (by kernel_rfl) (by kernel_rfl)
theorem laws_eqQuery_c (a0 : XQuery) (a1 : XQuery) (r : Bool) (hM : M.laws_eqQuery a0 a1 = some r) :
    FnC Try.prog 23 [] [.agg (eXQuery.b a0), .agg (eXQuery.b a1)] [] (bv r) := by
  refine fnc_startG (N := 29) (np := 500) hT Try.func23 rfl rfl (by kernel_rfl) ?_
  unfold M.laws_eqQuery at hM
  refine tr_start (ks := [0, 2]) (st' := [(0, .d (.agg (eXQuery.b a0))), (2, .d (.agg (eXQuery.b a1)))]) (by kernel_rfl) ?_
  refine tr_sr hT hm [] [4, 6, 2005, 2007] [(4, .d (.rp 1002 0)), (6, .d (.rp 1003 0)), bxB 2005 (eXQuery.b a0), bxB 2007 (eXQuery.b a1)] .nil (by kernel_rfl) (by kernel_rfl) ?_
  refine tr_seq ?_
  obtain ⟨v1, hv1, hM⟩ := bind_some' hM
  refine tr_sr hT hm [(4, .call [] [] [.sl a0.Variables.length 0 (a0.Variables.flatMap eI.b), .sl a1.Variables.length 0 (a1.Variables.flatMap eI.b)] [] (bv v1))] [4, 6, 20, 2005, 2007] [(4, .d (.rp 1002 0)), (6, .d (.rp 1003 0)), (20, .d (bv (!v1))), bxB 2005 (eXQuery.b a0), bxB 2007 (eXQuery.b a1)] (cc0 ok39 (laws_eqInt64S_c a0.Variables a1.Variables _ hv1) (by kernel_rfl) .nil) (by kernel_rfl) (by kernel_rfl) ?_
  rcases Bool.eq_false_or_eq_true v1 with h2 | h2
  · have hM := ite_true' hM h2
    refine tr_condFe (e := !v1) (congrArg not h2) (by kernel_rfl) ?_
    refine tr_skip (q_n ?_)
    refine tr_seq ?_
    obtain ⟨v3, hv3, hM⟩ := bind_some' hM
    refine tr_sr hT hm [(4, .call [] [] [.sl a0.Left.length 0 (a0.Left.flatMap eXTerm.b), .sl a1.Left.length 0 (a1.Left.flatMap eXTerm.b)] [] (bv v3))] [4, 6, 32, 2005, 2007] [(4, .d (.rp 1002 0)), (6, .d (.rp 1003 0)), (32, .d (bv (!v3))), bxB 2005 (eXQuery.b a0), bxB 2007 (eXQuery.b a1)] (cc0 ok53 (laws_eqTermS_c a0.Left a1.Left _ hv3) (by kernel_rfl) .nil) (by kernel_rfl) (by kernel_rfl) ?_
    rcases Bool.eq_false_or_eq_true v3 with h4 | h4
    · have hM := ite_true' hM h4
      refine tr_condFe (e := !v3) (congrArg not h4) (by kernel_rfl) ?_
      refine tr_skip (q_n ?_)
      refine tr_seq ?_
      obtain ⟨v5, hv5, hM⟩ := bind_some' hM
      refine tr_sr hT hm [(4, .call [] [] [.sl a0.Right.length 0 (a0.Right.flatMap eXTerm.b), .sl a1.Right.length 0 (a1.Right.flatMap eXTerm.b)] [] (bv v5))] [4, 6, 44, 2005, 2007] [(4, .d (.rp 1002 0)), (6, .d (.rp 1003 0)), (44, .d (bv (!v5))), bxB 2005 (eXQuery.b a0), bxB 2007 (eXQuery.b a1)] (cc0 ok53 (laws_eqTermS_c a0.Right a1.Right _ hv5) (by kernel_rfl) .nil) (by kernel_rfl) (by kernel_rfl) ?_
      rcases Bool.eq_false_or_eq_true v5 with h6 | h6
      · have hM := ite_true' hM h6
        refine tr_condFe (e := !v5) (congrArg not h6) (by kernel_rfl) ?_
        refine tr_skip (q_n ?_)
        refine tr_seq ?_
        obtain ⟨v7, hv7, hM⟩ := bind_some' hM
        refine tr_sr hT hm [(4, .call [] [] [.sl a0.Output.length 0 (a0.Output.flatMap eI.b), .sl a1.Output.length 0 (a1.Output.flatMap eI.b)] [] (bv v7))] [56] [(56, .d (bv (!v7)))] (cc0 ok39 (laws_eqInt64S_c a0.Output a1.Output _ hv7) (by kernel_rfl) .nil) (by kernel_rfl) (by kernel_rfl) ?_
        rcases Bool.eq_false_or_eq_true v7 with h8 | h8
        · have hM := ite_true' hM h8
          refine tr_condFe (e := !v7) (congrArg not h8) (by kernel_rfl) ?_
          refine tr_skip (q_n ?_)
          refine tr_sr hT hm [] [8] [(8, .d (bv true))] .nil (by kernel_rfl) (by kernel_rfl) ?_
          refine tr_ret (rg_r ?_)
          obtain rfl := Option.some.inj hM
          exact retg (names := []) .nil (by kernel_rfl)
        · have hM := ite_false' hM h8
          refine tr_condTe (e := !v7) (congrArg not h8) (by kernel_rfl) ?_
          refine tr_sr hT hm [] [8] [(8, .d (bv false))] .nil (by kernel_rfl) (by kernel_rfl) ?_
          refine tr_ret (q_r (rg_r ?_))
          obtain rfl := Option.some.inj hM
          exact retg (names := []) .nil (by kernel_rfl)
      · have hM := ite_false' hM h6
        refine tr_condTe (e := !v5) (congrArg not h6) (by kernel_rfl) ?_
        refine tr_sr hT hm [] [8] [(8, .d (bv false))] .nil (by kernel_rfl) (by kernel_rfl) ?_
        refine tr_ret (q_r (rg_r ?_))
        obtain rfl := Option.some.inj hM
        exact retg (names := []) .nil (by kernel_rfl)
    · have hM := ite_false' hM h4
      refine tr_condTe (e := !v3) (congrArg not h4) (by kernel_rfl) ?_
      refine tr_sr hT hm [] [8] [(8, .d (bv false))] .nil (by kernel_rfl) (by kernel_rfl) ?_
      refine tr_ret (q_r (rg_r ?_))
      obtain rfl := Option.some.inj hM
      exact retg (names := []) .nil (by kernel_rfl)
  · have hM := ite_false' hM h2
    refine tr_condTe (e := !v1) (congrArg not h2) (by kernel_rfl) ?_
    refine tr_sr hT hm [] [8] [(8, .d (bv false))] .nil (by kernel_rfl) (by kernel_rfl) ?_
    refine tr_ret (q_r (rg_r ?_))
    obtain rfl := Option.some.inj hM
    exact retg (names := []) .nil (by kernel_rfl)

theorem ok46 : CallOk Try.prog 46 := callOk_of Try.func46 (by kernel_rfl) (by kernel_rfl)
theorem spec_l38Term_c (a0 : XCategory) (a1 : List Int) (a2 : XTerm) (r : Bool) (hM : M.spec_l38Term a0 a1 a2 = some r) :
    FnC Try.prog 46 [] [.agg (eXCategory.b a0), .sl a1.length 0 (a1.flatMap eI.b), .agg (eXTerm.b a2)] [] (bv r) := by
  refine fnc_startG (N := 33) (np := 500) hT Try.func46 rfl rfl (by kernel_rfl) ?_
  unfold M.spec_l38Term at hM
  refine tr_start (ks := [0, 2, 4]) (st' := [(0, .d (.agg (eXCategory.b a0))), (2, .d (.sl a1.length 0 (a1.flatMap eI.b))), (4, .d (.agg (eXTerm.b a2)))]) (by kernel_rfl) ?_
  refine tr_sr hT hm [] [2, 6, 10, 2007, 2011] [(2, .d (.sl a1.length 0 (a1.flatMap eI.b))), (6, .d (.rp 1003 0)), (10, .d (.rp 1005 0)), bxB 2007 (eXCategory.b a0), bxB 2011 (eXTerm.b a2)] .nil (by kernel_rfl) (by kernel_rfl) ?_
  obtain ⟨v1, hv1, hM⟩ := bind_some' hM
  rcases Bool.eq_false_or_eq_true v1 with h2 | h2
  · have hM := ite_true' hM h2
    obtain ⟨v3, hv3, hM⟩ := bind_some' hM
    rcases Bool.eq_false_or_eq_true v3 with h4 | h4
    · have hM := ite_true' hM h4
      obtain ⟨y5, hy5, hM⟩ := bind_some' hM
      have hy5' := idx_some hy5
      obtain ⟨y6, hy6, hM⟩ := bind_some' hM
      have hy6' := idx_some hy6
      refine tr_sr hT hm [(5, .call [] [] [iv a2.Variable, iv 0, iv (IntKind.i64.wrap ((a1.length : Int) - 1))] [] (bv v1)), (6, .val (bv true)), (10, .call [] [] [.agg (eXCategory.b a0), iv a2.Arrow] [] (bv v3)), (12, .val (bv true)), (18, .val (iv y5)), (23, .val (iv y6))] [12] [(12, .d (bv (y5 == y6)))] (cc0 ok81 (spec_l01In_c a2.Variable 0 (IntKind.i64.wrap ((a1.length : Int) - 1)) _ hv1) (by kernel_rfl) (.cons (congrArg (fun b => bv b) h2) (cc0 ok82 (spec_l02Arrow_c a0 a2.Arrow _ hv3) (by kernel_rfl) (.cons (congrArg (fun b => bv b) h4) (.cons hy5'.1 (.cons hy5'.2.1 (.cons (at_b0 eI_ok hy5'.2.2 (d := iv y5) (by kernel_rfl)) (.cons hy6'.1 (.cons hy6'.2.1 (.cons (at_b0 eI_ok hy6'.2.2 (d := iv y6) (by kernel_rfl)) .nil)))))))))) (by kernel_rfl) (by kernel_rfl) ?_
      refine tr_ret (rg_r ?_)
      obtain rfl := Option.some.inj hM
      exact retg (names := []) .nil (by kernel_rfl)
    · have hM := ite_false' hM h4
      refine tr_sr hT hm [(5, .call [] [] [iv a2.Variable, iv 0, iv (IntKind.i64.wrap ((a1.length : Int) - 1))] [] (bv v1)), (6, .val (bv true)), (10, .call [] [] [.agg (eXCategory.b a0), iv a2.Arrow] [] (bv v3)), (12, .val (bv false))] [12] [(12, .d (bv false))] (cc0 ok81 (spec_l01In_c a2.Variable 0 (IntKind.i64.wrap ((a1.length : Int) - 1)) _ hv1) (by kernel_rfl) (.cons (congrArg (fun b => bv b) h2) (cc0 ok82 (spec_l02Arrow_c a0 a2.Arrow _ hv3) (by kernel_rfl) (.cons (congrArg (fun b => bv b) h4) .nil)))) (by kernel_rfl) (by kernel_rfl) ?_
      refine tr_ret (rg_r ?_)
      obtain rfl := Option.some.inj hM
      exact retg (names := []) .nil (by kernel_rfl)
  · have hM := ite_false' hM h2
    refine tr_sr hT hm [(5, .call [] [] [iv a2.Variable, iv 0, iv (IntKind.i64.wrap ((a1.length : Int) - 1))] [] (bv v1)), (6, .val (bv false))] [12] [(12, .d (bv false))] (cc0 ok81 (spec_l01In_c a2.Variable 0 (IntKind.i64.wrap ((a1.length : Int) - 1)) _ hv1) (by kernel_rfl) (.cons (congrArg (fun b => bv b) h2) .nil)) (by kernel_rfl) (by kernel_rfl) ?_
    refine tr_ret (rg_r ?_)
    obtain rfl := Option.some.inj hM
    exact retg (names := []) .nil (by kernel_rfl)

theorem ok45 : CallOk Try.prog 45 := callOk_of Try.func45 (by kernel_rfl) (by kernel_rfl)
theorem spec_IsQuery_c (a0 : XCategory) (a1 : XQuery) (r : Bool) (hM : M.spec_IsQuery a0 a1 = some r) :
    FnC Try.prog 45 [] [.agg (eXCategory.b a0), .agg (eXQuery.b a1)] [] (bv r) := by
  refine fnc_startG (N := 105) (np := 500) hT Try.func45 rfl rfl (by kernel_rfl) ?_
  unfold M.spec_IsQuery at hM
  refine tr_start (ks := [0, 2]) (st' := [(0, .d (.agg (eXCategory.b a0))), (2, .d (.agg (eXQuery.b a1)))]) (by kernel_rfl) ?_
  refine tr_sr hT hm [] [4, 6, 2005, 2007] [(4, .d (.rp 1002 0)), (6, .d (.rp 1003 0)), bxB 2005 (eXCategory.b a0), bxB 2007 (eXQuery.b a1)] .nil (by kernel_rfl) (by kernel_rfl) ?_
  refine tr_seq ?_
  obtain ⟨v1, hv1, hM⟩ := bind_some' hM
  rcases Bool.eq_false_or_eq_true v1 with h2 | h2
  · have hM := ite_true' hM h2
    rcases Bool.eq_false_or_eq_true (decide ((a1.Variables.length : Int) > 4)) with h3 | h3
    · have hM := ite_true' hM h3
      refine tr_sr hT hm [(1, .call [] [] [.agg (eXCategory.b a0)] [] (bv v1)), (3, .val (bv false)), (9, .val (bv true))] [4, 6, 104, 2005, 2007] [(4, .d (.rp 1002 0)), (6, .d (.rp 1003 0)), (104, .d (bv true)), bxB 2005 (eXCategory.b a0), bxB 2007 (eXQuery.b a1)] (cc0 ok79 (spec_l02Is_c a0 _ hv1) (by kernel_rfl) (.cons (congrArg (fun b => bv b) (congrArg not h2)) (.cons (congrArg (fun b => bv b) h3) .nil))) (by kernel_rfl) (by kernel_rfl) ?_
      refine tr_condT (by kernel_rfl) ?_
      refine tr_sr hT hm [] [8] [(8, .d (bv false))] .nil (by kernel_rfl) (by kernel_rfl) ?_
      refine tr_ret (q_r (rg_r ?_))
      obtain rfl := Option.some.inj hM
      exact retg (names := []) .nil (by kernel_rfl)
    · have hM := ite_false' hM h3
      obtain ⟨v4, hv4, hM⟩ := bind_some' hM
      rcases Bool.eq_false_or_eq_true v4 with h5 | h5
      · have hM := ite_true' hM h5
        rcases Bool.eq_false_or_eq_true (decide ((a1.Left.length : Int) > 6)) with h6 | h6
        · have hM := ite_true' hM h6
          refine tr_sr hT hm [(1, .call [] [] [.agg (eXCategory.b a0)] [] (bv v1)), (3, .val (bv false)), (9, .val (bv false)), (14, .call [] [] [iv a0.Objects, .sl a1.Variables.length 0 (a1.Variables.flatMap eI.b)] [] (bv v4)), (17, .val (bv false)), (23, .val (bv true))] [4, 6, 104, 2005, 2007] [(4, .d (.rp 1002 0)), (6, .d (.rp 1003 0)), (104, .d (bv true)), bxB 2005 (eXCategory.b a0), bxB 2007 (eXQuery.b a1)] (cc0 ok79 (spec_l02Is_c a0 _ hv1) (by kernel_rfl) (.cons (congrArg (fun b => bv b) (congrArg not h2)) (.cons (congrArg (fun b => bv b) h3) (cc0 ok80 (spec_l01Map_c a0.Objects a1.Variables _ hv4) (by kernel_rfl) (.cons (congrArg (fun b => bv b) (congrArg not h5)) (.cons (congrArg (fun b => bv b) h6) .nil)))))) (by kernel_rfl) (by kernel_rfl) ?_
          refine tr_condT (by kernel_rfl) ?_
          refine tr_sr hT hm [] [8] [(8, .d (bv false))] .nil (by kernel_rfl) (by kernel_rfl) ?_
          refine tr_ret (q_r (rg_r ?_))
          obtain rfl := Option.some.inj hM
          exact retg (names := []) .nil (by kernel_rfl)
        · have hM := ite_false' hM h6
          rcases Bool.eq_false_or_eq_true ((a1.Right.length : Int) != (a1.Left.length : Int)) with h7 | h7
          · have hM := ite_true' hM h7
            refine tr_sr hT hm [(1, .call [] [] [.agg (eXCategory.b a0)] [] (bv v1)), (3, .val (bv false)), (9, .val (bv false)), (14, .call [] [] [iv a0.Objects, .sl a1.Variables.length 0 (a1.Variables.flatMap eI.b)] [] (bv v4)), (17, .val (bv false)), (23, .val (bv false)), (32, .val (bv true))] [4, 6, 104, 2005, 2007] [(4, .d (.rp 1002 0)), (6, .d (.rp 1003 0)), (104, .d (bv true)), bxB 2005 (eXCategory.b a0), bxB 2007 (eXQuery.b a1)] (cc0 ok79 (spec_l02Is_c a0 _ hv1) (by kernel_rfl) (.cons (congrArg (fun b => bv b) (congrArg not h2)) (.cons (congrArg (fun b => bv b) h3) (cc0 ok80 (spec_l01Map_c a0.Objects a1.Variables _ hv4) (by kernel_rfl) (.cons (congrArg (fun b => bv b) (congrArg not h5)) (.cons (congrArg (fun b => bv b) h6) (.cons (congrArg (fun b => bv b) h7) .nil))))))) (by kernel_rfl) (by kernel_rfl) ?_
            refine tr_condT (by kernel_rfl) ?_
            refine tr_sr hT hm [] [8] [(8, .d (bv false))] .nil (by kernel_rfl) (by kernel_rfl) ?_
            refine tr_ret (q_r (rg_r ?_))
            obtain rfl := Option.some.inj hM
            exact retg (names := []) .nil (by kernel_rfl)
          · have hM := ite_false' hM h7
            rcases Bool.eq_false_or_eq_true (decide ((a1.Output.length : Int) > 4)) with h8 | h8
            · have hM := ite_true' hM h8
              refine tr_sr hT hm [(1, .call [] [] [.agg (eXCategory.b a0)] [] (bv v1)), (3, .val (bv false)), (9, .val (bv false)), (14, .call [] [] [iv a0.Objects, .sl a1.Variables.length 0 (a1.Variables.flatMap eI.b)] [] (bv v4)), (17, .val (bv false)), (23, .val (bv false)), (32, .val (bv false)), (38, .val (bv true))] [4, 6, 104, 2005, 2007] [(4, .d (.rp 1002 0)), (6, .d (.rp 1003 0)), (104, .d (bv true)), bxB 2005 (eXCategory.b a0), bxB 2007 (eXQuery.b a1)] (cc0 ok79 (spec_l02Is_c a0 _ hv1) (by kernel_rfl) (.cons (congrArg (fun b => bv b) (congrArg not h2)) (.cons (congrArg (fun b => bv b) h3) (cc0 ok80 (spec_l01Map_c a0.Objects a1.Variables _ hv4) (by kernel_rfl) (.cons (congrArg (fun b => bv b) (congrArg not h5)) (.cons (congrArg (fun b => bv b) h6) (.cons (congrArg (fun b => bv b) h7) (.cons (congrArg (fun b => bv b) h8) .nil)))))))) (by kernel_rfl) (by kernel_rfl) ?_
              refine tr_condT (by kernel_rfl) ?_
              refine tr_sr hT hm [] [8] [(8, .d (bv false))] .nil (by kernel_rfl) (by kernel_rfl) ?_
              refine tr_ret (q_r (rg_r ?_))
              obtain rfl := Option.some.inj hM
              exact retg (names := []) .nil (by kernel_rfl)
            · have hM := ite_false' hM h8
              obtain ⟨v9, hv9, hM⟩ := bind_some' hM
              refine tr_sr hT hm [(1, .call [] [] [.agg (eXCategory.b a0)] [] (bv v1)), (3, .val (bv false)), (9, .val (bv false)), (14, .call [] [] [iv a0.Objects, .sl a1.Variables.length 0 (a1.Variables.flatMap eI.b)] [] (bv v4)), (17, .val (bv false)), (23, .val (bv false)), (32, .val (bv false)), (38, .val (bv false)), (44, .call [] [] [iv (a1.Variables.length : Int), .sl a1.Output.length 0 (a1.Output.flatMap eI.b)] [] (bv v9))] [4, 6, 104, 2005, 2007] [(4, .d (.rp 1002 0)), (6, .d (.rp 1003 0)), (104, .d (bv (!v9))), bxB 2005 (eXCategory.b a0), bxB 2007 (eXQuery.b a1)] (cc0 ok79 (spec_l02Is_c a0 _ hv1) (by kernel_rfl) (.cons (congrArg (fun b => bv b) (congrArg not h2)) (.cons (congrArg (fun b => bv b) h3) (cc0 ok80 (spec_l01Map_c a0.Objects a1.Variables _ hv4) (by kernel_rfl) (.cons (congrArg (fun b => bv b) (congrArg not h5)) (.cons (congrArg (fun b => bv b) h6) (.cons (congrArg (fun b => bv b) h7) (.cons (congrArg (fun b => bv b) h8) (cc0 ok80 (spec_l01Map_c (a1.Variables.length : Int) a1.Output _ hv9) (by kernel_rfl) .nil))))))))) (by kernel_rfl) (by kernel_rfl) ?_
              rcases Bool.eq_false_or_eq_true v9 with h10 | h10
              · have hM := ite_true' hM h10
                refine tr_condFe (e := !v9) (congrArg not h10) (by kernel_rfl) ?_
                refine tr_skip (q_n ?_)
                refine tr_seq ?_
                refine tr_sr hT hm [] [4, 6, 10, 2005, 2007] [(4, .d (.rp 1002 0)), (6, .d (.rp 1003 0)), (10, .d (iv 0)), bxB 2005 (eXCategory.b a0), bxB 2007 (eXQuery.b a1)] .nil (by kernel_rfl) (by kernel_rfl) ?_
                refine tr_block ?_
                refine tr_iterS (fun (s11 : Int) => [(4, .d (.rp 1002 0)), (6, .d (.rp 1003 0)), (10, .d (iv s11)), bxB 2005 (eXCategory.b a0), bxB 2007 (eXQuery.b a1)]) 0 [4, 6, 10, 2005, 2007] (by kernel_rfl) hM ?_
                intro n14 next12 ih13 s11 hM
                refine tr_seq ?_
                refine tr_sr hT hm [] [4, 6, 10, 114, 2005, 2007] [(4, .d (.rp 1002 0)), (6, .d (.rp 1003 0)), (10, .d (iv s11)), (114, .d (bv (decide (s11 < (a1.Left.length : Int))))), bxB 2005 (eXCategory.b a0), bxB 2007 (eXQuery.b a1)] .nil (by kernel_rfl) (by kernel_rfl) ?_
                rcases Bool.eq_false_or_eq_true (decide (s11 < (a1.Left.length : Int))) with h15 | h15
                · have hM := ite_true' hM h15
                  refine tr_condTe (e := decide (s11 < (a1.Left.length : Int))) h15 (by kernel_rfl) ?_
                  refine tr_skip (q_n ?_)
                  refine tr_seq ?_
                  refine tr_block ?_
                  obtain ⟨y16, hy16, hM⟩ := bind_some' hM
                  have hy16' := idx_some hy16
                  obtain ⟨v17, hv17, hM⟩ := bind_some' hM
                  rcases Bool.eq_false_or_eq_true v17 with h18 | h18
                  · have hM := ite_true' hM h18
                    obtain ⟨y19, hy19, hM⟩ := bind_some' hM
                    have hy19' := idx_some hy19
                    obtain ⟨v20, hv20, hM⟩ := bind_some' hM
                    rcases Bool.eq_false_or_eq_true v20 with h21 | h21
                    · have hM := ite_true' hM h21
                      obtain ⟨y22, hy22, hM⟩ := bind_some' hM
                      have hy22' := idx_some hy22
                      obtain ⟨y23, hy23, hM⟩ := bind_some' hM
                      have hy23' := idx_some hy23
                      refine tr_sr hT hm [(7, .val (.agg [iv y16.Variable, iv y16.Arrow])), (8, .call [] [] [.agg (eXCategory.b a0), .sl a1.Variables.length 0 (a1.Variables.flatMap eI.b), .agg (eXTerm.b y16)] [] (bv v17)), (10, .val (bv false)), (18, .val (.agg [iv y19.Variable, iv y19.Arrow])), (19, .call [] [] [.agg (eXCategory.b a0), .sl a1.Variables.length 0 (a1.Variables.flatMap eI.b), .agg (eXTerm.b y19)] [] (bv v20)), (22, .val (bv false)), (30, .val (iv y16.Arrow)), (32, .val (iv y22)), (40, .val (iv y19.Arrow)), (42, .val (iv y23))] [4, 6, 10, 208, 2005, 2007] [(4, .d (.rp 1002 0)), (6, .d (.rp 1003 0)), (10, .d (iv s11)), (208, .d (bv (y22 != y23))), bxB 2005 (eXCategory.b a0), bxB 2007 (eXQuery.b a1)] (.cons hy16'.1 (.cons hy16'.2.1 (.cons (sub_b eXTerm_ok hy16'.2.2) (cc0 ok46 (spec_l38Term_c a0 a1.Variables y16 _ hv17) (by kernel_rfl) (.cons (congrArg (fun b => bv b) (congrArg not h18)) (.cons hy19'.1 (.cons hy19'.2.1 (.cons (sub_b eXTerm_ok hy19'.2.2) (cc0 ok46 (spec_l38Term_c a0 a1.Variables y19 _ hv20) (by kernel_rfl) (.cons (congrArg (fun b => bv b) (congrArg not h21)) (.cons hy16'.1 (.cons hy16'.2.1 (.cons (at_bj (j := 1) eXTerm_ok hy16'.2.2 (d := iv y16.Arrow) (by kernel_rfl)) (.cons hy22'.1 (.cons hy22'.2.1 (.cons (at_b0 eI_ok hy22'.2.2 (d := iv y22) (by kernel_rfl)) (.cons hy19'.1 (.cons hy19'.2.1 (.cons (at_bj (j := 1) eXTerm_ok hy19'.2.2 (d := iv y19.Arrow) (by kernel_rfl)) (.cons hy23'.1 (.cons hy23'.2.1 (.cons (at_b0 eI_ok hy23'.2.2 (d := iv y23) (by kernel_rfl)) .nil)))))))))))))))))))))) (by kernel_rfl) (by kernel_rfl) ?_
                      rcases Bool.eq_false_or_eq_true (y22 != y23) with h24 | h24
                      · have hM := ite_true' hM h24
                        refine tr_condTe (e := y22 != y23) h24 (by kernel_rfl) ?_
                        refine tr_sr hT hm [] [8] [(8, .d (bv false))] .nil (by kernel_rfl) (by kernel_rfl) ?_
                        refine tr_ret (b_r (q_r (l_r (b_r (q_r (rg_r ?_))))))
                        obtain rfl := Option.some.inj hM
                        exact retg (names := []) .nil (by kernel_rfl)
                      · have hM := ite_false' hM h24
                        refine tr_condFe (e := y22 != y23) h24 (by kernel_rfl) ?_
                        refine tr_skip (b_n (q_n ?_))
                        refine tr_r hT hm [] [4, 6, 10, 2005, 2007] [(4, .d (.rp 1002 0)), (6, .d (.rp 1003 0)), (10, .d (iv (IntKind.i64.wrap (s11 + 1)))), bxB 2005 (eXCategory.b a0), bxB 2007 (eXQuery.b a1)] .nil (by kernel_rfl) (by kernel_rfl) (l_n ?_)
                        exact trl_start (ks := [4, 6, 10, 2005, 2007]) (by kernel_rfl) (ih13 (IntKind.i64.wrap (s11 + 1)) hM)
                    · have hM := ite_false' hM h21
                      refine tr_sr hT hm [(7, .val (.agg [iv y16.Variable, iv y16.Arrow])), (8, .call [] [] [.agg (eXCategory.b a0), .sl a1.Variables.length 0 (a1.Variables.flatMap eI.b), .agg (eXTerm.b y16)] [] (bv v17)), (10, .val (bv false)), (18, .val (.agg [iv y19.Variable, iv y19.Arrow])), (19, .call [] [] [.agg (eXCategory.b a0), .sl a1.Variables.length 0 (a1.Variables.flatMap eI.b), .agg (eXTerm.b y19)] [] (bv v20)), (22, .val (bv true))] [4, 6, 10, 208, 2005, 2007] [(4, .d (.rp 1002 0)), (6, .d (.rp 1003 0)), (10, .d (iv s11)), (208, .d (bv true)), bxB 2005 (eXCategory.b a0), bxB 2007 (eXQuery.b a1)] (.cons hy16'.1 (.cons hy16'.2.1 (.cons (sub_b eXTerm_ok hy16'.2.2) (cc0 ok46 (spec_l38Term_c a0 a1.Variables y16 _ hv17) (by kernel_rfl) (.cons (congrArg (fun b => bv b) (congrArg not h18)) (.cons hy19'.1 (.cons hy19'.2.1 (.cons (sub_b eXTerm_ok hy19'.2.2) (cc0 ok46 (spec_l38Term_c a0 a1.Variables y19 _ hv20) (by kernel_rfl) (.cons (congrArg (fun b => bv b) (congrArg not h21)) .nil)))))))))) (by kernel_rfl) (by kernel_rfl) ?_
                      refine tr_condT (by kernel_rfl) ?_
                      refine tr_sr hT hm [] [8] [(8, .d (bv false))] .nil (by kernel_rfl) (by kernel_rfl) ?_
                      refine tr_ret (b_r (q_r (l_r (b_r (q_r (rg_r ?_))))))
                      obtain rfl := Option.some.inj hM
                      exact retg (names := []) .nil (by kernel_rfl)
                  · have hM := ite_false' hM h18
                    refine tr_sr hT hm [(7, .val (.agg [iv y16.Variable, iv y16.Arrow])), (8, .call [] [] [.agg (eXCategory.b a0), .sl a1.Variables.length 0 (a1.Variables.flatMap eI.b), .agg (eXTerm.b y16)] [] (bv v17)), (10, .val (bv true))] [4, 6, 10, 208, 2005, 2007] [(4, .d (.rp 1002 0)), (6, .d (.rp 1003 0)), (10, .d (iv s11)), (208, .d (bv true)), bxB 2005 (eXCategory.b a0), bxB 2007 (eXQuery.b a1)] (.cons hy16'.1 (.cons hy16'.2.1 (.cons (sub_b eXTerm_ok hy16'.2.2) (cc0 ok46 (spec_l38Term_c a0 a1.Variables y16 _ hv17) (by kernel_rfl) (.cons (congrArg (fun b => bv b) (congrArg not h18)) .nil))))) (by kernel_rfl) (by kernel_rfl) ?_
                    refine tr_condT (by kernel_rfl) ?_
                    refine tr_sr hT hm [] [8] [(8, .d (bv false))] .nil (by kernel_rfl) (by kernel_rfl) ?_
                    refine tr_ret (b_r (q_r (l_r (b_r (q_r (rg_r ?_))))))
                    obtain rfl := Option.some.inj hM
                    exact retg (names := []) .nil (by kernel_rfl)
                · have hM := ite_false' hM h15
                  refine tr_condFe (e := decide (s11 < (a1.Left.length : Int))) h15 (by kernel_rfl) ?_
                  refine tr_exit (q_x (l_x (b_h (q_n ?_))))
                  refine tr_sr hT hm [] [8] [(8, .d (bv true))] .nil (by kernel_rfl) (by kernel_rfl) ?_
                  refine tr_ret (rg_r ?_)
                  obtain rfl := Option.some.inj hM
                  exact retg (names := []) .nil (by kernel_rfl)
              · have hM := ite_false' hM h10
                refine tr_condTe (e := !v9) (congrArg not h10) (by kernel_rfl) ?_
                refine tr_sr hT hm [] [8] [(8, .d (bv false))] .nil (by kernel_rfl) (by kernel_rfl) ?_
                refine tr_ret (q_r (rg_r ?_))
                obtain rfl := Option.some.inj hM
                exact retg (names := []) .nil (by kernel_rfl)
      · have hM := ite_false' hM h5
        refine tr_sr hT hm [(1, .call [] [] [.agg (eXCategory.b a0)] [] (bv v1)), (3, .val (bv false)), (9, .val (bv false)), (14, .call [] [] [iv a0.Objects, .sl a1.Variables.length 0 (a1.Variables.flatMap eI.b)] [] (bv v4)), (17, .val (bv true))] [4, 6, 104, 2005, 2007] [(4, .d (.rp 1002 0)), (6, .d (.rp 1003 0)), (104, .d (bv true)), bxB 2005 (eXCategory.b a0), bxB 2007 (eXQuery.b a1)] (cc0 ok79 (spec_l02Is_c a0 _ hv1) (by kernel_rfl) (.cons (congrArg (fun b => bv b) (congrArg not h2)) (.cons (congrArg (fun b => bv b) h3) (cc0 ok80 (spec_l01Map_c a0.Objects a1.Variables _ hv4) (by kernel_rfl) (.cons (congrArg (fun b => bv b) (congrArg not h5)) .nil))))) (by kernel_rfl) (by kernel_rfl) ?_
        refine tr_condT (by kernel_rfl) ?_
        refine tr_sr hT hm [] [8] [(8, .d (bv false))] .nil (by kernel_rfl) (by kernel_rfl) ?_
        refine tr_ret (q_r (rg_r ?_))
        obtain rfl := Option.some.inj hM
        exact retg (names := []) .nil (by kernel_rfl)
  · have hM := ite_false' hM h2
    refine tr_sr hT hm [(1, .call [] [] [.agg (eXCategory.b a0)] [] (bv v1)), (3, .val (bv true))] [4, 6, 104, 2005, 2007] [(4, .d (.rp 1002 0)), (6, .d (.rp 1003 0)), (104, .d (bv true)), bxB 2005 (eXCategory.b a0), bxB 2007 (eXQuery.b a1)] (cc0 ok79 (spec_l02Is_c a0 _ hv1) (by kernel_rfl) (.cons (congrArg (fun b => bv b) (congrArg not h2)) .nil)) (by kernel_rfl) (by kernel_rfl) ?_
    refine tr_condT (by kernel_rfl) ?_
    refine tr_sr hT hm [] [8] [(8, .d (bv false))] .nil (by kernel_rfl) (by kernel_rfl) ?_
    refine tr_ret (q_r (rg_r ?_))
    obtain rfl := Option.some.inj hM
    exact retg (names := []) .nil (by kernel_rfl)

theorem ok63 : CallOk Try.prog 63 := callOk_of Try.func63 (by kernel_rfl) (by kernel_rfl)
theorem spec_l05Place_c (a0 : List (List Int)) (a1 : List Int) (r : Int) (hM : M.spec_l05Place a0 a1 = some r) :
    FnC Try.prog 63 [] [.sl a0.length 0 (a0.flatMap (eS eI).b), .sl a1.length 0 (a1.flatMap eI.b)] [] (iv r) := by
  refine fnc_startG (N := 19) (np := 500) hT Try.func63 rfl rfl (by kernel_rfl) ?_
  unfold M.spec_l05Place at hM
  refine tr_start (ks := [0, 2]) (st' := [(0, .d (.sl a0.length 0 (a0.flatMap (eS eI).b))), (2, .d (.sl a1.length 0 (a1.flatMap eI.b)))]) (by kernel_rfl) ?_
  refine tr_sr hT hm [] [0, 2] [(0, .d (.sl a0.length 0 (a0.flatMap (eS eI).b))), (2, .d (.sl a1.length 0 (a1.flatMap eI.b)))] .nil (by kernel_rfl) (by kernel_rfl) ?_
  refine tr_seq ?_
  refine tr_sr hT hm [] [0, 2, 10] [(0, .d (.sl a0.length 0 (a0.flatMap (eS eI).b))), (2, .d (.sl a1.length 0 (a1.flatMap eI.b))), (10, .d (iv 0))] .nil (by kernel_rfl) (by kernel_rfl) ?_
  refine tr_block ?_
  refine tr_iterS (fun (s1 : Int) => [(0, .d (.sl a0.length 0 (a0.flatMap (eS eI).b))), (2, .d (.sl a1.length 0 (a1.flatMap eI.b))), (10, .d (iv s1))]) 0 [0, 2, 10] (by kernel_rfl) hM ?_
  intro n4 next2 ih3 s1 hM
  refine tr_seq ?_
  refine tr_sr hT hm [] [0, 2, 10, 18] [(0, .d (.sl a0.length 0 (a0.flatMap (eS eI).b))), (2, .d (.sl a1.length 0 (a1.flatMap eI.b))), (10, .d (iv s1)), (18, .d (bv (decide (s1 < (a0.length : Int)))))] .nil (by kernel_rfl) (by kernel_rfl) ?_
  rcases Bool.eq_false_or_eq_true (decide (s1 < (a0.length : Int))) with h5 | h5
  · have hM := ite_true' hM h5
    refine tr_condTe (e := decide (s1 < (a0.length : Int))) h5 (by kernel_rfl) ?_
    refine tr_skip (q_n ?_)
    refine tr_seq ?_
    refine tr_block ?_
    obtain ⟨y6, hy6, hM⟩ := bind_some' hM
    have hy6' := idx_some hy6
    obtain ⟨v7, hv7, hM⟩ := bind_some' hM
    refine tr_sr hT hm [(3, .val (.sl y6.length 0 (y6.flatMap eI.b))), (5, .call [] [] [.sl y6.length 0 (y6.flatMap eI.b), .sl a1.length 0 (a1.flatMap eI.b)] [] (bv v7))] [0, 2, 10, 34] [(0, .d (.sl a0.length 0 (a0.flatMap (eS eI).b))), (2, .d (.sl a1.length 0 (a1.flatMap eI.b))), (10, .d (iv s1)), (34, .d (bv v7))] (.cons hy6'.1 (.cons hy6'.2.1 (.cons (at_b0 (eS_ok eI_ok) hy6'.2.2 (d := .sl y6.length 0 (y6.flatMap eI.b)) (by kernel_rfl)) (cc0 ok111 (spec_l01Same_c y6 a1 _ hv7) (by kernel_rfl) .nil)))) (by kernel_rfl) (by kernel_rfl) ?_
    rcases Bool.eq_false_or_eq_true v7 with h8 | h8
    · have hM := ite_true' hM h8
      refine tr_condTe (e := v7) h8 (by kernel_rfl) ?_
      refine tr_sr hT hm [] [8] [(8, .d (iv s1))] .nil (by kernel_rfl) (by kernel_rfl) ?_
      refine tr_ret (b_r (q_r (l_r (b_r (q_r (rg_r ?_))))))
      obtain rfl := Option.some.inj hM
      exact retg (names := []) .nil (by kernel_rfl)
    · have hM := ite_false' hM h8
      refine tr_condFe (e := v7) h8 (by kernel_rfl) ?_
      refine tr_skip (b_n (q_n ?_))
      refine tr_r hT hm [] [0, 2, 10] [(0, .d (.sl a0.length 0 (a0.flatMap (eS eI).b))), (2, .d (.sl a1.length 0 (a1.flatMap eI.b))), (10, .d (iv (IntKind.i64.wrap (s1 + 1))))] .nil (by kernel_rfl) (by kernel_rfl) (l_n ?_)
      exact trl_start (ks := [0, 2, 10]) (by kernel_rfl) (ih3 (IntKind.i64.wrap (s1 + 1)) hM)
  · have hM := ite_false' hM h5
    refine tr_condFe (e := decide (s1 < (a0.length : Int))) h5 (by kernel_rfl) ?_
    refine tr_exit (q_x (l_x (b_h (q_n ?_))))
    refine tr_sr hT hm [] [8] [(8, .d (iv (-1)))] .nil (by kernel_rfl) (by kernel_rfl) ?_
    refine tr_ret (rg_r ?_)
    obtain rfl := Option.some.inj hM
    exact retg (names := []) .nil (by kernel_rfl)

end Go.Proofs.Ythafadgnjkmfkaa.WzI
