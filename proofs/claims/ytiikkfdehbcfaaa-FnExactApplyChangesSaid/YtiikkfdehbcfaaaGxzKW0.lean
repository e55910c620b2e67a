/- Walks. Printed by wip/gen. -/
import Derived.Test.YtiikkfdehbcfaaaGxzKW
namespace Go.Proofs.Ytiikkfdehbcfaaa.WzK
open Go.Gx Go.Proofs.Ytiikkfdehbcfaaa.WvB Go.Proofs.Ytiikkfdehbcfaaa.WyN Go.Proofs.Ytiikkfdehbcfaaa.WzS Go.Proofs.Ytiikkfdehbcfaaa.WzJ

theorem ok25 : CallOk Try.prog 25 := callOk_of Try.func25 (by kernel_rfl) (by kernel_rfl)
theorem laws_szChangeS_c (a0 : List XChange) (a1 : Int) (r : Int) (hM : M.laws_szChangeS a0 a1 = some r) :
    FnC Try.prog 25 [] [.sl a0.length 0 (a0.flatMap eXChange.b), iv a1] [] (iv r) := by
  refine fnc_startG (N := 12) (np := 500) hT Try.func25 rfl rfl (by kernel_rfl) ?_
  unfold M.laws_szChangeS at hM
  refine tr_start (ks := [0, 2]) (st' := [(0, .d (.sl a0.length 0 (a0.flatMap eXChange.b))), (2, .d (iv a1))]) (by kernel_rfl) ?_
  refine tr_sr hT hm [] [0, 2] [(0, .d (.sl a0.length 0 (a0.flatMap eXChange.b))), (2, .d (iv a1))] .nil (by kernel_rfl) (by kernel_rfl) ?_
  refine tr_sr hT hm [] [2] [(2, .d (iv (IntKind.i64.wrap (a1 - (a0.length : Int)))))] .nil (by kernel_rfl) (by kernel_rfl) ?_
  refine tr_seq ?_
  refine tr_sr hT hm [] [2, 20] [(2, .d (iv (IntKind.i64.wrap (a1 - (a0.length : Int))))), (20, .d (bv (decide ((IntKind.i64.wrap (a1 - (a0.length : Int))) < 0))))] .nil (by kernel_rfl) (by kernel_rfl) ?_
  rcases Bool.eq_false_or_eq_true (decide ((IntKind.i64.wrap (a1 - (a0.length : Int))) < 0)) with h1 | h1
  · have hM := ite_true' hM h1
    refine tr_condTe (e := decide ((IntKind.i64.wrap (a1 - (a0.length : Int))) < 0)) h1 (by kernel_rfl) ?_
    refine tr_sr hT hm [] [8] [(8, .d (iv (-1)))] .nil (by kernel_rfl) (by kernel_rfl) ?_
    refine tr_ret (q_r (rg_r ?_))
    obtain rfl := Option.some.inj hM
    exact retg (names := []) .nil (by kernel_rfl)
  · have hM := ite_false' hM h1
    refine tr_condFe (e := decide ((IntKind.i64.wrap (a1 - (a0.length : Int))) < 0)) h1 (by kernel_rfl) ?_
    refine tr_skip (q_n ?_)
    refine tr_sr hT hm [] [8] [(8, .d (iv (IntKind.i64.wrap (a1 - (a0.length : Int)))))] .nil (by kernel_rfl) (by kernel_rfl) ?_
    refine tr_ret (rg_r ?_)
    obtain rfl := Option.some.inj hM
    exact retg (names := []) .nil (by kernel_rfl)

theorem ok92 : CallOk Try.prog 92 := callOk_of Try.func92 (by kernel_rfl) (by kernel_rfl)
theorem laws_toChange_c (a0 : XChange) (r : XChange) (hM : M.laws_toChange a0 = some r) :
    FnC Try.prog 92 [] [.agg (eXChange.b a0)] [] (.agg (eXChange.o r)) := by
  refine fnc_startG (N := 17) (np := 500) hT Try.func92 rfl rfl (by kernel_rfl) ?_
  unfold M.laws_toChange at hM
  refine tr_start (ks := [0]) (st' := [(0, .d (.agg (eXChange.b a0)))]) (by kernel_rfl) ?_
  refine tr_sr hT hm [] [2, 4, 2003, 2005] [(2, .d (.rp 1001 0)), (4, .d (.rp 1002 0)), bxB 2003 (eXChange.b a0), (2005, .r (.arr 1 [iv 0, iv 0, iv 0, iv 0] []))] .nil (by kernel_rfl) (by kernel_rfl) ?_
  refine tr_sr hT hm [] [2, 4, 6, 2003, 2005, 2007] [(2, .d (.rp 1001 0)), (4, .d (.rp 1002 0)), (6, .d (.rp 1003 0)), bxB 2003 (eXChange.b a0), (2005, .r (.arr 1 [iv 0, iv 0, iv 0, iv 0] [])), (2007, .r (.arr 1 [iv 0, iv 0, iv 0, iv 0] []))] .nil (by kernel_rfl) (by kernel_rfl) ?_
  refine tr_sr hT hm [] [2, 4, 6, 2003, 2005, 2007] [(2, .d (.rp 1001 0)), (4, .d (.rp 1002 0)), (6, .d (.rp 1003 0)), bxB 2003 (eXChange.b a0), (2005, .r (.arr 1 [iv 0, iv 0, iv 0, iv 0] [])), (2007, .r (.arr 1 [iv a0.Kind, iv 0, iv 0, iv 0] []))] (.cons (Nat.le_of_ble_eq_true (n := 1) (m := 4) rfl) .nil) (by kernel_rfl) (by kernel_rfl) ?_
  refine tr_sr hT hm [] [2, 4, 6, 2003, 2005, 2007] [(2, .d (.rp 1001 0)), (4, .d (.rp 1002 0)), (6, .d (.rp 1003 0)), bxB 2003 (eXChange.b a0), (2005, .r (.arr 1 [iv 0, iv 0, iv 0, iv 0] [])), (2007, .r (.arr 1 [iv a0.Kind, iv a0.First, iv 0, iv 0] []))] (.cons (Nat.le_of_ble_eq_true (n := 2) (m := 4) rfl) .nil) (by kernel_rfl) (by kernel_rfl) ?_
  refine tr_sr hT hm [] [2, 4, 6, 2003, 2005, 2007] [(2, .d (.rp 1001 0)), (4, .d (.rp 1002 0)), (6, .d (.rp 1003 0)), bxB 2003 (eXChange.b a0), (2005, .r (.arr 1 [iv 0, iv 0, iv 0, iv 0] [])), (2007, .r (.arr 1 [iv a0.Kind, iv a0.First, iv a0.Second, iv 0] []))] (.cons (Nat.le_of_ble_eq_true (n := 3) (m := 4) rfl) .nil) (by kernel_rfl) (by kernel_rfl) ?_
  refine tr_sr hT hm [] [4, 6, 2005, 2007] [(4, .d (.rp 1002 0)), (6, .d (.rp 1003 0)), (2005, .r (.arr 1 [iv 0, iv 0, iv 0, iv 0] [])), bxB 2007 (eXChange.b a0)] (.cons (Nat.le_of_ble_eq_true (n := 4) (m := 4) rfl) .nil) (by kernel_rfl) (by kernel_rfl) ?_
  refine tr_sr hT hm [] [4, 2005] [(4, .d (.rp 1002 0)), bxB 2005 (eXChange.b a0)] (.cons (Nat.le_of_ble_eq_true (n := 4) (m := 4) rfl) .nil) (by kernel_rfl) (by kernel_rfl) ?_
  refine tr_ret (rg_r ?_)
  obtain rfl := Option.some.inj hM
  exact retg (names := []) .nil (by kernel_rfl)

theorem ok30 : CallOk Try.prog 30 := callOk_of Try.func30 (by kernel_rfl) (by kernel_rfl)
theorem laws_toChangeS_c (a0 : List XChange) (r : (List XChange)) (hM : M.laws_toChangeS a0 = some r) :
    FnC Try.prog 30 [] [.sl a0.length 0 (a0.flatMap eXChange.b)] [] (.fr 4 r.length (r.flatMap eXChange.o)) := by
  refine fnc_startG (N := 23) (np := 500) hT Try.func30 rfl rfl (by kernel_rfl) ?_
  unfold M.laws_toChangeS at hM
  refine tr_start (ks := [0]) (st' := [(0, .d (.sl a0.length 0 (a0.flatMap eXChange.b)))]) (by kernel_rfl) ?_
  refine tr_sr hT hm [] [0] [(0, .d (.sl a0.length 0 (a0.flatMap eXChange.b)))] .nil (by kernel_rfl) (by kernel_rfl) ?_
  obtain ⟨h1, hM⟩ := chk_some hM
  refine tr_sr hT hm [] [0, 6, 2015] [(0, .d (.sl a0.length 0 (a0.flatMap eXChange.b))), (6, .d (.rs 1007 0 ((a0.length : Int).toNat))), (2015, .r (.arr 4 (repl (a0.length : Int).toNat [.int .i64 0, .int .i64 0, .int .i64 0, .int .i64 0]) []))] (.cons h1.1 (.cons (Int.le_refl (a0.length : Int)) (.cons h1.2 .nil))) (by kernel_rfl) (by kernel_rfl) ?_
  refine Tr.by (imp_cvL (r := 1007) (sz := 4) (refs := []) (subl_repl (f := eXChange.o) (zs := [.int .i64 0, .int .i64 0, .int .i64 0, .int .i64 0]) (z := (⟨0, 0, 0, 0⟩ : XChange)) (.cons (.refl _) (.cons (.refl _) (.cons (.refl _) (.cons (.refl _) .nil)))) (a0.length : Int).toNat) (repl_hl (by kernel_rfl)) (menO_flat eXChange_ok _) (by kernel_rfl)) ?_
  refine Tr.by (imp_cvD (k := 6) (congrArg (D.rs 1007 0) (List.length_replicate.symm : (a0.length : Int).toNat = (List.replicate (a0.length : Int).toNat (⟨0, 0, 0, 0⟩ : XChange)).length)) (by kernel_rfl)) ?_
  refine tr_seq ?_
  refine tr_sr hT hm [] [0, 6, 8, 2015] [(0, .d (.sl a0.length 0 (a0.flatMap eXChange.b))), (6, .d (.rs 1007 0 ((List.replicate (a0.length : Int).toNat (⟨0, 0, 0, 0⟩ : XChange)).length))), (8, .d (iv 0)), (2015, .r (.arr 4 ((List.replicate (a0.length : Int).toNat (⟨0, 0, 0, 0⟩ : XChange)).flatMap eXChange.o) []))] .nil (by kernel_rfl) (by kernel_rfl) ?_
  refine tr_block ?_
  refine tr_iterS (fun (s2 : (List XChange) × Int) => [(0, .d (.sl a0.length 0 (a0.flatMap eXChange.b))), (6, .d (.rs 1007 0 s2.1.length)), (8, .d (iv s2.2)), (2015, .r (.arr 4 (s2.1.flatMap eXChange.o) []))]) ((List.replicate (a0.length : Int).toNat (⟨0, 0, 0, 0⟩ : XChange)), 0) [0, 6, 8, 2015] (by kernel_rfl) hM ?_
  intro n5 next3 ih4 s2 hM
  refine tr_seq ?_
  refine tr_sr hT hm [] [0, 6, 8, 22, 2015] [(0, .d (.sl a0.length 0 (a0.flatMap eXChange.b))), (6, .d (.rs 1007 0 s2.1.length)), (8, .d (iv s2.2)), (22, .d (bv (decide (s2.2 < (a0.length : Int))))), (2015, .r (.arr 4 (s2.1.flatMap eXChange.o) []))] .nil (by kernel_rfl) (by kernel_rfl) ?_
  rcases Bool.eq_false_or_eq_true (decide (s2.2 < (a0.length : Int))) with h6 | h6
  · have hM := ite_true' hM h6
    refine tr_condTe (e := decide (s2.2 < (a0.length : Int))) h6 (by kernel_rfl) ?_
    refine tr_skip (q_n ?_)
    refine tr_seq ?_
    refine tr_block ?_
    obtain ⟨y7, hy7, hM⟩ := bind_some' hM
    have hy7' := idx_some hy7
    obtain ⟨v8, hv8, hM⟩ := bind_some' hM
    obtain ⟨y9, hy9, hM⟩ := bind_some' hM
    have hy9' := idx_some hy9
    refine tr_r hT hm [(5, .val (.agg [iv y7.Kind, iv y7.First, iv y7.Second, iv y7.Third])), (6, .call [] [] [.agg (eXChange.b y7)] [] (.agg (eXChange.o v8)))] [0, 6, 8, 2015] [(0, .d (.sl a0.length 0 (a0.flatMap eXChange.b))), (6, .d (.rs 1007 0 s2.1.length)), (8, .d (iv s2.2)), (2015, .r (.arr 4 ((s2.1.flatMap eXChange.o).take (0 + s2.2.toNat * 4) ++ [iv v8.Kind, iv v8.First, iv v8.Second, iv v8.Third] ++ (s2.1.flatMap eXChange.o).drop (0 + s2.2.toNat * 4 + 4)) []))] (.cons hy7'.1 (.cons hy7'.2.1 (.cons (sub_b eXChange_ok hy7'.2.2) (cc0 ok92 (laws_toChange_c y7 _ hv8) (by kernel_rfl) (.cons hy9'.1 (.cons hy9'.2.1 (.cons (store_le eXChange_ok hy9'.2.2) .nil))))))) (by kernel_rfl) (by kernel_rfl) (b_n (q_n ?_))
    refine Tr.by (imp_cvE (r := 1007) (sz := 4) (refs := []) (set_flat eXChange_ok.lenO (y := v8) hy9'.2.2) (menO_flat eXChange_ok _) (by kernel_rfl)) ?_
    refine Tr.by (imp_cvD (k := 6) (congrArg (D.rs 1007 0) (List.length_set.symm : s2.1.length = (s2.1.set s2.2.toNat v8).length)) (by kernel_rfl)) ?_
    refine tr_r hT hm [] [0, 6, 8, 2015] [(0, .d (.sl a0.length 0 (a0.flatMap eXChange.b))), (6, .d (.rs 1007 0 ((s2.1.set s2.2.toNat v8).length))), (8, .d (iv (IntKind.i64.wrap (s2.2 + 1)))), (2015, .r (.arr 4 ((s2.1.set s2.2.toNat v8).flatMap eXChange.o) []))] .nil (by kernel_rfl) (by kernel_rfl) (l_n ?_)
    exact trl_start (ks := [0, 6, 8, 2015]) (by kernel_rfl) (ih4 (s2.1.set s2.2.toNat v8, IntKind.i64.wrap (s2.2 + 1)) hM)
  · have hM := ite_false' hM h6
    refine tr_condFe (e := decide (s2.2 < (a0.length : Int))) h6 (by kernel_rfl) ?_
    refine tr_exit (q_x (l_x (b_h (q_n ?_))))
    refine tr_sr hT hm [] [4, 2015] [(4, .d (.rs 1007 0 s2.1.length)), (2015, .r (.arr 4 (s2.1.flatMap eXChange.o) []))] .nil (by kernel_rfl) (by kernel_rfl) ?_
    refine tr_ret (rg_r ?_)
    obtain rfl := Option.some.inj hM
    exact retg (names := []) (.cons (lenO_flat eXChange_ok s2.1) .nil) (by kernel_rfl)

theorem ok98 : CallOk Try.prog 98 := callOk_of Try.func98 (by kernel_rfl) (by kernel_rfl)
theorem laws_eqChange_c (a0 : XChange) (a1 : XChange) (r : Bool) (hM : M.laws_eqChange a0 a1 = some r) :
    FnC Try.prog 98 [] [.agg (eXChange.b a0), .agg (eXChange.b a1)] [] (bv r) := by
  refine fnc_startG (N := 25) (np := 500) hT Try.func98 rfl rfl (by kernel_rfl) ?_
  unfold M.laws_eqChange at hM
  refine tr_start (ks := [0, 2]) (st' := [(0, .d (.agg (eXChange.b a0))), (2, .d (.agg (eXChange.b a1)))]) (by kernel_rfl) ?_
  refine tr_sr hT hm [] [4, 6, 2005, 2007] [(4, .d (.rp 1002 0)), (6, .d (.rp 1003 0)), bxB 2005 (eXChange.b a0), bxB 2007 (eXChange.b a1)] .nil (by kernel_rfl) (by kernel_rfl) ?_
  refine tr_seq ?_
  refine tr_sr hT hm [] [4, 6, 18, 2005, 2007] [(4, .d (.rp 1002 0)), (6, .d (.rp 1003 0)), (18, .d (bv (a0.Kind != a1.Kind))), bxB 2005 (eXChange.b a0), bxB 2007 (eXChange.b a1)] .nil (by kernel_rfl) (by kernel_rfl) ?_
  rcases Bool.eq_false_or_eq_true (a0.Kind != a1.Kind) with h1 | h1
  · have hM := ite_true' hM h1
    refine tr_condTe (e := a0.Kind != a1.Kind) h1 (by kernel_rfl) ?_
    refine tr_sr hT hm [] [8] [(8, .d (bv false))] .nil (by kernel_rfl) (by kernel_rfl) ?_
    refine tr_ret (q_r (rg_r ?_))
    obtain rfl := Option.some.inj hM
    exact retg (names := []) .nil (by kernel_rfl)
  · have hM := ite_false' hM h1
    refine tr_condFe (e := a0.Kind != a1.Kind) h1 (by kernel_rfl) ?_
    refine tr_skip (q_n ?_)
    refine tr_seq ?_
    refine tr_sr hT hm [] [4, 6, 28, 2005, 2007] [(4, .d (.rp 1002 0)), (6, .d (.rp 1003 0)), (28, .d (bv (a0.First != a1.First))), bxB 2005 (eXChange.b a0), bxB 2007 (eXChange.b a1)] .nil (by kernel_rfl) (by kernel_rfl) ?_
    rcases Bool.eq_false_or_eq_true (a0.First != a1.First) with h2 | h2
    · have hM := ite_true' hM h2
      refine tr_condTe (e := a0.First != a1.First) h2 (by kernel_rfl) ?_
      refine tr_sr hT hm [] [8] [(8, .d (bv false))] .nil (by kernel_rfl) (by kernel_rfl) ?_
      refine tr_ret (q_r (rg_r ?_))
      obtain rfl := Option.some.inj hM
      exact retg (names := []) .nil (by kernel_rfl)
    · have hM := ite_false' hM h2
      refine tr_condFe (e := a0.First != a1.First) h2 (by kernel_rfl) ?_
      refine tr_skip (q_n ?_)
      refine tr_seq ?_
      refine tr_sr hT hm [] [4, 6, 38, 2005, 2007] [(4, .d (.rp 1002 0)), (6, .d (.rp 1003 0)), (38, .d (bv (a0.Second != a1.Second))), bxB 2005 (eXChange.b a0), bxB 2007 (eXChange.b a1)] .nil (by kernel_rfl) (by kernel_rfl) ?_
      rcases Bool.eq_false_or_eq_true (a0.Second != a1.Second) with h3 | h3
      · have hM := ite_true' hM h3
        refine tr_condTe (e := a0.Second != a1.Second) h3 (by kernel_rfl) ?_
        refine tr_sr hT hm [] [8] [(8, .d (bv false))] .nil (by kernel_rfl) (by kernel_rfl) ?_
        refine tr_ret (q_r (rg_r ?_))
        obtain rfl := Option.some.inj hM
        exact retg (names := []) .nil (by kernel_rfl)
      · have hM := ite_false' hM h3
        refine tr_condFe (e := a0.Second != a1.Second) h3 (by kernel_rfl) ?_
        refine tr_skip (q_n ?_)
        refine tr_seq ?_
        refine tr_sr hT hm [] [48] [(48, .d (bv (a0.Third != a1.Third)))] .nil (by kernel_rfl) (by kernel_rfl) ?_
        rcases Bool.eq_false_or_eq_true (a0.Third != a1.Third) with h4 | h4
        · have hM := ite_true' hM h4
          refine tr_condTe (e := a0.Third != a1.Third) h4 (by kernel_rfl) ?_
          refine tr_sr hT hm [] [8] [(8, .d (bv false))] .nil (by kernel_rfl) (by kernel_rfl) ?_
          refine tr_ret (q_r (rg_r ?_))
          obtain rfl := Option.some.inj hM
          exact retg (names := []) .nil (by kernel_rfl)
        · have hM := ite_false' hM h4
          refine tr_condFe (e := a0.Third != a1.Third) h4 (by kernel_rfl) ?_
          refine tr_skip (q_n ?_)
          refine tr_sr hT hm [] [8] [(8, .d (bv true))] .nil (by kernel_rfl) (by kernel_rfl) ?_
          refine tr_ret (rg_r ?_)
          obtain rfl := Option.some.inj hM
          exact retg (names := []) .nil (by kernel_rfl)

theorem ok35 : CallOk Try.prog 35 := callOk_of Try.func35 (by kernel_rfl) (by kernel_rfl)
theorem laws_eqChangeS_c (a0 : List XChange) (a1 : List XChange) (r : Bool) (hM : M.laws_eqChangeS a0 a1 = some r) :
    FnC Try.prog 35 [] [.sl a0.length 0 (a0.flatMap eXChange.b), .sl a1.length 0 (a1.flatMap eXChange.b)] [] (bv r) := by
  refine fnc_startG (N := 27) (np := 500) hT Try.func35 rfl rfl (by kernel_rfl) ?_
  unfold M.laws_eqChangeS at hM
  refine tr_start (ks := [0, 2]) (st' := [(0, .d (.sl a0.length 0 (a0.flatMap eXChange.b))), (2, .d (.sl a1.length 0 (a1.flatMap eXChange.b)))]) (by kernel_rfl) ?_
  refine tr_sr hT hm [] [0, 2] [(0, .d (.sl a0.length 0 (a0.flatMap eXChange.b))), (2, .d (.sl a1.length 0 (a1.flatMap eXChange.b)))] .nil (by kernel_rfl) (by kernel_rfl) ?_
  refine tr_seq ?_
  refine tr_sr hT hm [] [0, 2, 20] [(0, .d (.sl a0.length 0 (a0.flatMap eXChange.b))), (2, .d (.sl a1.length 0 (a1.flatMap eXChange.b))), (20, .d (bv ((a0.length : Int) != (a1.length : Int))))] .nil (by kernel_rfl) (by kernel_rfl) ?_
  rcases Bool.eq_false_or_eq_true ((a0.length : Int) != (a1.length : Int)) with h1 | h1
  · have hM := ite_true' hM h1
    refine tr_condTe (e := (a0.length : Int) != (a1.length : Int)) h1 (by kernel_rfl) ?_
    refine tr_sr hT hm [] [8] [(8, .d (bv false))] .nil (by kernel_rfl) (by kernel_rfl) ?_
    refine tr_ret (q_r (rg_r ?_))
    obtain rfl := Option.some.inj hM
    exact retg (names := []) .nil (by kernel_rfl)
  · have hM := ite_false' hM h1
    refine tr_condFe (e := (a0.length : Int) != (a1.length : Int)) h1 (by kernel_rfl) ?_
    refine tr_skip (q_n ?_)
    refine tr_seq ?_
    refine tr_sr hT hm [] [0, 2, 10] [(0, .d (.sl a0.length 0 (a0.flatMap eXChange.b))), (2, .d (.sl a1.length 0 (a1.flatMap eXChange.b))), (10, .d (iv 0))] .nil (by kernel_rfl) (by kernel_rfl) ?_
    refine tr_block ?_
    refine tr_iterS (fun (s2 : Int) => [(0, .d (.sl a0.length 0 (a0.flatMap eXChange.b))), (2, .d (.sl a1.length 0 (a1.flatMap eXChange.b))), (10, .d (iv s2))]) 0 [0, 2, 10] (by kernel_rfl) hM ?_
    intro n5 next3 ih4 s2 hM
    refine tr_seq ?_
    refine tr_sr hT hm [] [0, 2, 10, 28] [(0, .d (.sl a0.length 0 (a0.flatMap eXChange.b))), (2, .d (.sl a1.length 0 (a1.flatMap eXChange.b))), (10, .d (iv s2)), (28, .d (bv (decide (s2 < (a0.length : Int)))))] .nil (by kernel_rfl) (by kernel_rfl) ?_
    rcases Bool.eq_false_or_eq_true (decide (s2 < (a0.length : Int))) with h6 | h6
    · have hM := ite_true' hM h6
      refine tr_condTe (e := decide (s2 < (a0.length : Int))) h6 (by kernel_rfl) ?_
      refine tr_skip (q_n ?_)
      refine tr_seq ?_
      refine tr_block ?_
      obtain ⟨y7, hy7, hM⟩ := bind_some' hM
      have hy7' := idx_some hy7
      obtain ⟨y8, hy8, hM⟩ := bind_some' hM
      have hy8' := idx_some hy8
      obtain ⟨v9, hv9, hM⟩ := bind_some' hM
      refine tr_sr hT hm [(3, .val (.agg [iv y7.Kind, iv y7.First, iv y7.Second, iv y7.Third])), (7, .val (.agg [iv y8.Kind, iv y8.First, iv y8.Second, iv y8.Third])), (8, .call [] [] [.agg (eXChange.b y7), .agg (eXChange.b y8)] [] (bv v9))] [0, 2, 10, 52] [(0, .d (.sl a0.length 0 (a0.flatMap eXChange.b))), (2, .d (.sl a1.length 0 (a1.flatMap eXChange.b))), (10, .d (iv s2)), (52, .d (bv (!v9)))] (.cons hy7'.1 (.cons hy7'.2.1 (.cons (sub_b eXChange_ok hy7'.2.2) (.cons hy8'.1 (.cons hy8'.2.1 (.cons (sub_b eXChange_ok hy8'.2.2) (cc0 ok98 (laws_eqChange_c y7 y8 _ hv9) (by kernel_rfl) .nil))))))) (by kernel_rfl) (by kernel_rfl) ?_
      rcases Bool.eq_false_or_eq_true v9 with h10 | h10
      · have hM := ite_true' hM h10
        refine tr_condFe (e := !v9) (congrArg not h10) (by kernel_rfl) ?_
        refine tr_skip (b_n (q_n ?_))
        refine tr_r hT hm [] [0, 2, 10] [(0, .d (.sl a0.length 0 (a0.flatMap eXChange.b))), (2, .d (.sl a1.length 0 (a1.flatMap eXChange.b))), (10, .d (iv (IntKind.i64.wrap (s2 + 1))))] .nil (by kernel_rfl) (by kernel_rfl) (l_n ?_)
        exact trl_start (ks := [0, 2, 10]) (by kernel_rfl) (ih4 (IntKind.i64.wrap (s2 + 1)) hM)
      · have hM := ite_false' hM h10
        refine tr_condTe (e := !v9) (congrArg not h10) (by kernel_rfl) ?_
        refine tr_sr hT hm [] [8] [(8, .d (bv false))] .nil (by kernel_rfl) (by kernel_rfl) ?_
        refine tr_ret (b_r (q_r (l_r (b_r (q_r (rg_r ?_))))))
        obtain rfl := Option.some.inj hM
        exact retg (names := []) .nil (by kernel_rfl)
    · have hM := ite_false' hM h6
      refine tr_condFe (e := decide (s2 < (a0.length : Int))) h6 (by kernel_rfl) ?_
      refine tr_exit (q_x (l_x (b_h (q_n ?_))))
      refine tr_sr hT hm [] [8] [(8, .d (bv true))] .nil (by kernel_rfl) (by kernel_rfl) ?_
      refine tr_ret (rg_r ?_)
      obtain rfl := Option.some.inj hM
      exact retg (names := []) .nil (by kernel_rfl)

theorem ok39 : CallOk Try.prog 39 := callOk_of Try.func39 (by kernel_rfl) (by kernel_rfl)
theorem laws_markChangeS_c (a0 : List XChange) (a1 : Int) (r : Int × (List XChange)) (hM : M.laws_markChangeS a0 a1 = some r) :
    FnC Try.prog 39 [(0, .arr 4 (a0.flatMap eXChange.o) [])] [.rs 0 0 a0.length, iv a1] [(0, .arr 4 (r.2.flatMap eXChange.o) [])] (iv r.1) := by
  refine fnc_startG (N := 41) (np := 500) hT Try.func39 rfl rfl (by kernel_rfl) ?_
  unfold M.laws_markChangeS at hM
  refine tr_start (ks := [0, 1, 2]) (st' := [(0, .d (.rs 0 0 a0.length)), (1, .r (.arr 4 (a0.flatMap eXChange.o) [])), (2, .d (iv a1))]) (by kernel_rfl) ?_
  refine tr_sr hT hm [] [0, 1, 2] [(0, .d (.rs 0 0 a0.length)), (1, .r (.arr 4 (a0.flatMap eXChange.o) [])), (2, .d (iv a1))] .nil (by kernel_rfl) (by kernel_rfl) ?_
  refine tr_seq ?_
  refine tr_sr hT hm [] [0, 1, 2, 10] [(0, .d (.rs 0 0 a0.length)), (1, .r (.arr 4 (a0.flatMap eXChange.o) [])), (2, .d (iv a1)), (10, .d (iv 0))] .nil (by kernel_rfl) (by kernel_rfl) ?_
  refine tr_block ?_
  refine tr_iterS (fun (s1 : (List XChange) × Int × Int) => [(0, .d (.rs 0 0 s1.1.length)), (1, .r (.arr 4 (s1.1.flatMap eXChange.o) [])), (2, .d (iv s1.2.1)), (10, .d (iv s1.2.2))]) (a0, a1, 0) [0, 1, 2, 10] (by kernel_rfl) hM ?_
  intro n4 next2 ih3 s1 hM
  refine tr_seq ?_
  refine tr_sr hT hm [] [0, 1, 2, 10, 18] [(0, .d (.rs 0 0 s1.1.length)), (1, .r (.arr 4 (s1.1.flatMap eXChange.o) [])), (2, .d (iv s1.2.1)), (10, .d (iv s1.2.2)), (18, .d (bv (decide (s1.2.2 < (s1.1.length : Int)))))] .nil (by kernel_rfl) (by kernel_rfl) ?_
  rcases Bool.eq_false_or_eq_true (decide (s1.2.2 < (s1.1.length : Int))) with h5 | h5
  · have hM := ite_true' hM h5
    refine tr_condTe (e := decide (s1.2.2 < (s1.1.length : Int))) h5 (by kernel_rfl) ?_
    refine tr_skip (q_n ?_)
    refine tr_seq ?_
    refine tr_block ?_
    obtain ⟨y6, hy6, hM⟩ := bind_some' hM
    have hy6' := idx_some hy6
    refine tr_sr hT hm [] [0, 1, 2, 10] [(0, .d (.rs 0 0 s1.1.length)), (1, .r (.arr 4 ((s1.1.flatMap eXChange.o).take (0 + s1.2.2.toNat * 4) ++ [iv s1.2.1] ++ (s1.1.flatMap eXChange.o).drop (0 + s1.2.2.toNat * 4 + 1)) [])), (2, .d (iv s1.2.1)), (10, .d (iv s1.2.2))] (.cons hy6'.1 (.cons hy6'.2.1 (.cons (store_le_f (j := 0) (n := 1) eXChange_ok hy6'.2.2 (by kernel_rfl)) .nil))) (by kernel_rfl) (by kernel_rfl) ?_
    refine Tr.by (imp_cvE (r := 0) (sz := 4) (refs := []) (set_fldE (j := 0) (v := iv s1.2.1) (y := (⟨s1.2.1, y6.First, y6.Second, y6.Third⟩ : XChange)) eXChange_ok hy6'.2.2 (by kernel_rfl) (by kernel_rfl)) (menO_flat eXChange_ok _) (by kernel_rfl)) ?_
    refine Tr.by (imp_cvD (k := 0) (congrArg (D.rs 0 0) (List.length_set.symm : s1.1.length = (s1.1.set s1.2.2.toNat (⟨s1.2.1, y6.First, y6.Second, y6.Third⟩ : XChange)).length)) (by kernel_rfl)) ?_
    refine tr_sr hT hm [] [0, 1, 2, 10] [(0, .d (.rs 0 0 ((s1.1.set s1.2.2.toNat (⟨s1.2.1, y6.First, y6.Second, y6.Third⟩ : XChange)).length))), (1, .r (.arr 4 ((s1.1.set s1.2.2.toNat (⟨s1.2.1, y6.First, y6.Second, y6.Third⟩ : XChange)).flatMap eXChange.o) [])), (2, .d (iv (IntKind.i64.wrap (s1.2.1 + 1)))), (10, .d (iv s1.2.2))] .nil (by kernel_rfl) (by kernel_rfl) ?_
    obtain ⟨y7, hy7, hM⟩ := bind_some' hM
    have hy7' := idx_some hy7
    refine tr_sr hT hm [] [0, 1, 2, 10] [(0, .d (.rs 0 0 ((s1.1.set s1.2.2.toNat (⟨s1.2.1, y6.First, y6.Second, y6.Third⟩ : XChange)).length))), (1, .r (.arr 4 (((s1.1.set s1.2.2.toNat (⟨s1.2.1, y6.First, y6.Second, y6.Third⟩ : XChange)).flatMap eXChange.o).take (0 + s1.2.2.toNat * 4 + 1) ++ [iv (IntKind.i64.wrap (s1.2.1 + 1))] ++ ((s1.1.set s1.2.2.toNat (⟨s1.2.1, y6.First, y6.Second, y6.Third⟩ : XChange)).flatMap eXChange.o).drop (0 + s1.2.2.toNat * 4 + 1 + 1)) [])), (2, .d (iv (IntKind.i64.wrap (s1.2.1 + 1)))), (10, .d (iv s1.2.2))] (.cons hy7'.1 (.cons hy7'.2.1 (.cons (store_le_f (j := 1) (n := 1) eXChange_ok hy7'.2.2 (by kernel_rfl)) .nil))) (by kernel_rfl) (by kernel_rfl) ?_
    refine Tr.by (imp_cvE (r := 0) (sz := 4) (refs := []) (set_fldE (j := 1) (v := iv (IntKind.i64.wrap (s1.2.1 + 1))) (y := (⟨y7.Kind, IntKind.i64.wrap (s1.2.1 + 1), y7.Second, y7.Third⟩ : XChange)) eXChange_ok hy7'.2.2 (by kernel_rfl) (by kernel_rfl)) (menO_flat eXChange_ok _) (by kernel_rfl)) ?_
    refine Tr.by (imp_cvD (k := 0) (congrArg (D.rs 0 0) (List.length_set.symm : (s1.1.set s1.2.2.toNat (⟨s1.2.1, y6.First, y6.Second, y6.Third⟩ : XChange)).length = ((s1.1.set s1.2.2.toNat (⟨s1.2.1, y6.First, y6.Second, y6.Third⟩ : XChange)).set s1.2.2.toNat (⟨y7.Kind, IntKind.i64.wrap (s1.2.1 + 1), y7.Second, y7.Third⟩ : XChange)).length)) (by kernel_rfl)) ?_
    refine tr_sr hT hm [] [0, 1, 2, 10] [(0, .d (.rs 0 0 (((s1.1.set s1.2.2.toNat (⟨s1.2.1, y6.First, y6.Second, y6.Third⟩ : XChange)).set s1.2.2.toNat (⟨y7.Kind, IntKind.i64.wrap (s1.2.1 + 1), y7.Second, y7.Third⟩ : XChange)).length))), (1, .r (.arr 4 (((s1.1.set s1.2.2.toNat (⟨s1.2.1, y6.First, y6.Second, y6.Third⟩ : XChange)).set s1.2.2.toNat (⟨y7.Kind, IntKind.i64.wrap (s1.2.1 + 1), y7.Second, y7.Third⟩ : XChange)).flatMap eXChange.o) [])), (2, .d (iv (IntKind.i64.wrap ((IntKind.i64.wrap (s1.2.1 + 1)) + 1)))), (10, .d (iv s1.2.2))] .nil (by kernel_rfl) (by kernel_rfl) ?_
    obtain ⟨y8, hy8, hM⟩ := bind_some' hM
    have hy8' := idx_some hy8
    refine tr_sr hT hm [] [0, 1, 2, 10] [(0, .d (.rs 0 0 (((s1.1.set s1.2.2.toNat (⟨s1.2.1, y6.First, y6.Second, y6.Third⟩ : XChange)).set s1.2.2.toNat (⟨y7.Kind, IntKind.i64.wrap (s1.2.1 + 1), y7.Second, y7.Third⟩ : XChange)).length))), (1, .r (.arr 4 ((((s1.1.set s1.2.2.toNat (⟨s1.2.1, y6.First, y6.Second, y6.Third⟩ : XChange)).set s1.2.2.toNat (⟨y7.Kind, IntKind.i64.wrap (s1.2.1 + 1), y7.Second, y7.Third⟩ : XChange)).flatMap eXChange.o).take (0 + s1.2.2.toNat * 4 + 2) ++ [iv (IntKind.i64.wrap ((IntKind.i64.wrap (s1.2.1 + 1)) + 1))] ++ (((s1.1.set s1.2.2.toNat (⟨s1.2.1, y6.First, y6.Second, y6.Third⟩ : XChange)).set s1.2.2.toNat (⟨y7.Kind, IntKind.i64.wrap (s1.2.1 + 1), y7.Second, y7.Third⟩ : XChange)).flatMap eXChange.o).drop (0 + s1.2.2.toNat * 4 + 2 + 1)) [])), (2, .d (iv (IntKind.i64.wrap ((IntKind.i64.wrap (s1.2.1 + 1)) + 1)))), (10, .d (iv s1.2.2))] (.cons hy8'.1 (.cons hy8'.2.1 (.cons (store_le_f (j := 2) (n := 1) eXChange_ok hy8'.2.2 (by kernel_rfl)) .nil))) (by kernel_rfl) (by kernel_rfl) ?_
    refine Tr.by (imp_cvE (r := 0) (sz := 4) (refs := []) (set_fldE (j := 2) (v := iv (IntKind.i64.wrap ((IntKind.i64.wrap (s1.2.1 + 1)) + 1))) (y := (⟨y8.Kind, y8.First, IntKind.i64.wrap ((IntKind.i64.wrap (s1.2.1 + 1)) + 1), y8.Third⟩ : XChange)) eXChange_ok hy8'.2.2 (by kernel_rfl) (by kernel_rfl)) (menO_flat eXChange_ok _) (by kernel_rfl)) ?_
    refine Tr.by (imp_cvD (k := 0) (congrArg (D.rs 0 0) (List.length_set.symm : ((s1.1.set s1.2.2.toNat (⟨s1.2.1, y6.First, y6.Second, y6.Third⟩ : XChange)).set s1.2.2.toNat (⟨y7.Kind, IntKind.i64.wrap (s1.2.1 + 1), y7.Second, y7.Third⟩ : XChange)).length = (((s1.1.set s1.2.2.toNat (⟨s1.2.1, y6.First, y6.Second, y6.Third⟩ : XChange)).set s1.2.2.toNat (⟨y7.Kind, IntKind.i64.wrap (s1.2.1 + 1), y7.Second, y7.Third⟩ : XChange)).set s1.2.2.toNat (⟨y8.Kind, y8.First, IntKind.i64.wrap ((IntKind.i64.wrap (s1.2.1 + 1)) + 1), y8.Third⟩ : XChange)).length)) (by kernel_rfl)) ?_
    refine tr_sr hT hm [] [0, 1, 2, 10] [(0, .d (.rs 0 0 ((((s1.1.set s1.2.2.toNat (⟨s1.2.1, y6.First, y6.Second, y6.Third⟩ : XChange)).set s1.2.2.toNat (⟨y7.Kind, IntKind.i64.wrap (s1.2.1 + 1), y7.Second, y7.Third⟩ : XChange)).set s1.2.2.toNat (⟨y8.Kind, y8.First, IntKind.i64.wrap ((IntKind.i64.wrap (s1.2.1 + 1)) + 1), y8.Third⟩ : XChange)).length))), (1, .r (.arr 4 ((((s1.1.set s1.2.2.toNat (⟨s1.2.1, y6.First, y6.Second, y6.Third⟩ : XChange)).set s1.2.2.toNat (⟨y7.Kind, IntKind.i64.wrap (s1.2.1 + 1), y7.Second, y7.Third⟩ : XChange)).set s1.2.2.toNat (⟨y8.Kind, y8.First, IntKind.i64.wrap ((IntKind.i64.wrap (s1.2.1 + 1)) + 1), y8.Third⟩ : XChange)).flatMap eXChange.o) [])), (2, .d (iv (IntKind.i64.wrap ((IntKind.i64.wrap ((IntKind.i64.wrap (s1.2.1 + 1)) + 1)) + 1)))), (10, .d (iv s1.2.2))] .nil (by kernel_rfl) (by kernel_rfl) ?_
    obtain ⟨y9, hy9, hM⟩ := bind_some' hM
    have hy9' := idx_some hy9
    refine tr_sr hT hm [] [0, 1, 2, 10] [(0, .d (.rs 0 0 ((((s1.1.set s1.2.2.toNat (⟨s1.2.1, y6.First, y6.Second, y6.Third⟩ : XChange)).set s1.2.2.toNat (⟨y7.Kind, IntKind.i64.wrap (s1.2.1 + 1), y7.Second, y7.Third⟩ : XChange)).set s1.2.2.toNat (⟨y8.Kind, y8.First, IntKind.i64.wrap ((IntKind.i64.wrap (s1.2.1 + 1)) + 1), y8.Third⟩ : XChange)).length))), (1, .r (.arr 4 (((((s1.1.set s1.2.2.toNat (⟨s1.2.1, y6.First, y6.Second, y6.Third⟩ : XChange)).set s1.2.2.toNat (⟨y7.Kind, IntKind.i64.wrap (s1.2.1 + 1), y7.Second, y7.Third⟩ : XChange)).set s1.2.2.toNat (⟨y8.Kind, y8.First, IntKind.i64.wrap ((IntKind.i64.wrap (s1.2.1 + 1)) + 1), y8.Third⟩ : XChange)).flatMap eXChange.o).take (0 + s1.2.2.toNat * 4 + 3) ++ [iv (IntKind.i64.wrap ((IntKind.i64.wrap ((IntKind.i64.wrap (s1.2.1 + 1)) + 1)) + 1))] ++ ((((s1.1.set s1.2.2.toNat (⟨s1.2.1, y6.First, y6.Second, y6.Third⟩ : XChange)).set s1.2.2.toNat (⟨y7.Kind, IntKind.i64.wrap (s1.2.1 + 1), y7.Second, y7.Third⟩ : XChange)).set s1.2.2.toNat (⟨y8.Kind, y8.First, IntKind.i64.wrap ((IntKind.i64.wrap (s1.2.1 + 1)) + 1), y8.Third⟩ : XChange)).flatMap eXChange.o).drop (0 + s1.2.2.toNat * 4 + 3 + 1)) [])), (2, .d (iv (IntKind.i64.wrap ((IntKind.i64.wrap ((IntKind.i64.wrap (s1.2.1 + 1)) + 1)) + 1)))), (10, .d (iv s1.2.2))] (.cons hy9'.1 (.cons hy9'.2.1 (.cons (store_le_f (j := 3) (n := 1) eXChange_ok hy9'.2.2 (by kernel_rfl)) .nil))) (by kernel_rfl) (by kernel_rfl) ?_
    refine Tr.by (imp_cvE (r := 0) (sz := 4) (refs := []) (set_fldE (j := 3) (v := iv (IntKind.i64.wrap ((IntKind.i64.wrap ((IntKind.i64.wrap (s1.2.1 + 1)) + 1)) + 1))) (y := (⟨y9.Kind, y9.First, y9.Second, IntKind.i64.wrap ((IntKind.i64.wrap ((IntKind.i64.wrap (s1.2.1 + 1)) + 1)) + 1)⟩ : XChange)) eXChange_ok hy9'.2.2 (by kernel_rfl) (by kernel_rfl)) (menO_flat eXChange_ok _) (by kernel_rfl)) ?_
    refine Tr.by (imp_cvD (k := 0) (congrArg (D.rs 0 0) (List.length_set.symm : (((s1.1.set s1.2.2.toNat (⟨s1.2.1, y6.First, y6.Second, y6.Third⟩ : XChange)).set s1.2.2.toNat (⟨y7.Kind, IntKind.i64.wrap (s1.2.1 + 1), y7.Second, y7.Third⟩ : XChange)).set s1.2.2.toNat (⟨y8.Kind, y8.First, IntKind.i64.wrap ((IntKind.i64.wrap (s1.2.1 + 1)) + 1), y8.Third⟩ : XChange)).length = ((((s1.1.set s1.2.2.toNat (⟨s1.2.1, y6.First, y6.Second, y6.Third⟩ : XChange)).set s1.2.2.toNat (⟨y7.Kind, IntKind.i64.wrap (s1.2.1 + 1), y7.Second, y7.Third⟩ : XChange)).set s1.2.2.toNat (⟨y8.Kind, y8.First, IntKind.i64.wrap ((IntKind.i64.wrap (s1.2.1 + 1)) + 1), y8.Third⟩ : XChange)).set s1.2.2.toNat (⟨y9.Kind, y9.First, y9.Second, IntKind.i64.wrap ((IntKind.i64.wrap ((IntKind.i64.wrap (s1.2.1 + 1)) + 1)) + 1)⟩ : XChange)).length)) (by kernel_rfl)) ?_
    refine tr_r hT hm [] [0, 1, 2, 10] [(0, .d (.rs 0 0 (((((s1.1.set s1.2.2.toNat (⟨s1.2.1, y6.First, y6.Second, y6.Third⟩ : XChange)).set s1.2.2.toNat (⟨y7.Kind, IntKind.i64.wrap (s1.2.1 + 1), y7.Second, y7.Third⟩ : XChange)).set s1.2.2.toNat (⟨y8.Kind, y8.First, IntKind.i64.wrap ((IntKind.i64.wrap (s1.2.1 + 1)) + 1), y8.Third⟩ : XChange)).set s1.2.2.toNat (⟨y9.Kind, y9.First, y9.Second, IntKind.i64.wrap ((IntKind.i64.wrap ((IntKind.i64.wrap (s1.2.1 + 1)) + 1)) + 1)⟩ : XChange)).length))), (1, .r (.arr 4 (((((s1.1.set s1.2.2.toNat (⟨s1.2.1, y6.First, y6.Second, y6.Third⟩ : XChange)).set s1.2.2.toNat (⟨y7.Kind, IntKind.i64.wrap (s1.2.1 + 1), y7.Second, y7.Third⟩ : XChange)).set s1.2.2.toNat (⟨y8.Kind, y8.First, IntKind.i64.wrap ((IntKind.i64.wrap (s1.2.1 + 1)) + 1), y8.Third⟩ : XChange)).set s1.2.2.toNat (⟨y9.Kind, y9.First, y9.Second, IntKind.i64.wrap ((IntKind.i64.wrap ((IntKind.i64.wrap (s1.2.1 + 1)) + 1)) + 1)⟩ : XChange)).flatMap eXChange.o) [])), (2, .d (iv (IntKind.i64.wrap ((IntKind.i64.wrap ((IntKind.i64.wrap ((IntKind.i64.wrap (s1.2.1 + 1)) + 1)) + 1)) + 1)))), (10, .d (iv s1.2.2))] .nil (by kernel_rfl) (by kernel_rfl) (b_n (q_n ?_))
    refine tr_r hT hm [] [0, 1, 2, 10] [(0, .d (.rs 0 0 (((((s1.1.set s1.2.2.toNat (⟨s1.2.1, y6.First, y6.Second, y6.Third⟩ : XChange)).set s1.2.2.toNat (⟨y7.Kind, IntKind.i64.wrap (s1.2.1 + 1), y7.Second, y7.Third⟩ : XChange)).set s1.2.2.toNat (⟨y8.Kind, y8.First, IntKind.i64.wrap ((IntKind.i64.wrap (s1.2.1 + 1)) + 1), y8.Third⟩ : XChange)).set s1.2.2.toNat (⟨y9.Kind, y9.First, y9.Second, IntKind.i64.wrap ((IntKind.i64.wrap ((IntKind.i64.wrap (s1.2.1 + 1)) + 1)) + 1)⟩ : XChange)).length))), (1, .r (.arr 4 (((((s1.1.set s1.2.2.toNat (⟨s1.2.1, y6.First, y6.Second, y6.Third⟩ : XChange)).set s1.2.2.toNat (⟨y7.Kind, IntKind.i64.wrap (s1.2.1 + 1), y7.Second, y7.Third⟩ : XChange)).set s1.2.2.toNat (⟨y8.Kind, y8.First, IntKind.i64.wrap ((IntKind.i64.wrap (s1.2.1 + 1)) + 1), y8.Third⟩ : XChange)).set s1.2.2.toNat (⟨y9.Kind, y9.First, y9.Second, IntKind.i64.wrap ((IntKind.i64.wrap ((IntKind.i64.wrap (s1.2.1 + 1)) + 1)) + 1)⟩ : XChange)).flatMap eXChange.o) [])), (2, .d (iv (IntKind.i64.wrap ((IntKind.i64.wrap ((IntKind.i64.wrap ((IntKind.i64.wrap (s1.2.1 + 1)) + 1)) + 1)) + 1)))), (10, .d (iv (IntKind.i64.wrap (s1.2.2 + 1))))] .nil (by kernel_rfl) (by kernel_rfl) (l_n ?_)
    exact trl_start (ks := [0, 1, 2, 10]) (by kernel_rfl) (ih3 ((((s1.1.set s1.2.2.toNat (⟨s1.2.1, y6.First, y6.Second, y6.Third⟩ : XChange)).set s1.2.2.toNat (⟨y7.Kind, IntKind.i64.wrap (s1.2.1 + 1), y7.Second, y7.Third⟩ : XChange)).set s1.2.2.toNat (⟨y8.Kind, y8.First, IntKind.i64.wrap ((IntKind.i64.wrap (s1.2.1 + 1)) + 1), y8.Third⟩ : XChange)).set s1.2.2.toNat (⟨y9.Kind, y9.First, y9.Second, IntKind.i64.wrap ((IntKind.i64.wrap ((IntKind.i64.wrap (s1.2.1 + 1)) + 1)) + 1)⟩ : XChange), IntKind.i64.wrap ((IntKind.i64.wrap ((IntKind.i64.wrap ((IntKind.i64.wrap (s1.2.1 + 1)) + 1)) + 1)) + 1), IntKind.i64.wrap (s1.2.2 + 1)) hM)
  · have hM := ite_false' hM h5
    refine tr_condFe (e := decide (s1.2.2 < (s1.1.length : Int))) h5 (by kernel_rfl) ?_
    refine tr_exit (q_x (l_x (b_h (q_n ?_))))
    refine tr_sr hT hm [] [1, 8] [(1, .r (.arr 4 (s1.1.flatMap eXChange.o) [])), (8, .d (iv s1.2.1))] .nil (by kernel_rfl) (by kernel_rfl) ?_
    refine tr_ret (rg_r ?_)
    obtain rfl := Option.some.inj hM
    exact retg (names := [0]) .nil (by kernel_rfl)

theorem ok86 : CallOk Try.prog 86 := callOk_of Try.func86 (by kernel_rfl) (by kernel_rfl)
theorem spec_l36Data_c (a0 : XSchema) (a1 : List Int) (a2 : List (List Int)) (r : Bool) (hM : M.spec_l36Data a0 a1 a2 = some r) :
    FnC Try.prog 86 [] [.agg (eXSchema.b a0), .sl a1.length 0 (a1.flatMap eI.b), .sl a2.length 0 (a2.flatMap (eS eI).b)] [] (bv r) := by
  refine fnc_startG (N := 62) (np := 500) hT Try.func86 rfl rfl (by kernel_rfl) ?_
  unfold M.spec_l36Data at hM
  refine tr_start (ks := [0, 2, 4]) (st' := [(0, .d (.agg (eXSchema.b a0))), (2, .d (.sl a1.length 0 (a1.flatMap eI.b))), (4, .d (.sl a2.length 0 (a2.flatMap (eS eI).b)))]) (by kernel_rfl) ?_
  refine tr_sr hT hm [] [2, 4, 6, 2007] [(2, .d (.sl a1.length 0 (a1.flatMap eI.b))), (4, .d (.sl a2.length 0 (a2.flatMap (eS eI).b))), (6, .d (.rp 1003 0)), bxB 2007 (eXSchema.b a0)] .nil (by kernel_rfl) (by kernel_rfl) ?_
  refine tr_seq ?_
  rcases Bool.eq_false_or_eq_true ((a1.length : Int) != a0.Nodes) with h1 | h1
  · have hM := ite_true' hM h1
    refine tr_sr hT hm [(5, .val (bv true))] [2, 4, 6, 50, 2007] [(2, .d (.sl a1.length 0 (a1.flatMap eI.b))), (4, .d (.sl a2.length 0 (a2.flatMap (eS eI).b))), (6, .d (.rp 1003 0)), (50, .d (bv true)), bxB 2007 (eXSchema.b a0)] (.cons (congrArg (fun b => bv b) h1) .nil) (by kernel_rfl) (by kernel_rfl) ?_
    refine tr_condT (by kernel_rfl) ?_
    refine tr_sr hT hm [] [12] [(12, .d (bv false))] .nil (by kernel_rfl) (by kernel_rfl) ?_
    refine tr_ret (q_r (rg_r ?_))
    obtain rfl := Option.some.inj hM
    exact retg (names := []) .nil (by kernel_rfl)
  · have hM := ite_false' hM h1
    rcases Bool.eq_false_or_eq_true ((a2.length : Int) != (a0.From.length : Int)) with h2 | h2
    · have hM := ite_true' hM h2
      refine tr_sr hT hm [(5, .val (bv false)), (13, .val (bv true))] [2, 4, 6, 50, 2007] [(2, .d (.sl a1.length 0 (a1.flatMap eI.b))), (4, .d (.sl a2.length 0 (a2.flatMap (eS eI).b))), (6, .d (.rp 1003 0)), (50, .d (bv true)), bxB 2007 (eXSchema.b a0)] (.cons (congrArg (fun b => bv b) h1) (.cons (congrArg (fun b => bv b) h2) .nil)) (by kernel_rfl) (by kernel_rfl) ?_
      refine tr_condT (by kernel_rfl) ?_
      refine tr_sr hT hm [] [12] [(12, .d (bv false))] .nil (by kernel_rfl) (by kernel_rfl) ?_
      refine tr_ret (q_r (rg_r ?_))
      obtain rfl := Option.some.inj hM
      exact retg (names := []) .nil (by kernel_rfl)
    · have hM := ite_false' hM h2
      obtain ⟨v3, hv3, hM⟩ := bind_some' hM
      refine tr_sr hT hm [(5, .val (bv false)), (13, .val (bv false)), (15, .call [] [] [iv 17, .sl a1.length 0 (a1.flatMap eI.b)] [] (bv v3))] [2, 4, 6, 50, 2007] [(2, .d (.sl a1.length 0 (a1.flatMap eI.b))), (4, .d (.sl a2.length 0 (a2.flatMap (eS eI).b))), (6, .d (.rp 1003 0)), (50, .d (bv (!v3))), bxB 2007 (eXSchema.b a0)] (.cons (congrArg (fun b => bv b) h1) (.cons (congrArg (fun b => bv b) h2) (cc0 ok154 (spec_l01Map_c 17 a1 _ hv3) (by kernel_rfl) .nil))) (by kernel_rfl) (by kernel_rfl) ?_
      rcases Bool.eq_false_or_eq_true v3 with h4 | h4
      · have hM := ite_true' hM h4
        refine tr_condFe (e := !v3) (congrArg not h4) (by kernel_rfl) ?_
        refine tr_skip (q_n ?_)
        refine tr_seq ?_
        refine tr_sr hT hm [] [2, 4, 6, 14, 2007] [(2, .d (.sl a1.length 0 (a1.flatMap eI.b))), (4, .d (.sl a2.length 0 (a2.flatMap (eS eI).b))), (6, .d (.rp 1003 0)), (14, .d (iv 0)), bxB 2007 (eXSchema.b a0)] .nil (by kernel_rfl) (by kernel_rfl) ?_
        refine tr_block ?_
        refine tr_iterS (fun (s5 : Int) => [(2, .d (.sl a1.length 0 (a1.flatMap eI.b))), (4, .d (.sl a2.length 0 (a2.flatMap (eS eI).b))), (6, .d (.rp 1003 0)), (14, .d (iv s5)), bxB 2007 (eXSchema.b a0)]) 0 [2, 4, 6, 14, 2007] (by kernel_rfl) hM ?_
        intro n8 next6 ih7 s5 hM
        refine tr_seq ?_
        refine tr_sr hT hm [] [2, 4, 6, 14, 58, 2007] [(2, .d (.sl a1.length 0 (a1.flatMap eI.b))), (4, .d (.sl a2.length 0 (a2.flatMap (eS eI).b))), (6, .d (.rp 1003 0)), (14, .d (iv s5)), (58, .d (bv (decide (s5 < (a2.length : Int))))), bxB 2007 (eXSchema.b a0)] .nil (by kernel_rfl) (by kernel_rfl) ?_
        rcases Bool.eq_false_or_eq_true (decide (s5 < (a2.length : Int))) with h9 | h9
        · have hM := ite_true' hM h9
          refine tr_condTe (e := decide (s5 < (a2.length : Int))) h9 (by kernel_rfl) ?_
          refine tr_skip (q_n ?_)
          refine tr_seq ?_
          refine tr_block ?_
          obtain ⟨y10, hy10, hM⟩ := bind_some' hM
          have hy10' := idx_some hy10
          obtain ⟨y11, hy11, hM⟩ := bind_some' hM
          have hy11' := idx_some hy11
          obtain ⟨y12, hy12, hM⟩ := bind_some' hM
          have hy12' := idx_some hy12
          rcases Bool.eq_false_or_eq_true ((y10.length : Int) != y12) with h13 | h13
          · have hM := ite_true' hM h13
            refine tr_sr hT hm [(3, .val (.sl y10.length 0 (y10.flatMap eI.b))), (10, .val (iv y11)), (12, .val (iv y12)), (14, .val (bv true))] [2, 4, 6, 14, 122, 2007] [(2, .d (.sl a1.length 0 (a1.flatMap eI.b))), (4, .d (.sl a2.length 0 (a2.flatMap (eS eI).b))), (6, .d (.rp 1003 0)), (14, .d (iv s5)), (122, .d (bv true)), bxB 2007 (eXSchema.b a0)] (.cons hy10'.1 (.cons hy10'.2.1 (.cons (at_b0 (eS_ok eI_ok) hy10'.2.2 (d := .sl y10.length 0 (y10.flatMap eI.b)) (by kernel_rfl)) (.cons hy11'.1 (.cons hy11'.2.1 (.cons (at_b0 eI_ok hy11'.2.2 (d := iv y11) (by kernel_rfl)) (.cons hy12'.1 (.cons hy12'.2.1 (.cons (at_b0 eI_ok hy12'.2.2 (d := iv y12) (by kernel_rfl)) (.cons (congrArg (fun b => bv b) h13) .nil)))))))))) (by kernel_rfl) (by kernel_rfl) ?_
            refine tr_condT (by kernel_rfl) ?_
            refine tr_sr hT hm [] [12] [(12, .d (bv false))] .nil (by kernel_rfl) (by kernel_rfl) ?_
            refine tr_ret (b_r (q_r (l_r (b_r (q_r (rg_r ?_))))))
            obtain rfl := Option.some.inj hM
            exact retg (names := []) .nil (by kernel_rfl)
          · have hM := ite_false' hM h13
            obtain ⟨y14, hy14, hM⟩ := bind_some' hM
            have hy14' := idx_some hy14
            obtain ⟨y15, hy15, hM⟩ := bind_some' hM
            have hy15' := idx_some hy15
            obtain ⟨v16, hv16, hM⟩ := bind_some' hM
            refine tr_sr hT hm [(3, .val (.sl y10.length 0 (y10.flatMap eI.b))), (10, .val (iv y11)), (12, .val (iv y12)), (14, .val (bv false)), (20, .val (iv y14)), (22, .val (iv y15)), (26, .val (.sl y10.length 0 (y10.flatMap eI.b))), (27, .call [] [] [iv y15, .sl y10.length 0 (y10.flatMap eI.b)] [] (bv v16))] [2, 4, 6, 14, 122, 2007] [(2, .d (.sl a1.length 0 (a1.flatMap eI.b))), (4, .d (.sl a2.length 0 (a2.flatMap (eS eI).b))), (6, .d (.rp 1003 0)), (14, .d (iv s5)), (122, .d (bv (!v16))), bxB 2007 (eXSchema.b a0)] (.cons hy10'.1 (.cons hy10'.2.1 (.cons (at_b0 (eS_ok eI_ok) hy10'.2.2 (d := .sl y10.length 0 (y10.flatMap eI.b)) (by kernel_rfl)) (.cons hy11'.1 (.cons hy11'.2.1 (.cons (at_b0 eI_ok hy11'.2.2 (d := iv y11) (by kernel_rfl)) (.cons hy12'.1 (.cons hy12'.2.1 (.cons (at_b0 eI_ok hy12'.2.2 (d := iv y12) (by kernel_rfl)) (.cons (congrArg (fun b => bv b) h13) (.cons hy14'.1 (.cons hy14'.2.1 (.cons (at_b0 eI_ok hy14'.2.2 (d := iv y14) (by kernel_rfl)) (.cons hy15'.1 (.cons hy15'.2.1 (.cons (at_b0 eI_ok hy15'.2.2 (d := iv y15) (by kernel_rfl)) (.cons hy10'.1 (.cons hy10'.2.1 (.cons (at_b0 (eS_ok eI_ok) hy10'.2.2 (d := .sl y10.length 0 (y10.flatMap eI.b)) (by kernel_rfl)) (cc0 ok154 (spec_l01Map_c y15 y10 _ hv16) (by kernel_rfl) .nil)))))))))))))))))))) (by kernel_rfl) (by kernel_rfl) ?_
            rcases Bool.eq_false_or_eq_true v16 with h17 | h17
            · have hM := ite_true' hM h17
              refine tr_condFe (e := !v16) (congrArg not h17) (by kernel_rfl) ?_
              refine tr_skip (b_n (q_n ?_))
              refine tr_r hT hm [] [2, 4, 6, 14, 2007] [(2, .d (.sl a1.length 0 (a1.flatMap eI.b))), (4, .d (.sl a2.length 0 (a2.flatMap (eS eI).b))), (6, .d (.rp 1003 0)), (14, .d (iv (IntKind.i64.wrap (s5 + 1)))), bxB 2007 (eXSchema.b a0)] .nil (by kernel_rfl) (by kernel_rfl) (l_n ?_)
              exact trl_start (ks := [2, 4, 6, 14, 2007]) (by kernel_rfl) (ih7 (IntKind.i64.wrap (s5 + 1)) hM)
            · have hM := ite_false' hM h17
              refine tr_condTe (e := !v16) (congrArg not h17) (by kernel_rfl) ?_
              refine tr_sr hT hm [] [12] [(12, .d (bv false))] .nil (by kernel_rfl) (by kernel_rfl) ?_
              refine tr_ret (b_r (q_r (l_r (b_r (q_r (rg_r ?_))))))
              obtain rfl := Option.some.inj hM
              exact retg (names := []) .nil (by kernel_rfl)
        · have hM := ite_false' hM h9
          refine tr_condFe (e := decide (s5 < (a2.length : Int))) h9 (by kernel_rfl) ?_
          refine tr_exit (q_x (l_x (b_h (q_n ?_))))
          refine tr_sr hT hm [] [12] [(12, .d (bv true))] .nil (by kernel_rfl) (by kernel_rfl) ?_
          refine tr_ret (rg_r ?_)
          obtain rfl := Option.some.inj hM
          exact retg (names := []) .nil (by kernel_rfl)
      · have hM := ite_false' hM h4
        refine tr_condTe (e := !v3) (congrArg not h4) (by kernel_rfl) ?_
        refine tr_sr hT hm [] [12] [(12, .d (bv false))] .nil (by kernel_rfl) (by kernel_rfl) ?_
        refine tr_ret (q_r (rg_r ?_))
        obtain rfl := Option.some.inj hM
        exact retg (names := []) .nil (by kernel_rfl)

theorem ok250 : CallOk Try.prog 250 := callOk_of Try.func250 (by kernel_rfl) (by kernel_rfl)
theorem spec_l36Walk_c (a0 : List (List Int)) (a1 : List Int) (a2 : Int) (r : Int) (hM : M.spec_l36Walk a0 a1 a2 = some r) :
    FnC Try.prog 250 [] [.sl a0.length 0 (a0.flatMap (eS eI).b), .sl a1.length 0 (a1.flatMap eI.b), iv a2] [] (iv r) := by
  refine fnc_startG (N := 25) (np := 500) hT Try.func250 rfl rfl (by kernel_rfl) ?_
  unfold M.spec_l36Walk at hM
  refine tr_start (ks := [0, 2, 4]) (st' := [(0, .d (.sl a0.length 0 (a0.flatMap (eS eI).b))), (2, .d (.sl a1.length 0 (a1.flatMap eI.b))), (4, .d (iv a2))]) (by kernel_rfl) ?_
  refine tr_sr hT hm [] [0, 2, 4] [(0, .d (.sl a0.length 0 (a0.flatMap (eS eI).b))), (2, .d (.sl a1.length 0 (a1.flatMap eI.b))), (4, .d (iv a2))] .nil (by kernel_rfl) (by kernel_rfl) ?_
  refine tr_seq ?_
  refine tr_sr hT hm [] [0, 2, 4, 14] [(0, .d (.sl a0.length 0 (a0.flatMap (eS eI).b))), (2, .d (.sl a1.length 0 (a1.flatMap eI.b))), (4, .d (iv a2)), (14, .d (iv 0))] .nil (by kernel_rfl) (by kernel_rfl) ?_
  refine tr_block ?_
  refine tr_iterS (fun (s1 : Int × Int) => [(0, .d (.sl a0.length 0 (a0.flatMap (eS eI).b))), (2, .d (.sl a1.length 0 (a1.flatMap eI.b))), (4, .d (iv s1.1)), (14, .d (iv s1.2))]) (a2, 0) [0, 2, 4, 14] (by kernel_rfl) hM ?_
  intro n4 next2 ih3 s1 hM
  refine tr_seq ?_
  refine tr_sr hT hm [] [0, 2, 4, 14, 22] [(0, .d (.sl a0.length 0 (a0.flatMap (eS eI).b))), (2, .d (.sl a1.length 0 (a1.flatMap eI.b))), (4, .d (iv s1.1)), (14, .d (iv s1.2)), (22, .d (bv (decide (s1.2 < (a1.length : Int)))))] .nil (by kernel_rfl) (by kernel_rfl) ?_
  rcases Bool.eq_false_or_eq_true (decide (s1.2 < (a1.length : Int))) with h5 | h5
  · have hM := ite_true' hM h5
    refine tr_condTe (e := decide (s1.2 < (a1.length : Int))) h5 (by kernel_rfl) ?_
    refine tr_skip (q_n ?_)
    refine tr_seq ?_
    refine tr_block ?_
    obtain ⟨y6, hy6, hM⟩ := bind_some' hM
    have hy6' := idx_some hy6
    obtain ⟨y7, hy7, hM⟩ := bind_some' hM
    have hy7' := idx_some hy7
    obtain ⟨y8, hy8, hM⟩ := bind_some' hM
    have hy8' := idx_some hy8
    refine tr_r hT hm [(4, .val (iv y6)), (6, .val (.sl y7.length 0 (y7.flatMap eI.b))), (9, .val (iv y8))] [0, 2, 4, 14] [(0, .d (.sl a0.length 0 (a0.flatMap (eS eI).b))), (2, .d (.sl a1.length 0 (a1.flatMap eI.b))), (4, .d (iv y8)), (14, .d (iv s1.2))] (.cons hy6'.1 (.cons hy6'.2.1 (.cons (at_b0 eI_ok hy6'.2.2 (d := iv y6) (by kernel_rfl)) (.cons hy7'.1 (.cons hy7'.2.1 (.cons (at_b0 (eS_ok eI_ok) hy7'.2.2 (d := .sl y7.length 0 (y7.flatMap eI.b)) (by kernel_rfl)) (.cons hy8'.1 (.cons hy8'.2.1 (.cons (at_b0 eI_ok hy8'.2.2 (d := iv y8) (by kernel_rfl)) .nil))))))))) (by kernel_rfl) (by kernel_rfl) (b_n (q_n ?_))
    refine tr_r hT hm [] [0, 2, 4, 14] [(0, .d (.sl a0.length 0 (a0.flatMap (eS eI).b))), (2, .d (.sl a1.length 0 (a1.flatMap eI.b))), (4, .d (iv y8)), (14, .d (iv (IntKind.i64.wrap (s1.2 + 1))))] .nil (by kernel_rfl) (by kernel_rfl) (l_n ?_)
    exact trl_start (ks := [0, 2, 4, 14]) (by kernel_rfl) (ih3 (y8, IntKind.i64.wrap (s1.2 + 1)) hM)
  · have hM := ite_false' hM h5
    refine tr_condFe (e := decide (s1.2 < (a1.length : Int))) h5 (by kernel_rfl) ?_
    refine tr_exit (q_x (l_x (b_h (q_n ?_))))
    refine tr_sr hT hm [] [12] [(12, .d (iv s1.1))] .nil (by kernel_rfl) (by kernel_rfl) ?_
    refine tr_ret (rg_r ?_)
    obtain rfl := Option.some.inj hM
    exact retg (names := []) .nil (by kernel_rfl)

theorem ok168 : CallOk Try.prog 168 := callOk_of Try.func168 (by kernel_rfl) (by kernel_rfl)
theorem spec_l36Broken_c (a0 : XSchema) (a1 : List Int) (a2 : List (List Int)) (r : Int × Int) (hM : M.spec_l36Broken a0 a1 a2 = some r) :
    FnC Try.prog 168 [] [.agg (eXSchema.b a0), .sl a1.length 0 (a1.flatMap eI.b), .sl a2.length 0 (a2.flatMap (eS eI).b)] [] (.tup [iv r.1, iv r.2]) := by
  refine fnc_startG (N := 51) (np := 500) hT Try.func168 rfl rfl (by kernel_rfl) ?_
  unfold M.spec_l36Broken at hM
  refine tr_start (ks := [0, 2, 4]) (st' := [(0, .d (.agg (eXSchema.b a0))), (2, .d (.sl a1.length 0 (a1.flatMap eI.b))), (4, .d (.sl a2.length 0 (a2.flatMap (eS eI).b)))]) (by kernel_rfl) ?_
  refine tr_sr hT hm [] [2, 4, 6, 2007] [(2, .d (.sl a1.length 0 (a1.flatMap eI.b))), (4, .d (.sl a2.length 0 (a2.flatMap (eS eI).b))), (6, .d (.rp 1003 0)), bxB 2007 (eXSchema.b a0)] .nil (by kernel_rfl) (by kernel_rfl) ?_
  refine tr_seq ?_
  refine tr_sr hT hm [] [2, 4, 6, 16, 2007] [(2, .d (.sl a1.length 0 (a1.flatMap eI.b))), (4, .d (.sl a2.length 0 (a2.flatMap (eS eI).b))), (6, .d (.rp 1003 0)), (16, .d (iv 0)), bxB 2007 (eXSchema.b a0)] .nil (by kernel_rfl) (by kernel_rfl) ?_
  refine tr_block ?_
  refine tr_iterS (fun (s1 : Int) => [(2, .d (.sl a1.length 0 (a1.flatMap eI.b))), (4, .d (.sl a2.length 0 (a2.flatMap (eS eI).b))), (6, .d (.rp 1003 0)), (16, .d (iv s1)), bxB 2007 (eXSchema.b a0)]) 0 [2, 4, 6, 16, 2007] (by kernel_rfl) hM ?_
  intro n4 next2 ih3 s1 hM
  refine tr_seq ?_
  refine tr_sr hT hm [] [2, 4, 6, 16, 28, 2007] [(2, .d (.sl a1.length 0 (a1.flatMap eI.b))), (4, .d (.sl a2.length 0 (a2.flatMap (eS eI).b))), (6, .d (.rp 1003 0)), (16, .d (iv s1)), (28, .d (bv (decide (s1 < (a0.Left.length : Int))))), bxB 2007 (eXSchema.b a0)] .nil (by kernel_rfl) (by kernel_rfl) ?_
  rcases Bool.eq_false_or_eq_true (decide (s1 < (a0.Left.length : Int))) with h5 | h5
  · have hM := ite_true' hM h5
    refine tr_condTe (e := decide (s1 < (a0.Left.length : Int))) h5 (by kernel_rfl) ?_
    refine tr_skip (q_n ?_)
    refine tr_seq ?_
    refine tr_block ?_
    refine tr_sr hT hm [] [2, 4, 6, 16, 18, 2007] [(2, .d (.sl a1.length 0 (a1.flatMap eI.b))), (4, .d (.sl a2.length 0 (a2.flatMap (eS eI).b))), (6, .d (.rp 1003 0)), (16, .d (iv s1)), (18, .d (iv 0)), bxB 2007 (eXSchema.b a0)] .nil (by kernel_rfl) (by kernel_rfl) ?_
    refine tr_block ?_
    refine tr_iterS (fun (s6 : Int) => [(2, .d (.sl a1.length 0 (a1.flatMap eI.b))), (4, .d (.sl a2.length 0 (a2.flatMap (eS eI).b))), (6, .d (.rp 1003 0)), (16, .d (iv s1)), (18, .d (iv s6)), bxB 2007 (eXSchema.b a0)]) 0 [2, 4, 6, 16, 18, 2007] (by kernel_rfl) hM ?_
    intro n9 next7 ih8 s6 hM
    refine tr_seq ?_
    obtain ⟨y10, hy10, hM⟩ := bind_some' hM
    have hy10' := idx_some hy10
    obtain ⟨y11, hy11, hM⟩ := bind_some' hM
    have hy11' := idx_some hy11
    refine tr_sr hT hm [(7, .val (iv y10.Start)), (9, .val (iv y11))] [2, 4, 6, 16, 18, 54, 2007] [(2, .d (.sl a1.length 0 (a1.flatMap eI.b))), (4, .d (.sl a2.length 0 (a2.flatMap (eS eI).b))), (6, .d (.rp 1003 0)), (16, .d (iv s1)), (18, .d (iv s6)), (54, .d (bv (decide (s6 < y11)))), bxB 2007 (eXSchema.b a0)] (.cons hy10'.1 (.cons hy10'.2.1 (.cons (at_b0 eXPath_ok hy10'.2.2 (d := iv y10.Start) (by kernel_rfl)) (.cons hy11'.1 (.cons hy11'.2.1 (.cons (at_b0 eI_ok hy11'.2.2 (d := iv y11) (by kernel_rfl)) .nil)))))) (by kernel_rfl) (by kernel_rfl) ?_
    rcases Bool.eq_false_or_eq_true (decide (s6 < y11)) with h12 | h12
    · have hM := ite_true' hM h12
      refine tr_condTe (e := decide (s6 < y11)) h12 (by kernel_rfl) ?_
      refine tr_skip (q_n ?_)
      refine tr_seq ?_
      refine tr_block ?_
      obtain ⟨v13, hv13, hM⟩ := bind_some' hM
      obtain ⟨y14, hy14, hM⟩ := bind_some' hM
      have hy14' := idx_some hy14
      obtain ⟨v15, hv15, hM⟩ := bind_some' hM
      refine tr_sr hT hm [(6, .val (.sl y10.Edges.length 0 (y10.Edges.flatMap eI.b))), (8, .call [] [] [.sl a2.length 0 (a2.flatMap (eS eI).b), .sl y10.Edges.length 0 (y10.Edges.flatMap eI.b), iv s6] [] (iv v13)), (15, .val (.sl y14.Edges.length 0 (y14.Edges.flatMap eI.b))), (17, .call [] [] [.sl a2.length 0 (a2.flatMap (eS eI).b), .sl y14.Edges.length 0 (y14.Edges.flatMap eI.b), iv s6] [] (iv v15))] [2, 4, 6, 16, 18, 96, 2007] [(2, .d (.sl a1.length 0 (a1.flatMap eI.b))), (4, .d (.sl a2.length 0 (a2.flatMap (eS eI).b))), (6, .d (.rp 1003 0)), (16, .d (iv s1)), (18, .d (iv s6)), (96, .d (bv (v13 != v15))), bxB 2007 (eXSchema.b a0)] (.cons hy10'.1 (.cons hy10'.2.1 (.cons (at_bj (j := 1) eXPath_ok hy10'.2.2 (d := .sl y10.Edges.length 0 (y10.Edges.flatMap eI.b)) (by kernel_rfl)) (cc0 ok250 (spec_l36Walk_c a2 y10.Edges s6 _ hv13) (by kernel_rfl) (.cons hy14'.1 (.cons hy14'.2.1 (.cons (at_bj (j := 1) eXPath_ok hy14'.2.2 (d := .sl y14.Edges.length 0 (y14.Edges.flatMap eI.b)) (by kernel_rfl)) (cc0 ok250 (spec_l36Walk_c a2 y14.Edges s6 _ hv15) (by kernel_rfl) .nil)))))))) (by kernel_rfl) (by kernel_rfl) ?_
      rcases Bool.eq_false_or_eq_true (v13 != v15) with h16 | h16
      · have hM := ite_true' hM h16
        refine tr_condTe (e := v13 != v15) h16 (by kernel_rfl) ?_
        refine tr_sr hT hm [] [12, 14] [(12, .d (iv s1)), (14, .d (iv s6))] .nil (by kernel_rfl) (by kernel_rfl) ?_
        refine tr_ret (b_r (q_r (l_r (b_r (b_r (q_r (l_r (b_r (q_r (rg_r ?_))))))))))
        obtain rfl := Option.some.inj hM
        exact retg (names := []) .nil (by kernel_rfl)
      · have hM := ite_false' hM h16
        refine tr_condFe (e := v13 != v15) h16 (by kernel_rfl) ?_
        refine tr_skip (b_n (q_n ?_))
        refine tr_r hT hm [] [2, 4, 6, 16, 18, 2007] [(2, .d (.sl a1.length 0 (a1.flatMap eI.b))), (4, .d (.sl a2.length 0 (a2.flatMap (eS eI).b))), (6, .d (.rp 1003 0)), (16, .d (iv s1)), (18, .d (iv (IntKind.i64.wrap (s6 + 1)))), bxB 2007 (eXSchema.b a0)] .nil (by kernel_rfl) (by kernel_rfl) (l_n ?_)
        exact trl_start (ks := [2, 4, 6, 16, 18, 2007]) (by kernel_rfl) (ih8 (IntKind.i64.wrap (s6 + 1)) hM)
    · have hM := ite_false' hM h12
      refine tr_condFe (e := decide (s6 < y11)) h12 (by kernel_rfl) ?_
      refine tr_exit (q_x (l_x (b_h (b_n (q_n ?_)))))
      refine tr_r hT hm [] [2, 4, 6, 16, 2007] [(2, .d (.sl a1.length 0 (a1.flatMap eI.b))), (4, .d (.sl a2.length 0 (a2.flatMap (eS eI).b))), (6, .d (.rp 1003 0)), (16, .d (iv (IntKind.i64.wrap (s1 + 1)))), bxB 2007 (eXSchema.b a0)] .nil (by kernel_rfl) (by kernel_rfl) (l_n ?_)
      exact trl_start (ks := [2, 4, 6, 16, 2007]) (by kernel_rfl) (ih3 (IntKind.i64.wrap (s1 + 1)) hM)
  · have hM := ite_false' hM h5
    refine tr_condFe (e := decide (s1 < (a0.Left.length : Int))) h5 (by kernel_rfl) ?_
    refine tr_exit (q_x (l_x (b_h (q_n ?_))))
    refine tr_sr hT hm [] [12, 14] [(12, .d (iv (-1))), (14, .d (iv 0))] .nil (by kernel_rfl) (by kernel_rfl) ?_
    refine tr_ret (rg_r ?_)
    obtain rfl := Option.some.inj hM
    exact retg (names := []) .nil (by kernel_rfl)

theorem ok89 : CallOk Try.prog 89 := callOk_of Try.func89 (by kernel_rfl) (by kernel_rfl)
theorem spec_l39Whole_c (a0 : XSchema) (a1 : Xl39Data) (r : Bool) (hM : M.spec_l39Whole a0 a1 = some r) :
    FnC Try.prog 89 [] [.agg (eXSchema.b a0), .agg (eXl39Data.b a1)] [] (bv r) := by
  refine fnc_startG (N := 32) (np := 500) hT Try.func89 rfl rfl (by kernel_rfl) ?_
  unfold M.spec_l39Whole at hM
  refine tr_start (ks := [0, 2]) (st' := [(0, .d (.agg (eXSchema.b a0))), (2, .d (.agg (eXl39Data.b a1)))]) (by kernel_rfl) ?_
  refine tr_sr hT hm [] [4, 6, 2005, 2007] [(4, .d (.rp 1002 0)), (6, .d (.rp 1003 0)), bxB 2005 (eXSchema.b a0), bxB 2007 (eXl39Data.b a1)] .nil (by kernel_rfl) (by kernel_rfl) ?_
  refine tr_seq ?_
  refine tr_sr hT hm [] [4, 6, 10, 2005, 2007] [(4, .d (.rp 1002 0)), (6, .d (.rp 1003 0)), (10, .d (iv 0)), bxB 2005 (eXSchema.b a0), bxB 2007 (eXl39Data.b a1)] .nil (by kernel_rfl) (by kernel_rfl) ?_
  refine tr_block ?_
  refine tr_iterS (fun (s1 : Int) => [(4, .d (.rp 1002 0)), (6, .d (.rp 1003 0)), (10, .d (iv s1)), bxB 2005 (eXSchema.b a0), bxB 2007 (eXl39Data.b a1)]) 0 [4, 6, 10, 2005, 2007] (by kernel_rfl) hM ?_
  intro n4 next2 ih3 s1 hM
  refine tr_seq ?_
  refine tr_sr hT hm [] [4, 6, 10, 24, 2005, 2007] [(4, .d (.rp 1002 0)), (6, .d (.rp 1003 0)), (10, .d (iv s1)), (24, .d (bv (decide (s1 < (a1.maps_.length : Int))))), bxB 2005 (eXSchema.b a0), bxB 2007 (eXl39Data.b a1)] .nil (by kernel_rfl) (by kernel_rfl) ?_
  rcases Bool.eq_false_or_eq_true (decide (s1 < (a1.maps_.length : Int))) with h5 | h5
  · have hM := ite_true' hM h5
    refine tr_condTe (e := decide (s1 < (a1.maps_.length : Int))) h5 (by kernel_rfl) ?_
    refine tr_skip (q_n ?_)
    refine tr_seq ?_
    refine tr_block ?_
    obtain ⟨y6, hy6, hM⟩ := bind_some' hM
    have hy6' := idx_some hy6
    obtain ⟨v7, hv7, hM⟩ := bind_some' hM
    refine tr_sr hT hm [(4, .val (.sl y6.length 0 (y6.flatMap eI.b))), (5, .call [] [] [.sl y6.length 0 (y6.flatMap eI.b), iv (-1)] [] (bv v7))] [4, 6, 10, 40, 2005, 2007] [(4, .d (.rp 1002 0)), (6, .d (.rp 1003 0)), (10, .d (iv s1)), (40, .d (bv v7)), bxB 2005 (eXSchema.b a0), bxB 2007 (eXl39Data.b a1)] (.cons hy6'.1 (.cons hy6'.2.1 (.cons (at_b0 (eS_ok eI_ok) hy6'.2.2 (d := .sl y6.length 0 (y6.flatMap eI.b)) (by kernel_rfl)) (cc0 ok101 (spec_l01Has_c y6 (-1) _ hv7) (by kernel_rfl) .nil)))) (by kernel_rfl) (by kernel_rfl) ?_
    rcases Bool.eq_false_or_eq_true v7 with h8 | h8
    · have hM := ite_true' hM h8
      refine tr_condTe (e := v7) h8 (by kernel_rfl) ?_
      refine tr_sr hT hm [] [8] [(8, .d (bv false))] .nil (by kernel_rfl) (by kernel_rfl) ?_
      refine tr_ret (b_r (q_r (l_r (b_r (q_r (rg_r ?_))))))
      obtain rfl := Option.some.inj hM
      exact retg (names := []) .nil (by kernel_rfl)
    · have hM := ite_false' hM h8
      refine tr_condFe (e := v7) h8 (by kernel_rfl) ?_
      refine tr_skip (b_n (q_n ?_))
      refine tr_r hT hm [] [4, 6, 10, 2005, 2007] [(4, .d (.rp 1002 0)), (6, .d (.rp 1003 0)), (10, .d (iv (IntKind.i64.wrap (s1 + 1)))), bxB 2005 (eXSchema.b a0), bxB 2007 (eXl39Data.b a1)] .nil (by kernel_rfl) (by kernel_rfl) (l_n ?_)
      exact trl_start (ks := [4, 6, 10, 2005, 2007]) (by kernel_rfl) (ih3 (IntKind.i64.wrap (s1 + 1)) hM)
  · have hM := ite_false' hM h5
    refine tr_condFe (e := decide (s1 < (a1.maps_.length : Int))) h5 (by kernel_rfl) ?_
    refine tr_exit (q_x (l_x (b_h (q_n ?_))))
    obtain ⟨v9, hv9, hM⟩ := bind_some' hM
    refine tr_sr hT hm [(5, .call [] [] [.agg (eXSchema.b a0), .sl a1.sizes_.length 0 (a1.sizes_.flatMap eI.b), .sl a1.maps_.length 0 (a1.maps_.flatMap (eS eI).b)] [] (.tup [iv v9.1, iv v9.2]))] [12] [(12, .d (iv v9.1))] (cc0 ok168 (spec_l36Broken_c a0 a1.sizes_ a1.maps_ _ hv9) (by kernel_rfl) .nil) (by kernel_rfl) (by kernel_rfl) ?_
    refine tr_sr hT hm [] [8] [(8, .d (bv (decide (v9.1 < 0))))] .nil (by kernel_rfl) (by kernel_rfl) ?_
    refine tr_ret (rg_r ?_)
    obtain rfl := Option.some.inj hM
    exact retg (names := []) .nil (by kernel_rfl)

end Go.Proofs.Ytiikkfdehbcfaaa.WzK
