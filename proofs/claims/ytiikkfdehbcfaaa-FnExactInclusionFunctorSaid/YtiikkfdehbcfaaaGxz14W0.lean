/- Walks. Printed by wip/gen. -/
import Derived.Test.YtiikkfdehbcfaaaGxz14W
namespace Go.Proofs.Ytiikkfdehbcfaaa.Wz14
open Go.Gx Go.Proofs.Ytiikkfdehbcfaaa.WvB Go.Proofs.Ytiikkfdehbcfaaa.WyN Go.Proofs.Ytiikkfdehbcfaaa.WzS Go.Proofs.Ytiikkfdehbcfaaa.WvS

theorem ok178 : CallOk Try.prog 178 := callOk_of Try.func178 (by kernel_rfl) (by kernel_rfl)
theorem spec_l02Arrows_c (a0 : XCategory) (a1 : List Int) (r : Int) (hM : M.spec_l02Arrows a0 a1 = some r) :
    FnC Try.prog 178 [] [.agg (eXCategory.b a0), .sl a1.length 0 (a1.flatMap eI.b)] [] (iv r) := by
  refine fnc_startG (N := 14) (np := 500) hT Try.func178 rfl rfl (by kernel_rfl) ?_
  unfold M.spec_l02Arrows at hM
  refine tr_start (ks := [0, 2]) (st' := [(0, .d (.agg (eXCategory.b a0))), (2, .d (.sl a1.length 0 (a1.flatMap eI.b)))]) (by kernel_rfl) ?_
  refine tr_sr hT hm [] [2, 4, 2005] [(2, .d (.sl a1.length 0 (a1.flatMap eI.b))), (4, .d (.rp 1002 0)), bxB 2005 (eXCategory.b a0)] .nil (by kernel_rfl) (by kernel_rfl) ?_
  refine tr_seq ?_
  obtain ⟨v1, hv1, hM⟩ := bind_some' hM
  refine tr_sr hT hm [(1, .call [] [] [.agg (eXCategory.b a0)] [] (bv v1))] [2, 4, 14, 2005] [(2, .d (.sl a1.length 0 (a1.flatMap eI.b))), (4, .d (.rp 1002 0)), (14, .d (bv (!v1))), bxB 2005 (eXCategory.b a0)] (cc0 ok107 (spec_l02Is_c a0 _ hv1) (by kernel_rfl) .nil) (by kernel_rfl) (by kernel_rfl) ?_
  rcases Bool.eq_false_or_eq_true v1 with h2 | h2
  · have hM := ite_true' hM h2
    refine tr_condFe (e := !v1) (congrArg not h2) (by kernel_rfl) ?_
    refine tr_skip (q_n ?_)
    refine tr_seq ?_
    obtain ⟨v3, hv3, hM⟩ := bind_some' hM
    refine tr_sr hT hm [(4, .call [] [] [iv (a0.From.length : Int), .sl a1.length 0 (a1.flatMap eI.b)] [] (bv v3))] [26] [(26, .d (bv (!v3)))] (cc0 ok154 (spec_l01Map_c (a0.From.length : Int) a1 _ hv3) (by kernel_rfl) .nil) (by kernel_rfl) (by kernel_rfl) ?_
    rcases Bool.eq_false_or_eq_true v3 with h4 | h4
    · have hM := ite_true' hM h4
      refine tr_condFe (e := !v3) (congrArg not h4) (by kernel_rfl) ?_
      refine tr_skip (q_n ?_)
      refine tr_sr hT hm [] [8] [(8, .d (iv 0))] .nil (by kernel_rfl) (by kernel_rfl) ?_
      refine tr_ret (rg_r ?_)
      obtain rfl := Option.some.inj hM
      exact retg (names := []) .nil (by kernel_rfl)
    · have hM := ite_false' hM h4
      refine tr_condTe (e := !v3) (congrArg not h4) (by kernel_rfl) ?_
      refine tr_sr hT hm [] [8] [(8, .d (iv 2))] .nil (by kernel_rfl) (by kernel_rfl) ?_
      refine tr_ret (q_r (rg_r ?_))
      obtain rfl := Option.some.inj hM
      exact retg (names := []) .nil (by kernel_rfl)
  · have hM := ite_false' hM h2
    refine tr_condTe (e := !v1) (congrArg not h2) (by kernel_rfl) ?_
    refine tr_sr hT hm [] [8] [(8, .d (iv 1))] .nil (by kernel_rfl) (by kernel_rfl) ?_
    refine tr_ret (q_r (rg_r ?_))
    obtain rfl := Option.some.inj hM
    exact retg (names := []) .nil (by kernel_rfl)

theorem ok180 : CallOk Try.prog 180 := callOk_of Try.func180 (by kernel_rfl) (by kernel_rfl)
theorem spec_l02Close_c (a0 : XCategory) (a1 : List Int) (r : (List Int)) (hM : M.spec_l02Close a0 a1 = some r) :
    FnC Try.prog 180 [] [.agg (eXCategory.b a0), .sl a1.length 0 (a1.flatMap eI.b)] [] (.fr 1 r.length (r.flatMap eI.o)) := by
  refine fnc_startG (N := 132) (np := 500) hT Try.func180 rfl rfl (by kernel_rfl) ?_
  unfold M.spec_l02Close at hM
  refine tr_start (ks := [0, 2]) (st' := [(0, .d (.agg (eXCategory.b a0))), (2, .d (.sl a1.length 0 (a1.flatMap eI.b)))]) (by kernel_rfl) ?_
  refine tr_sr hT hm [] [2, 4, 2005] [(2, .d (.sl a1.length 0 (a1.flatMap eI.b))), (4, .d (.rp 1002 0)), bxB 2005 (eXCategory.b a0)] .nil (by kernel_rfl) (by kernel_rfl) ?_
  obtain ⟨h1, hM⟩ := chk_some hM
  refine tr_sr hT hm [] [2, 4, 10, 2005, 2031] [(2, .d (.sl a1.length 0 (a1.flatMap eI.b))), (4, .d (.rp 1002 0)), (10, .d (.rs 1015 0 ((a0.From.length : Int).toNat))), bxB 2005 (eXCategory.b a0), (2031, .r (.arr 1 (repl (a0.From.length : Int).toNat [.bool false]) []))] (.cons h1.1 (.cons (Int.le_refl (a0.From.length : Int)) (.cons h1.2 .nil))) (by kernel_rfl) (by kernel_rfl) ?_
  refine Tr.by (imp_cvE (r := 1015) (sz := 1) (refs := []) (repl_flat (f := eB.o) (zs := [.bool false]) (z := (false : Bool)) rfl (a0.From.length : Int).toNat) (menO_flat eB_ok _) (by kernel_rfl)) ?_
  refine Tr.by (imp_cvD (k := 10) (congrArg (D.rs 1015 0) (List.length_replicate.symm : (a0.From.length : Int).toNat = (List.replicate (a0.From.length : Int).toNat (false : Bool)).length)) (by kernel_rfl)) ?_
  refine tr_seq ?_
  refine tr_sr hT hm [] [2, 4, 10, 12, 2005, 2031] [(2, .d (.sl a1.length 0 (a1.flatMap eI.b))), (4, .d (.rp 1002 0)), (10, .d (.rs 1015 0 ((List.replicate (a0.From.length : Int).toNat (false : Bool)).length))), (12, .d (iv 0)), bxB 2005 (eXCategory.b a0), (2031, .r (.arr 1 ((List.replicate (a0.From.length : Int).toNat (false : Bool)).flatMap eB.o) []))] .nil (by kernel_rfl) (by kernel_rfl) ?_
  refine tr_block ?_
  refine tr_iterS (fun (s2 : (List Bool) × Int) => [(2, .d (.sl a1.length 0 (a1.flatMap eI.b))), (4, .d (.rp 1002 0)), (10, .d (.rs 1015 0 s2.1.length)), (12, .d (iv s2.2)), bxB 2005 (eXCategory.b a0), (2031, .r (.arr 1 (s2.1.flatMap eB.o) []))]) ((List.replicate (a0.From.length : Int).toNat (false : Bool)), 0) [2, 4, 10, 12, 2005, 2031] (by kernel_rfl) hM ?_
  intro n5 next3 ih4 s2 hM
  refine tr_seq ?_
  refine tr_sr hT hm [] [2, 4, 10, 12, 38, 2005, 2031] [(2, .d (.sl a1.length 0 (a1.flatMap eI.b))), (4, .d (.rp 1002 0)), (10, .d (.rs 1015 0 s2.1.length)), (12, .d (iv s2.2)), (38, .d (bv (decide (s2.2 < (a1.length : Int))))), bxB 2005 (eXCategory.b a0), (2031, .r (.arr 1 (s2.1.flatMap eB.o) []))] .nil (by kernel_rfl) (by kernel_rfl) ?_
  rcases Bool.eq_false_or_eq_true (decide (s2.2 < (a1.length : Int))) with h6 | h6
  · have hM := ite_true' hM h6
    refine tr_condTe (e := decide (s2.2 < (a1.length : Int))) h6 (by kernel_rfl) ?_
    refine tr_skip (q_n ?_)
    refine tr_seq ?_
    refine tr_block ?_
    obtain ⟨y7, hy7, hM⟩ := bind_some' hM
    have hy7' := idx_some hy7
    obtain ⟨y8, hy8, hM⟩ := bind_some' hM
    have hy8' := idx_some hy8
    refine tr_sr hT hm [(4, .val (iv y7))] [2, 4, 10, 12, 2005, 2031] [(2, .d (.sl a1.length 0 (a1.flatMap eI.b))), (4, .d (.rp 1002 0)), (10, .d (.rs 1015 0 s2.1.length)), (12, .d (iv s2.2)), bxB 2005 (eXCategory.b a0), (2031, .r (.arr 1 ((s2.1.flatMap eB.o).take (0 + y7.toNat * 1) ++ [bv true] ++ (s2.1.flatMap eB.o).drop (0 + y7.toNat * 1 + 1)) []))] (.cons hy7'.1 (.cons hy7'.2.1 (.cons (at_b0 eI_ok hy7'.2.2 (d := iv y7) (by kernel_rfl)) (.cons hy8'.1 (.cons hy8'.2.1 (.cons (store_le eB_ok hy8'.2.2) .nil)))))) (by kernel_rfl) (by kernel_rfl) ?_
    refine Tr.by (imp_cvE (r := 1015) (sz := 1) (refs := []) (set_flat eB_ok.lenO (y := true) hy8'.2.2) (menO_flat eB_ok _) (by kernel_rfl)) ?_
    refine Tr.by (imp_cvD (k := 10) (congrArg (D.rs 1015 0) (List.length_set.symm : s2.1.length = (s2.1.set y7.toNat true).length)) (by kernel_rfl)) ?_
    obtain ⟨y9, hy9, hM⟩ := bind_some' hM
    have hy9' := idx_some hy9
    obtain ⟨y10, hy10, hM⟩ := bind_some' hM
    have hy10' := idx_some hy10
    obtain ⟨y11, hy11, hM⟩ := bind_some' hM
    have hy11' := idx_some hy11
    refine tr_sr hT hm [(8, .val (iv y7)), (10, .val (iv y9)), (12, .val (iv y10))] [2, 4, 10, 12, 2005, 2031] [(2, .d (.sl a1.length 0 (a1.flatMap eI.b))), (4, .d (.rp 1002 0)), (10, .d (.rs 1015 0 ((s2.1.set y7.toNat true).length))), (12, .d (iv s2.2)), bxB 2005 (eXCategory.b a0), (2031, .r (.arr 1 (((s2.1.set y7.toNat true).flatMap eB.o).take (0 + y10.toNat * 1) ++ [bv true] ++ ((s2.1.set y7.toNat true).flatMap eB.o).drop (0 + y10.toNat * 1 + 1)) []))] (.cons hy7'.1 (.cons hy7'.2.1 (.cons (at_b0 eI_ok hy7'.2.2 (d := iv y7) (by kernel_rfl)) (.cons hy9'.1 (.cons hy9'.2.1 (.cons (at_b0 eI_ok hy9'.2.2 (d := iv y9) (by kernel_rfl)) (.cons hy10'.1 (.cons hy10'.2.1 (.cons (at_b0 eI_ok hy10'.2.2 (d := iv y10) (by kernel_rfl)) (.cons hy11'.1 (.cons hy11'.2.1 (.cons (store_le eB_ok hy11'.2.2) .nil)))))))))))) (by kernel_rfl) (by kernel_rfl) ?_
    refine Tr.by (imp_cvE (r := 1015) (sz := 1) (refs := []) (set_flat eB_ok.lenO (y := true) hy11'.2.2) (menO_flat eB_ok _) (by kernel_rfl)) ?_
    refine Tr.by (imp_cvD (k := 10) (congrArg (D.rs 1015 0) (List.length_set.symm : (s2.1.set y7.toNat true).length = ((s2.1.set y7.toNat true).set y10.toNat true).length)) (by kernel_rfl)) ?_
    obtain ⟨y12, hy12, hM⟩ := bind_some' hM
    have hy12' := idx_some hy12
    obtain ⟨y13, hy13, hM⟩ := bind_some' hM
    have hy13' := idx_some hy13
    obtain ⟨y14, hy14, hM⟩ := bind_some' hM
    have hy14' := idx_some hy14
    refine tr_r hT hm [(8, .val (iv y7)), (10, .val (iv y12)), (12, .val (iv y13))] [2, 4, 10, 12, 2005, 2031] [(2, .d (.sl a1.length 0 (a1.flatMap eI.b))), (4, .d (.rp 1002 0)), (10, .d (.rs 1015 0 (((s2.1.set y7.toNat true).set y10.toNat true).length))), (12, .d (iv s2.2)), bxB 2005 (eXCategory.b a0), (2031, .r (.arr 1 ((((s2.1.set y7.toNat true).set y10.toNat true).flatMap eB.o).take (0 + y13.toNat * 1) ++ [bv true] ++ (((s2.1.set y7.toNat true).set y10.toNat true).flatMap eB.o).drop (0 + y13.toNat * 1 + 1)) []))] (.cons hy7'.1 (.cons hy7'.2.1 (.cons (at_b0 eI_ok hy7'.2.2 (d := iv y7) (by kernel_rfl)) (.cons hy12'.1 (.cons hy12'.2.1 (.cons (at_b0 eI_ok hy12'.2.2 (d := iv y12) (by kernel_rfl)) (.cons hy13'.1 (.cons hy13'.2.1 (.cons (at_b0 eI_ok hy13'.2.2 (d := iv y13) (by kernel_rfl)) (.cons hy14'.1 (.cons hy14'.2.1 (.cons (store_le eB_ok hy14'.2.2) .nil)))))))))))) (by kernel_rfl) (by kernel_rfl) (b_n (q_n ?_))
    refine Tr.by (imp_cvE (r := 1015) (sz := 1) (refs := []) (set_flat eB_ok.lenO (y := true) hy14'.2.2) (menO_flat eB_ok _) (by kernel_rfl)) ?_
    refine Tr.by (imp_cvD (k := 10) (congrArg (D.rs 1015 0) (List.length_set.symm : ((s2.1.set y7.toNat true).set y10.toNat true).length = (((s2.1.set y7.toNat true).set y10.toNat true).set y13.toNat true).length)) (by kernel_rfl)) ?_
    refine tr_r hT hm [] [2, 4, 10, 12, 2005, 2031] [(2, .d (.sl a1.length 0 (a1.flatMap eI.b))), (4, .d (.rp 1002 0)), (10, .d (.rs 1015 0 ((((s2.1.set y7.toNat true).set y10.toNat true).set y13.toNat true).length))), (12, .d (iv (IntKind.i64.wrap (s2.2 + 1)))), bxB 2005 (eXCategory.b a0), (2031, .r (.arr 1 ((((s2.1.set y7.toNat true).set y10.toNat true).set y13.toNat true).flatMap eB.o) []))] .nil (by kernel_rfl) (by kernel_rfl) (l_n ?_)
    exact trl_start (ks := [2, 4, 10, 12, 2005, 2031]) (by kernel_rfl) (ih4 (((s2.1.set y7.toNat true).set y10.toNat true).set y13.toNat true, IntKind.i64.wrap (s2.2 + 1)) hM)
  · have hM := ite_false' hM h6
    refine tr_condFe (e := decide (s2.2 < (a1.length : Int))) h6 (by kernel_rfl) ?_
    refine tr_exit (q_x (l_x (b_h (q_n ?_))))
    refine tr_seq ?_
    refine tr_sr hT hm [] [4, 10, 14, 2005, 2031] [(4, .d (.rp 1002 0)), (10, .d (.rs 1015 0 s2.1.length)), (14, .d (bv true)), bxB 2005 (eXCategory.b a0), (2031, .r (.arr 1 (s2.1.flatMap eB.o) []))] .nil (by kernel_rfl) (by kernel_rfl) ?_
    refine tr_block ?_
    refine tr_iterS (fun (s15 : (List Bool) × Bool) => [(4, .d (.rp 1002 0)), (10, .d (.rs 1015 0 s15.1.length)), (14, .d (bv s15.2)), bxB 2005 (eXCategory.b a0), (2031, .r (.arr 1 (s15.1.flatMap eB.o) []))]) (s2.1, true) [4, 10, 14, 2005, 2031] (by kernel_rfl) hM ?_
    intro n18 next16 ih17 s15 hM
    refine tr_seq ?_
    refine tr_sr hT hm [] [4, 10, 112, 2005, 2031] [(4, .d (.rp 1002 0)), (10, .d (.rs 1015 0 s15.1.length)), (112, .d (bv s15.2)), bxB 2005 (eXCategory.b a0), (2031, .r (.arr 1 (s15.1.flatMap eB.o) []))] .nil (by kernel_rfl) (by kernel_rfl) ?_
    rcases Bool.eq_false_or_eq_true s15.2 with h19 | h19
    · have hM := ite_true' hM h19
      refine tr_condTe (e := s15.2) h19 (by kernel_rfl) ?_
      refine tr_skip (q_n ?_)
      refine tr_block ?_
      refine tr_sr hT hm [] [4, 10, 14, 2005, 2031] [(4, .d (.rp 1002 0)), (10, .d (.rs 1015 0 s15.1.length)), (14, .d (bv false)), bxB 2005 (eXCategory.b a0), (2031, .r (.arr 1 (s15.1.flatMap eB.o) []))] .nil (by kernel_rfl) (by kernel_rfl) ?_
      refine tr_sr hT hm [] [4, 10, 14, 16, 2005, 2031] [(4, .d (.rp 1002 0)), (10, .d (.rs 1015 0 s15.1.length)), (14, .d (bv false)), (16, .d (iv 0)), bxB 2005 (eXCategory.b a0), (2031, .r (.arr 1 (s15.1.flatMap eB.o) []))] .nil (by kernel_rfl) (by kernel_rfl) ?_
      refine tr_block ?_
      refine tr_iterS (fun (s20 : (List Bool) × Bool × Int) => [(4, .d (.rp 1002 0)), (10, .d (.rs 1015 0 s20.1.length)), (14, .d (bv s20.2.1)), (16, .d (iv s20.2.2)), bxB 2005 (eXCategory.b a0), (2031, .r (.arr 1 (s20.1.flatMap eB.o) []))]) (s15.1, false, 0) [4, 10, 14, 16, 2005, 2031] (by kernel_rfl) hM ?_
      intro n23 next21 ih22 s20 hM
      refine tr_seq ?_
      refine tr_sr hT hm [] [4, 10, 14, 16, 120, 2005, 2031] [(4, .d (.rp 1002 0)), (10, .d (.rs 1015 0 s20.1.length)), (14, .d (bv s20.2.1)), (16, .d (iv s20.2.2)), (120, .d (bv (decide (s20.2.2 < (s20.1.length : Int))))), bxB 2005 (eXCategory.b a0), (2031, .r (.arr 1 (s20.1.flatMap eB.o) []))] .nil (by kernel_rfl) (by kernel_rfl) ?_
      rcases Bool.eq_false_or_eq_true (decide (s20.2.2 < (s20.1.length : Int))) with h24 | h24
      · have hM := ite_true' hM h24
        refine tr_condTe (e := decide (s20.2.2 < (s20.1.length : Int))) h24 (by kernel_rfl) ?_
        refine tr_skip (q_n ?_)
        refine tr_seq ?_
        refine tr_block ?_
        refine tr_sr hT hm [] [4, 10, 14, 16, 18, 2005, 2031] [(4, .d (.rp 1002 0)), (10, .d (.rs 1015 0 s20.1.length)), (14, .d (bv s20.2.1)), (16, .d (iv s20.2.2)), (18, .d (iv 0)), bxB 2005 (eXCategory.b a0), (2031, .r (.arr 1 (s20.1.flatMap eB.o) []))] .nil (by kernel_rfl) (by kernel_rfl) ?_
        refine tr_block ?_
        refine tr_iterS (fun (s25 : (List Bool) × Bool × Int) => [(4, .d (.rp 1002 0)), (10, .d (.rs 1015 0 s25.1.length)), (14, .d (bv s25.2.1)), (16, .d (iv s20.2.2)), (18, .d (iv s25.2.2)), bxB 2005 (eXCategory.b a0), (2031, .r (.arr 1 (s25.1.flatMap eB.o) []))]) (s20.1, s20.2.1, 0) [4, 10, 14, 16, 18, 2005, 2031] (by kernel_rfl) hM ?_
        intro n28 next26 ih27 s25 hM
        refine tr_seq ?_
        refine tr_sr hT hm [] [4, 10, 14, 16, 18, 132, 2005, 2031] [(4, .d (.rp 1002 0)), (10, .d (.rs 1015 0 s25.1.length)), (14, .d (bv s25.2.1)), (16, .d (iv s20.2.2)), (18, .d (iv s25.2.2)), (132, .d (bv (decide (s25.2.2 < (s25.1.length : Int))))), bxB 2005 (eXCategory.b a0), (2031, .r (.arr 1 (s25.1.flatMap eB.o) []))] .nil (by kernel_rfl) (by kernel_rfl) ?_
        rcases Bool.eq_false_or_eq_true (decide (s25.2.2 < (s25.1.length : Int))) with h29 | h29
        · have hM := ite_true' hM h29
          refine tr_condTe (e := decide (s25.2.2 < (s25.1.length : Int))) h29 (by kernel_rfl) ?_
          refine tr_skip (q_n ?_)
          refine tr_joinM (fun (s30 : (List Bool) × Bool) => [(4, .d (.rp 1002 0)), (10, .d (.rs 1015 0 s30.1.length)), (14, .d (bv s30.2)), (16, .d (iv s20.2.2)), (18, .d (iv s25.2.2)), bxB 2005 (eXCategory.b a0), (2031, .r (.arr 1 (s30.1.flatMap eB.o) []))]) hM ?_ ?_
          · intro s30 hM
            refine tr_r hT hm [] [4, 10, 14, 16, 18, 2005, 2031] [(4, .d (.rp 1002 0)), (10, .d (.rs 1015 0 s30.1.length)), (14, .d (bv s30.2)), (16, .d (iv s20.2.2)), (18, .d (iv (IntKind.i64.wrap (s25.2.2 + 1)))), bxB 2005 (eXCategory.b a0), (2031, .r (.arr 1 (s30.1.flatMap eB.o) []))] .nil (by kernel_rfl) (by kernel_rfl) (l_n ?_)
            exact trl_start (ks := [4, 10, 14, 16, 18, 2005, 2031]) (by kernel_rfl) (ih27 (s30.1, s30.2, IntKind.i64.wrap (s25.2.2 + 1)) hM)
          · intro k31 K32 hM
            refine tr_block ?_
            obtain ⟨y33, hy33, hM⟩ := bind_some' hM
            have hy33' := idx_some hy33
            rcases Bool.eq_false_or_eq_true y33 with h34 | h34
            · have hM := ite_true' hM h34
              obtain ⟨y35, hy35, hM⟩ := bind_some' hM
              have hy35' := idx_some hy35
              rcases Bool.eq_false_or_eq_true y35 with h36 | h36
              · have hM := ite_true' hM h36
                obtain ⟨y37, hy37, hM⟩ := bind_some' hM
                have hy37' := idx_some hy37
                obtain ⟨y38, hy38, hM⟩ := bind_some' hM
                have hy38' := idx_some hy38
                rcases Bool.eq_false_or_eq_true (y37 == y38) with h39 | h39
                · have hM := ite_true' hM h39
                  obtain ⟨y40, hy40, hM⟩ := bind_some' hM
                  have hy40' := idx_some hy40
                  obtain ⟨y41, hy41, hM⟩ := bind_some' hM
                  have hy41' := idx_some hy41
                  obtain ⟨y42, hy42, hM⟩ := bind_some' hM
                  have hy42' := idx_some hy42
                  refine tr_sr hT hm [(3, .val (bv y33)), (4, .val (bv true)), (8, .val (bv y35)), (10, .val (bv true)), (15, .val (iv y37)), (20, .val (iv y38)), (23, .val (bv true)), (29, .val (.sl y40.length 0 (y40.flatMap eI.b))), (32, .val (iv y41)), (34, .val (bv y42))] [4, 10, 14, 16, 18, 210, 2005, 2031] [(4, .d (.rp 1002 0)), (10, .d (.rs 1015 0 s25.1.length)), (14, .d (bv s25.2.1)), (16, .d (iv s20.2.2)), (18, .d (iv s25.2.2)), (210, .d (bv (!y42))), bxB 2005 (eXCategory.b a0), (2031, .r (.arr 1 (s25.1.flatMap eB.o) []))] (.cons hy33'.1 (.cons hy33'.2.1 (.cons (at_o0 eB_ok hy33'.2.2 (d := bv y33) (by kernel_rfl)) (.cons (congrArg (fun b => bv b) h34) (.cons hy35'.1 (.cons hy35'.2.1 (.cons (at_o0 eB_ok hy35'.2.2 (d := bv y35) (by kernel_rfl)) (.cons (congrArg (fun b => bv b) h36) (.cons hy37'.1 (.cons hy37'.2.1 (.cons (at_b0 eI_ok hy37'.2.2 (d := iv y37) (by kernel_rfl)) (.cons hy38'.1 (.cons hy38'.2.1 (.cons (at_b0 eI_ok hy38'.2.2 (d := iv y38) (by kernel_rfl)) (.cons (congrArg (fun b => bv b) h39) (.cons hy40'.1 (.cons hy40'.2.1 (.cons (at_b0 (eS_ok eI_ok) hy40'.2.2 (d := .sl y40.length 0 (y40.flatMap eI.b)) (by kernel_rfl)) (.cons hy41'.1 (.cons hy41'.2.1 (.cons (at_b0 eI_ok hy41'.2.2 (d := iv y41) (by kernel_rfl)) (.cons hy42'.1 (.cons hy42'.2.1 (.cons (at_o0 eB_ok hy42'.2.2 (d := bv y42) (by kernel_rfl)) .nil)))))))))))))))))))))))) (by kernel_rfl) (by kernel_rfl) ?_
                  rcases Bool.eq_false_or_eq_true y42 with h43 | h43
                  · have hM := ite_true' hM h43
                    refine tr_condFe (e := !y42) (congrArg not h43) (by kernel_rfl) ?_
                    refine tr_skip (b_n (q_n ?_))
                    exact tr_start (ks := [4, 10, 14, 16, 18, 2005, 2031]) (by kernel_rfl) (K32 (s25.1, s25.2.1) hM)
                  · have hM := ite_false' hM h43
                    refine tr_condTe (e := !y42) (congrArg not h43) (by kernel_rfl) ?_
                    refine tr_sr hT hm [(5, .val (.sl y40.length 0 (y40.flatMap eI.b))), (8, .val (iv y41))] [4, 10, 16, 18, 2005, 2031] [(4, .d (.rp 1002 0)), (10, .d (.rs 1015 0 s25.1.length)), (16, .d (iv s20.2.2)), (18, .d (iv s25.2.2)), bxB 2005 (eXCategory.b a0), (2031, .r (.arr 1 ((s25.1.flatMap eB.o).take (0 + y41.toNat * 1) ++ [bv true] ++ (s25.1.flatMap eB.o).drop (0 + y41.toNat * 1 + 1)) []))] (.cons hy40'.1 (.cons hy40'.2.1 (.cons (at_b0 (eS_ok eI_ok) hy40'.2.2 (d := .sl y40.length 0 (y40.flatMap eI.b)) (by kernel_rfl)) (.cons hy41'.1 (.cons hy41'.2.1 (.cons (at_b0 eI_ok hy41'.2.2 (d := iv y41) (by kernel_rfl)) (.cons hy42'.1 (.cons hy42'.2.1 (.cons (store_le eB_ok hy42'.2.2) .nil))))))))) (by kernel_rfl) (by kernel_rfl) ?_
                    refine Tr.by (imp_cvE (r := 1015) (sz := 1) (refs := []) (set_flat eB_ok.lenO (y := true) hy42'.2.2) (menO_flat eB_ok _) (by kernel_rfl)) ?_
                    refine Tr.by (imp_cvD (k := 10) (congrArg (D.rs 1015 0) (List.length_set.symm : s25.1.length = (s25.1.set y41.toNat true).length)) (by kernel_rfl)) ?_
                    refine tr_r hT hm [] [4, 10, 14, 16, 18, 2005, 2031] [(4, .d (.rp 1002 0)), (10, .d (.rs 1015 0 ((s25.1.set y41.toNat true).length))), (14, .d (bv true)), (16, .d (iv s20.2.2)), (18, .d (iv s25.2.2)), bxB 2005 (eXCategory.b a0), (2031, .r (.arr 1 ((s25.1.set y41.toNat true).flatMap eB.o) []))] .nil (by kernel_rfl) (by kernel_rfl) (b_n (q_n ?_))
                    exact tr_start (ks := [4, 10, 14, 16, 18, 2005, 2031]) (by kernel_rfl) (K32 (s25.1.set y41.toNat true, true) hM)
                · have hM := ite_false' hM h39
                  refine tr_sr hT hm [(3, .val (bv y33)), (4, .val (bv true)), (8, .val (bv y35)), (10, .val (bv true)), (15, .val (iv y37)), (20, .val (iv y38)), (23, .val (bv false))] [4, 10, 14, 16, 18, 210, 2005, 2031] [(4, .d (.rp 1002 0)), (10, .d (.rs 1015 0 s25.1.length)), (14, .d (bv s25.2.1)), (16, .d (iv s20.2.2)), (18, .d (iv s25.2.2)), (210, .d (bv false)), bxB 2005 (eXCategory.b a0), (2031, .r (.arr 1 (s25.1.flatMap eB.o) []))] (.cons hy33'.1 (.cons hy33'.2.1 (.cons (at_o0 eB_ok hy33'.2.2 (d := bv y33) (by kernel_rfl)) (.cons (congrArg (fun b => bv b) h34) (.cons hy35'.1 (.cons hy35'.2.1 (.cons (at_o0 eB_ok hy35'.2.2 (d := bv y35) (by kernel_rfl)) (.cons (congrArg (fun b => bv b) h36) (.cons hy37'.1 (.cons hy37'.2.1 (.cons (at_b0 eI_ok hy37'.2.2 (d := iv y37) (by kernel_rfl)) (.cons hy38'.1 (.cons hy38'.2.1 (.cons (at_b0 eI_ok hy38'.2.2 (d := iv y38) (by kernel_rfl)) (.cons (congrArg (fun b => bv b) h39) .nil))))))))))))))) (by kernel_rfl) (by kernel_rfl) ?_
                  refine tr_condF (by kernel_rfl) ?_
                  refine tr_skip (b_n (q_n ?_))
                  exact tr_start (ks := [4, 10, 14, 16, 18, 2005, 2031]) (by kernel_rfl) (K32 (s25.1, s25.2.1) hM)
              · have hM := ite_false' hM h36
                refine tr_sr hT hm [(3, .val (bv y33)), (4, .val (bv true)), (8, .val (bv y35)), (10, .val (bv false))] [4, 10, 14, 16, 18, 210, 2005, 2031] [(4, .d (.rp 1002 0)), (10, .d (.rs 1015 0 s25.1.length)), (14, .d (bv s25.2.1)), (16, .d (iv s20.2.2)), (18, .d (iv s25.2.2)), (210, .d (bv false)), bxB 2005 (eXCategory.b a0), (2031, .r (.arr 1 (s25.1.flatMap eB.o) []))] (.cons hy33'.1 (.cons hy33'.2.1 (.cons (at_o0 eB_ok hy33'.2.2 (d := bv y33) (by kernel_rfl)) (.cons (congrArg (fun b => bv b) h34) (.cons hy35'.1 (.cons hy35'.2.1 (.cons (at_o0 eB_ok hy35'.2.2 (d := bv y35) (by kernel_rfl)) (.cons (congrArg (fun b => bv b) h36) .nil)))))))) (by kernel_rfl) (by kernel_rfl) ?_
                refine tr_condF (by kernel_rfl) ?_
                refine tr_skip (b_n (q_n ?_))
                exact tr_start (ks := [4, 10, 14, 16, 18, 2005, 2031]) (by kernel_rfl) (K32 (s25.1, s25.2.1) hM)
            · have hM := ite_false' hM h34
              refine tr_sr hT hm [(3, .val (bv y33)), (4, .val (bv false))] [4, 10, 14, 16, 18, 210, 2005, 2031] [(4, .d (.rp 1002 0)), (10, .d (.rs 1015 0 s25.1.length)), (14, .d (bv s25.2.1)), (16, .d (iv s20.2.2)), (18, .d (iv s25.2.2)), (210, .d (bv false)), bxB 2005 (eXCategory.b a0), (2031, .r (.arr 1 (s25.1.flatMap eB.o) []))] (.cons hy33'.1 (.cons hy33'.2.1 (.cons (at_o0 eB_ok hy33'.2.2 (d := bv y33) (by kernel_rfl)) (.cons (congrArg (fun b => bv b) h34) .nil)))) (by kernel_rfl) (by kernel_rfl) ?_
              refine tr_condF (by kernel_rfl) ?_
              refine tr_skip (b_n (q_n ?_))
              exact tr_start (ks := [4, 10, 14, 16, 18, 2005, 2031]) (by kernel_rfl) (K32 (s25.1, s25.2.1) hM)
        · have hM := ite_false' hM h29
          refine tr_condFe (e := decide (s25.2.2 < (s25.1.length : Int))) h29 (by kernel_rfl) ?_
          refine tr_exit (q_x (l_x (b_h (b_n (q_n ?_)))))
          refine tr_r hT hm [] [4, 10, 14, 16, 2005, 2031] [(4, .d (.rp 1002 0)), (10, .d (.rs 1015 0 s25.1.length)), (14, .d (bv s25.2.1)), (16, .d (iv (IntKind.i64.wrap (s20.2.2 + 1)))), bxB 2005 (eXCategory.b a0), (2031, .r (.arr 1 (s25.1.flatMap eB.o) []))] .nil (by kernel_rfl) (by kernel_rfl) (l_n ?_)
          exact trl_start (ks := [4, 10, 14, 16, 2005, 2031]) (by kernel_rfl) (ih22 (s25.1, s25.2.1, IntKind.i64.wrap (s20.2.2 + 1)) hM)
      · have hM := ite_false' hM h24
        refine tr_condFe (e := decide (s20.2.2 < (s20.1.length : Int))) h24 (by kernel_rfl) ?_
        refine tr_exit (q_x (l_x (b_h (b_n (l_n ?_)))))
        exact trl_start (ks := [4, 10, 14, 2005, 2031]) (by kernel_rfl) (ih17 (s20.1, s20.2.1) hM)
    · have hM := ite_false' hM h19
      refine tr_condFe (e := s15.2) h19 (by kernel_rfl) ?_
      refine tr_exit (q_x (l_x (b_h (q_n ?_))))
      refine tr_sr hT hm [] [10, 20, 2031, 2233] [(10, .d (.rs 1015 0 s15.1.length)), (20, .d (.rs 1116 0 (([] : List Int).length))), (2031, .r (.arr 1 (s15.1.flatMap eB.o) [])), (2233, .r (.arr 1 (([] : List Int).flatMap eI.o) []))] .nil (by kernel_rfl) (by kernel_rfl) ?_
      refine tr_seq ?_
      refine tr_sr hT hm [] [10, 20, 22, 2031, 2233] [(10, .d (.rs 1015 0 s15.1.length)), (20, .d (.rs 1116 0 (([] : List Int).length))), (22, .d (iv 0)), (2031, .r (.arr 1 (s15.1.flatMap eB.o) [])), (2233, .r (.arr 1 (([] : List Int).flatMap eI.o) []))] .nil (by kernel_rfl) (by kernel_rfl) ?_
      refine tr_block ?_
      refine tr_iterS (fun (s44 : (List Int) × Int) => [(10, .d (.rs 1015 0 s15.1.length)), (20, .d (.rs 1116 0 s44.1.length)), (22, .d (iv s44.2)), (2031, .r (.arr 1 (s15.1.flatMap eB.o) [])), (2233, .r (.arr 1 (s44.1.flatMap eI.o) []))]) (([] : List Int), 0) [10, 20, 22, 2031, 2233] (by kernel_rfl) hM ?_
      intro n47 next45 ih46 s44 hM
      refine tr_seq ?_
      refine tr_sr hT hm [] [10, 20, 22, 240, 2031, 2233] [(10, .d (.rs 1015 0 s15.1.length)), (20, .d (.rs 1116 0 s44.1.length)), (22, .d (iv s44.2)), (240, .d (bv (decide (s44.2 < (s15.1.length : Int))))), (2031, .r (.arr 1 (s15.1.flatMap eB.o) [])), (2233, .r (.arr 1 (s44.1.flatMap eI.o) []))] .nil (by kernel_rfl) (by kernel_rfl) ?_
      rcases Bool.eq_false_or_eq_true (decide (s44.2 < (s15.1.length : Int))) with h48 | h48
      · have hM := ite_true' hM h48
        refine tr_condTe (e := decide (s44.2 < (s15.1.length : Int))) h48 (by kernel_rfl) ?_
        refine tr_skip (q_n ?_)
        refine tr_seq ?_
        refine tr_block ?_
        obtain ⟨y49, hy49, hM⟩ := bind_some' hM
        have hy49' := idx_some hy49
        refine tr_sr hT hm [(3, .val (bv y49))] [10, 20, 22, 252, 2031, 2233] [(10, .d (.rs 1015 0 s15.1.length)), (20, .d (.rs 1116 0 s44.1.length)), (22, .d (iv s44.2)), (252, .d (bv y49)), (2031, .r (.arr 1 (s15.1.flatMap eB.o) [])), (2233, .r (.arr 1 (s44.1.flatMap eI.o) []))] (.cons hy49'.1 (.cons hy49'.2.1 (.cons (at_o0 eB_ok hy49'.2.2 (d := bv y49) (by kernel_rfl)) .nil))) (by kernel_rfl) (by kernel_rfl) ?_
        rcases Bool.eq_false_or_eq_true y49 with h50 | h50
        · have hM := ite_true' hM h50
          refine tr_condTe (e := y49) h50 (by kernel_rfl) ?_
          obtain ⟨h51, hM⟩ := chk_some hM
          refine tr_r hT hm [(3, .app true)] [10, 20, 22, 2031, 2261] [(10, .d (.rs 1015 0 s15.1.length)), (20, .d (.rs 1130 0 (s44.1.length + (([s44.2] : List Int).length)))), (22, .d (iv s44.2)), (2031, .r (.arr 1 (s15.1.flatMap eB.o) [])), (2261, .r (.arr 1 (s44.1.flatMap eI.o ++ ([s44.2] : List Int).flatMap eI.o) []))] (.cons (lenO_flat eI_ok s44.1) (.cons (lenO_flat eI_ok ([s44.2] : List Int)) (.cons h51 .nil))) (by kernel_rfl) (by kernel_rfl) (b_n (q_n ?_))
          refine Tr.by (imp_cvE (r := 1130) (sz := 1) (refs := []) (flat_app eI.o s44.1 ([s44.2] : List Int)) (menO_flat eI_ok _) (by kernel_rfl)) ?_
          refine Tr.by (imp_cvD (k := 20) (congrArg (D.rs 1130 0) ((len_app s44.1 ([s44.2] : List Int)) : s44.1.length + (([s44.2] : List Int).length) = (s44.1 ++ ([s44.2] : List Int)).length)) (by kernel_rfl)) ?_
          refine tr_r hT hm [] [10, 20, 22, 2031, 2261] [(10, .d (.rs 1015 0 s15.1.length)), (20, .d (.rs 1130 0 ((s44.1 ++ ([s44.2] : List Int)).length))), (22, .d (iv (IntKind.i64.wrap (s44.2 + 1)))), (2031, .r (.arr 1 (s15.1.flatMap eB.o) [])), (2261, .r (.arr 1 ((s44.1 ++ ([s44.2] : List Int)).flatMap eI.o) []))] .nil (by kernel_rfl) (by kernel_rfl) (l_n ?_)
          refine TrL.by (imp_sel (ks := [10, 20, 22, 2031, 2261]) (st' := [(10, .d (.rs 1015 0 s15.1.length)), (20, .d (.rs 1130 0 ((s44.1 ++ ([s44.2] : List Int)).length))), (22, .d (iv (IntKind.i64.wrap (s44.2 + 1)))), (2031, .r (.arr 1 (s15.1.flatMap eB.o) [])), (2261, .r (.arr 1 ((s44.1 ++ ([s44.2] : List Int)).flatMap eI.o) []))]) (by kernel_rfl)) ?_
          refine TrL.by (imp_rename (r := 1130) (q := 1116) (by kernel_rfl) (Nat.le_of_ble_eq_true rfl)) ?_
          exact trl_start (ks := [10, 20, 22, 2031, 2233]) (by kernel_rfl) (ih46 (s44.1 ++ ([s44.2] : List Int), IntKind.i64.wrap (s44.2 + 1)) hM)
        · have hM := ite_false' hM h50
          refine tr_condFe (e := y49) h50 (by kernel_rfl) ?_
          refine tr_skip (b_n (q_n ?_))
          refine tr_r hT hm [] [10, 20, 22, 2031, 2233] [(10, .d (.rs 1015 0 s15.1.length)), (20, .d (.rs 1116 0 s44.1.length)), (22, .d (iv (IntKind.i64.wrap (s44.2 + 1)))), (2031, .r (.arr 1 (s15.1.flatMap eB.o) [])), (2233, .r (.arr 1 (s44.1.flatMap eI.o) []))] .nil (by kernel_rfl) (by kernel_rfl) (l_n ?_)
          exact trl_start (ks := [10, 20, 22, 2031, 2233]) (by kernel_rfl) (ih46 (s44.1, IntKind.i64.wrap (s44.2 + 1)) hM)
      · have hM := ite_false' hM h48
        refine tr_condFe (e := decide (s44.2 < (s15.1.length : Int))) h48 (by kernel_rfl) ?_
        refine tr_exit (q_x (l_x (b_h (q_n ?_))))
        refine tr_sr hT hm [] [8, 2233] [(8, .d (.rs 1116 0 s44.1.length)), (2233, .r (.arr 1 (s44.1.flatMap eI.o) []))] .nil (by kernel_rfl) (by kernel_rfl) ?_
        refine tr_ret (rg_r ?_)
        obtain rfl := Option.some.inj hM
        exact retg (names := []) (.cons (lenO_flat eI_ok s44.1) .nil) (by kernel_rfl)

theorem ok100 : CallOk Try.prog 100 := callOk_of Try.func100 (by kernel_rfl) (by kernel_rfl)
theorem spec_SubcategoryOf_c (a0 : XCategory) (a1 : List Int) (r : XCategory × Int) (hM : M.spec_SubcategoryOf a0 a1 = some r) :
    FnC Try.prog 100 [] [.agg (eXCategory.b a0), .sl a1.length 0 (a1.flatMap eI.b)] [] (.tup [.agg (eXCategory.o r.1), iv r.2]) := by
  refine fnc_startG (N := 24) (np := 500) hT Try.func100 rfl rfl (by kernel_rfl) ?_
  unfold M.spec_SubcategoryOf at hM
  refine tr_start (ks := [0, 2]) (st' := [(0, .d (.agg (eXCategory.b a0))), (2, .d (.sl a1.length 0 (a1.flatMap eI.b)))]) (by kernel_rfl) ?_
  refine tr_sr hT hm [] [2, 4, 8, 2005, 2009] [(2, .d (.sl a1.length 0 (a1.flatMap eI.b))), (4, .d (.rp 1002 0)), (8, .d (.rp 1004 0)), bxB 2005 (eXCategory.b a0), (2009, .r (.arr 1 [iv 0, nilv, nilv, nilv, nilv] []))] .nil (by kernel_rfl) (by kernel_rfl) ?_
  refine tr_seq ?_
  obtain ⟨v1, hv1, hM⟩ := bind_some' hM
  refine tr_sr hT hm [(2, .call [] [] [.agg (eXCategory.b a0), .sl a1.length 0 (a1.flatMap eI.b)] [] (iv v1))] [2, 4, 8, 12, 2005, 2009] [(2, .d (.sl a1.length 0 (a1.flatMap eI.b))), (4, .d (.rp 1002 0)), (8, .d (.rp 1004 0)), (12, .d (iv v1)), bxB 2005 (eXCategory.b a0), (2009, .r (.arr 1 [iv 0, nilv, nilv, nilv, nilv] []))] (cc0 ok178 (spec_l02Arrows_c a0 a1 _ hv1) (by kernel_rfl) .nil) (by kernel_rfl) (by kernel_rfl) ?_
  refine tr_sr hT hm [] [2, 4, 8, 12, 22, 2005, 2009] [(2, .d (.sl a1.length 0 (a1.flatMap eI.b))), (4, .d (.rp 1002 0)), (8, .d (.rp 1004 0)), (12, .d (iv v1)), (22, .d (bv (v1 != 0))), bxB 2005 (eXCategory.b a0), (2009, .r (.arr 1 [iv 0, nilv, nilv, nilv, nilv] []))] .nil (by kernel_rfl) (by kernel_rfl) ?_
  rcases Bool.eq_false_or_eq_true (v1 != 0) with h2 | h2
  · have hM := ite_true' hM h2
    refine tr_condTe (e := v1 != 0) h2 (by kernel_rfl) ?_
    refine tr_sr hT hm [] [8, 10, 2009] [(8, .d (.rp 1004 0)), (10, .d (iv v1)), (2009, .r (.arr 1 [iv 0, nilv, nilv, nilv, nilv] []))] (.cons (Nat.le_of_ble_eq_true (n := 5) (m := 5) rfl) .nil) (by kernel_rfl) (by kernel_rfl) ?_
    refine tr_ret (q_r (rg_r ?_))
    refine RetG.by (imp_cvB (r := 1004) (sz := 1) (cells := [iv 0, nilv, nilv, nilv, nilv]) (cells' := [iv 0, .fr 1 ([] : List Int).length (([] : List Int).flatMap eI.o), .fr 1 ([] : List Int).length (([] : List Int).flatMap eI.o), .fr 1 ([] : List Int).length (([] : List Int).flatMap eI.o), .fr 1 ([] : List (List Int)).length (([] : List (List Int)).flatMap (eS eI).o)]) (refs := []) (refs' := []) (.cons (.refl _) (.cons Sub.nil_fr (.cons Sub.nil_fr (.cons Sub.nil_fr (.cons Sub.nil_fr .nil))))) (by kernel_rfl) (by kernel_rfl) (by kernel_rfl)) ?_
    obtain rfl := Option.some.inj hM
    exact retg (names := []) .nil (by kernel_rfl)
  · have hM := ite_false' hM h2
    refine tr_condFe (e := v1 != 0) h2 (by kernel_rfl) ?_
    refine tr_skip (q_n ?_)
    refine tr_seq ?_
    obtain ⟨v3, hv3, hM⟩ := bind_some' hM
    obtain ⟨v4, hv4, hM⟩ := bind_some' hM
    refine tr_sr hT hm [(3, .call [] [] [.agg (eXCategory.b a0), .sl a1.length 0 (a1.flatMap eI.b)] [] (.fr 1 v3.length (v3.flatMap eI.o))), (4, .call [19000] [] [.sl a1.length 0 (a1.flatMap eI.b), .sl v3.length 0 (v3.flatMap eI.b)] [] (bv v4))] [2, 4, 8, 38, 2005, 2009] [(2, .d (.sl a1.length 0 (a1.flatMap eI.b))), (4, .d (.rp 1002 0)), (8, .d (.rp 1004 0)), (38, .d (bv (!v4))), bxB 2005 (eXCategory.b a0), (2009, .r (.arr 1 [iv 0, nilv, nilv, nilv, nilv] []))] (cc0 ok180 (spec_l02Close_c a0 a1 _ hv3) (by kernel_rfl) (cc (B := [19000]) (ρ := []) (rB := [(19000, .arr 1 (v3.flatMap eI.o) [])]) ok179 (spec_l01Same_c a1 v3 _ hv4) (.cons (.same rfl) (.cons (.of1 (.rs (r := 19000) (sz := 1) (refs := []) (memB (by kernel_rfl)) (by kernel_rfl) (bor_flat eI_ok _ _ _))) .nil)) (.inr ⟨.v, trivial⟩) .nil)) (by kernel_rfl) (by kernel_rfl) ?_
    rcases Bool.eq_false_or_eq_true v4 with h5 | h5
    · have hM := ite_true' hM h5
      refine tr_condFe (e := !v4) (congrArg not h5) (by kernel_rfl) ?_
      refine tr_skip (q_n ?_)
      obtain ⟨v6, hv6, hM⟩ := bind_some' hM
      refine tr_sr hT hm [(2, .call [] [] [.agg (eXCategory.b a0), .sl a1.length 0 (a1.flatMap eI.b)] [] (.agg (eXCategory.o v6)))] [8, 10, 2009, 50003, 50005, 50007, 50009] ([(8, .d (.rp 1004 0)), (10, .d (iv 0)), bxO 2009 25000 (eXCategory.o v6)] ++ rsS 25000 (eXCategory.o v6)) (cc0 ok181 (spec_l02Part_c a0 a1 _ hv6) (by kernel_rfl) (.cons (Nat.le_of_ble_eq_true (n := 5) (m := 5) rfl) .nil)) (by kernel_rfl) (by kernel_rfl) ?_
      refine tr_ret (rg_r ?_)
      obtain rfl := Option.some.inj hM
      exact retg (names := []) (.cons (lenO_flat eI_ok v6.From) (.cons (lenO_flat eI_ok v6.To) (.cons (lenO_flat eI_ok v6.Identity) (.cons (lenO_flat (eS_ok eI_ok) v6.Composites) .nil)))) (by kernel_rfl)
    · have hM := ite_false' hM h5
      refine tr_condTe (e := !v4) (congrArg not h5) (by kernel_rfl) ?_
      refine tr_sr hT hm [] [8, 10, 2009] [(8, .d (.rp 1004 0)), (10, .d (iv 5)), (2009, .r (.arr 1 [iv 0, nilv, nilv, nilv, nilv] []))] (.cons (Nat.le_of_ble_eq_true (n := 5) (m := 5) rfl) .nil) (by kernel_rfl) (by kernel_rfl) ?_
      refine tr_ret (q_r (rg_r ?_))
      refine RetG.by (imp_cvB (r := 1004) (sz := 1) (cells := [iv 0, nilv, nilv, nilv, nilv]) (cells' := [iv 0, .fr 1 ([] : List Int).length (([] : List Int).flatMap eI.o), .fr 1 ([] : List Int).length (([] : List Int).flatMap eI.o), .fr 1 ([] : List Int).length (([] : List Int).flatMap eI.o), .fr 1 ([] : List (List Int)).length (([] : List (List Int)).flatMap (eS eI).o)]) (refs := []) (refs' := []) (.cons (.refl _) (.cons Sub.nil_fr (.cons Sub.nil_fr (.cons Sub.nil_fr (.cons Sub.nil_fr .nil))))) (by kernel_rfl) (by kernel_rfl) (by kernel_rfl)) ?_
      obtain rfl := Option.some.inj hM
      exact retg (names := []) .nil (by kernel_rfl)

theorem ok43 : CallOk Try.prog 43 := callOk_of Try.func43 (by kernel_rfl) (by kernel_rfl)
theorem spec_InclusionFunctor_c (a0 : XCategory) (a1 : List Int) (r : XFunctor × Int) (hM : M.spec_InclusionFunctor a0 a1 = some r) :
    FnC Try.prog 43 [] [.agg (eXCategory.b a0), .sl a1.length 0 (a1.flatMap eI.b)] [] (.tup [.agg (eXFunctor.o r.1), iv r.2]) := by
  refine fnc_startG (N := 43) (np := 500) hT Try.func43 rfl rfl (by kernel_rfl) ?_
  unfold M.spec_InclusionFunctor at hM
  refine tr_start (ks := [0, 2]) (st' := [(0, .d (.agg (eXCategory.b a0))), (2, .d (.sl a1.length 0 (a1.flatMap eI.b)))]) (by kernel_rfl) ?_
  refine tr_sr hT hm [] [2, 4, 8, 2005, 2009] [(2, .d (.sl a1.length 0 (a1.flatMap eI.b))), (4, .d (.rp 1002 0)), (8, .d (.rp 1004 0)), bxB 2005 (eXCategory.b a0), (2009, .r (.arr 1 [iv 0, nilv, nilv, nilv, nilv, iv 0, nilv, nilv, nilv, nilv, nilv, nilv] []))] .nil (by kernel_rfl) (by kernel_rfl) ?_
  obtain ⟨v1, hv1, hM⟩ := bind_some' hM
  refine tr_sr hT hm [(2, .call [] [] [.agg (eXCategory.b a0), .sl a1.length 0 (a1.flatMap eI.b)] [] (.tup [.agg (eXCategory.o v1.1), iv v1.2]))] [2, 4, 8, 12, 14, 2005, 2009, 2013, 30003, 30005, 30007, 30009] ([(2, .d (.sl a1.length 0 (a1.flatMap eI.b))), (4, .d (.rp 1002 0)), (8, .d (.rp 1004 0)), (12, .d (.rp 1006 0)), (14, .d (iv v1.2)), bxB 2005 (eXCategory.b a0), (2009, .r (.arr 1 [iv 0, nilv, nilv, nilv, nilv, iv 0, nilv, nilv, nilv, nilv, nilv, nilv] [])), bxO 2013 15000 (eXCategory.o v1.1)] ++ rsS 15000 (eXCategory.o v1.1)) (cc0 ok100 (spec_SubcategoryOf_c a0 a1 _ hv1) (by kernel_rfl) (.cons (Nat.le_of_ble_eq_true (n := 5) (m := 5) rfl) .nil)) (by kernel_rfl) (by kernel_rfl) ?_
  refine tr_seq ?_
  refine tr_sr hT hm [] [2, 4, 8, 12, 14, 34, 2005, 2009, 2013, 30003, 30005, 30007, 30009] ([(2, .d (.sl a1.length 0 (a1.flatMap eI.b))), (4, .d (.rp 1002 0)), (8, .d (.rp 1004 0)), (12, .d (.rp 1006 0)), (14, .d (iv v1.2)), (34, .d (bv (v1.2 != 0))), bxB 2005 (eXCategory.b a0), (2009, .r (.arr 1 [iv 0, nilv, nilv, nilv, nilv, iv 0, nilv, nilv, nilv, nilv, nilv, nilv] [])), bxO 2013 15000 (eXCategory.o v1.1)] ++ rsS 15000 (eXCategory.o v1.1)) .nil (by kernel_rfl) (by kernel_rfl) ?_
  rcases Bool.eq_false_or_eq_true (v1.2 != 0) with h2 | h2
  · have hM := ite_true' hM h2
    refine tr_condTe (e := v1.2 != 0) h2 (by kernel_rfl) ?_
    refine tr_sr hT hm [] [8, 10, 2009] [(8, .d (.rp 1004 0)), (10, .d (iv v1.2)), (2009, .r (.arr 1 [iv 0, nilv, nilv, nilv, nilv, iv 0, nilv, nilv, nilv, nilv, nilv, nilv] []))] (.cons (Nat.le_of_ble_eq_true (n := 12) (m := 12) rfl) .nil) (by kernel_rfl) (by kernel_rfl) ?_
    refine tr_ret (q_r (rg_r ?_))
    refine RetG.by (imp_cvB (r := 1004) (sz := 1) (cells := [iv 0, nilv, nilv, nilv, nilv, iv 0, nilv, nilv, nilv, nilv, nilv, nilv]) (cells' := [iv 0, .fr 1 ([] : List Int).length (([] : List Int).flatMap eI.o), .fr 1 ([] : List Int).length (([] : List Int).flatMap eI.o), .fr 1 ([] : List Int).length (([] : List Int).flatMap eI.o), .fr 1 ([] : List (List Int)).length (([] : List (List Int)).flatMap (eS eI).o), iv 0, .fr 1 ([] : List Int).length (([] : List Int).flatMap eI.o), .fr 1 ([] : List Int).length (([] : List Int).flatMap eI.o), .fr 1 ([] : List Int).length (([] : List Int).flatMap eI.o), .fr 1 ([] : List (List Int)).length (([] : List (List Int)).flatMap (eS eI).o), .fr 1 ([] : List Int).length (([] : List Int).flatMap eI.o), .fr 1 ([] : List Int).length (([] : List Int).flatMap eI.o)]) (refs := []) (refs' := []) (.cons (.refl _) (.cons Sub.nil_fr (.cons Sub.nil_fr (.cons Sub.nil_fr (.cons Sub.nil_fr (.cons (.refl _) (.cons Sub.nil_fr (.cons Sub.nil_fr (.cons Sub.nil_fr (.cons Sub.nil_fr (.cons Sub.nil_fr (.cons Sub.nil_fr .nil)))))))))))) (by kernel_rfl) (by kernel_rfl) (by kernel_rfl)) ?_
    obtain rfl := Option.some.inj hM
    exact retg (names := []) .nil (by kernel_rfl)
  · have hM := ite_false' hM h2
    refine tr_condFe (e := v1.2 != 0) h2 (by kernel_rfl) ?_
    refine tr_skip (q_n ?_)
    refine tr_sr hT hm [] [2, 4, 8, 12, 16, 2005, 2009, 2013, 2041, 30003, 30005, 30007, 30009] ([(2, .d (.sl a1.length 0 (a1.flatMap eI.b))), (4, .d (.rp 1002 0)), (8, .d (.rp 1004 0)), (12, .d (.rp 1006 0)), (16, .d (.rs 1020 0 (([] : List Int).length))), bxB 2005 (eXCategory.b a0), (2009, .r (.arr 1 [iv 0, nilv, nilv, nilv, nilv, iv 0, nilv, nilv, nilv, nilv, nilv, nilv] [])), bxO 2013 15000 (eXCategory.o v1.1), (2041, .r (.arr 1 (([] : List Int).flatMap eI.o) []))] ++ rsS 15000 (eXCategory.o v1.1)) .nil (by kernel_rfl) (by kernel_rfl) ?_
    refine tr_seq ?_
    refine tr_sr hT hm [] [2, 4, 8, 12, 16, 18, 2005, 2009, 2013, 2041, 30003, 30005, 30007, 30009] ([(2, .d (.sl a1.length 0 (a1.flatMap eI.b))), (4, .d (.rp 1002 0)), (8, .d (.rp 1004 0)), (12, .d (.rp 1006 0)), (16, .d (.rs 1020 0 (([] : List Int).length))), (18, .d (iv 0)), bxB 2005 (eXCategory.b a0), (2009, .r (.arr 1 [iv 0, nilv, nilv, nilv, nilv, iv 0, nilv, nilv, nilv, nilv, nilv, nilv] [])), bxO 2013 15000 (eXCategory.o v1.1), (2041, .r (.arr 1 (([] : List Int).flatMap eI.o) []))] ++ rsS 15000 (eXCategory.o v1.1)) .nil (by kernel_rfl) (by kernel_rfl) ?_
    refine tr_block ?_
    refine tr_iterS (fun (s3 : (List Int) × Int) => ([(2, .d (.sl a1.length 0 (a1.flatMap eI.b))), (4, .d (.rp 1002 0)), (8, .d (.rp 1004 0)), (12, .d (.rp 1006 0)), (16, .d (.rs 1020 0 s3.1.length)), (18, .d (iv s3.2)), bxB 2005 (eXCategory.b a0), (2009, .r (.arr 1 [iv 0, nilv, nilv, nilv, nilv, iv 0, nilv, nilv, nilv, nilv, nilv, nilv] [])), bxO 2013 15000 (eXCategory.o v1.1), (2041, .r (.arr 1 (s3.1.flatMap eI.o) []))] ++ rsS 15000 (eXCategory.o v1.1))) (([] : List Int), 0) [2, 4, 8, 12, 16, 18, 2005, 2009, 2013, 2041, 30003, 30005, 30007, 30009] (by kernel_rfl) hM ?_
    intro n6 next4 ih5 s3 hM
    refine tr_seq ?_
    refine tr_sr hT hm [] [2, 4, 8, 12, 16, 18, 48, 2005, 2009, 2013, 2041, 30003, 30005, 30007, 30009] ([(2, .d (.sl a1.length 0 (a1.flatMap eI.b))), (4, .d (.rp 1002 0)), (8, .d (.rp 1004 0)), (12, .d (.rp 1006 0)), (16, .d (.rs 1020 0 s3.1.length)), (18, .d (iv s3.2)), (48, .d (bv (decide (s3.2 < a0.Objects)))), bxB 2005 (eXCategory.b a0), (2009, .r (.arr 1 [iv 0, nilv, nilv, nilv, nilv, iv 0, nilv, nilv, nilv, nilv, nilv, nilv] [])), bxO 2013 15000 (eXCategory.o v1.1), (2041, .r (.arr 1 (s3.1.flatMap eI.o) []))] ++ rsS 15000 (eXCategory.o v1.1)) .nil (by kernel_rfl) (by kernel_rfl) ?_
    rcases Bool.eq_false_or_eq_true (decide (s3.2 < a0.Objects)) with h7 | h7
    · have hM := ite_true' hM h7
      refine tr_condTe (e := decide (s3.2 < a0.Objects)) h7 (by kernel_rfl) ?_
      refine tr_skip (q_n ?_)
      refine tr_seq ?_
      refine tr_block ?_
      obtain ⟨y8, hy8, hM⟩ := bind_some' hM
      have hy8' := idx_some hy8
      obtain ⟨v9, hv9, hM⟩ := bind_some' hM
      refine tr_sr hT hm [(5, .val (iv y8)), (6, .call [] [] [.sl a1.length 0 (a1.flatMap eI.b), iv y8] [] (bv v9))] [2, 4, 8, 12, 16, 18, 66, 2005, 2009, 2013, 2041, 30003, 30005, 30007, 30009] ([(2, .d (.sl a1.length 0 (a1.flatMap eI.b))), (4, .d (.rp 1002 0)), (8, .d (.rp 1004 0)), (12, .d (.rp 1006 0)), (16, .d (.rs 1020 0 s3.1.length)), (18, .d (iv s3.2)), (66, .d (bv v9)), bxB 2005 (eXCategory.b a0), (2009, .r (.arr 1 [iv 0, nilv, nilv, nilv, nilv, iv 0, nilv, nilv, nilv, nilv, nilv, nilv] [])), bxO 2013 15000 (eXCategory.o v1.1), (2041, .r (.arr 1 (s3.1.flatMap eI.o) []))] ++ rsS 15000 (eXCategory.o v1.1)) (.cons hy8'.1 (.cons hy8'.2.1 (.cons (at_b0 eI_ok hy8'.2.2 (d := iv y8) (by kernel_rfl)) (cc0 ok101 (spec_l01Has_c a1 y8 _ hv9) (by kernel_rfl) .nil)))) (by kernel_rfl) (by kernel_rfl) ?_
      rcases Bool.eq_false_or_eq_true v9 with h10 | h10
      · have hM := ite_true' hM h10
        refine tr_condTe (e := v9) h10 (by kernel_rfl) ?_
        obtain ⟨h11, hM⟩ := chk_some hM
        refine tr_r hT hm [(3, .app true)] [2, 4, 8, 12, 16, 18, 2005, 2009, 2013, 2075, 30003, 30005, 30007, 30009] ([(2, .d (.sl a1.length 0 (a1.flatMap eI.b))), (4, .d (.rp 1002 0)), (8, .d (.rp 1004 0)), (12, .d (.rp 1006 0)), (16, .d (.rs 1037 0 (s3.1.length + (([s3.2] : List Int).length)))), (18, .d (iv s3.2)), bxB 2005 (eXCategory.b a0), (2009, .r (.arr 1 [iv 0, nilv, nilv, nilv, nilv, iv 0, nilv, nilv, nilv, nilv, nilv, nilv] [])), bxO 2013 15000 (eXCategory.o v1.1), (2075, .r (.arr 1 (s3.1.flatMap eI.o ++ ([s3.2] : List Int).flatMap eI.o) []))] ++ rsS 15000 (eXCategory.o v1.1)) (.cons (lenO_flat eI_ok s3.1) (.cons (lenO_flat eI_ok ([s3.2] : List Int)) (.cons h11 .nil))) (by kernel_rfl) (by kernel_rfl) (b_n (q_n ?_))
        refine Tr.by (imp_cvE (r := 1037) (sz := 1) (refs := []) (flat_app eI.o s3.1 ([s3.2] : List Int)) (menO_flat eI_ok _) (by kernel_rfl)) ?_
        refine Tr.by (imp_cvD (k := 16) (congrArg (D.rs 1037 0) ((len_app s3.1 ([s3.2] : List Int)) : s3.1.length + (([s3.2] : List Int).length) = (s3.1 ++ ([s3.2] : List Int)).length)) (by kernel_rfl)) ?_
        refine tr_r hT hm [] [2, 4, 8, 12, 16, 18, 2005, 2009, 2013, 2075, 30003, 30005, 30007, 30009] ([(2, .d (.sl a1.length 0 (a1.flatMap eI.b))), (4, .d (.rp 1002 0)), (8, .d (.rp 1004 0)), (12, .d (.rp 1006 0)), (16, .d (.rs 1037 0 ((s3.1 ++ ([s3.2] : List Int)).length))), (18, .d (iv (IntKind.i64.wrap (s3.2 + 1)))), bxB 2005 (eXCategory.b a0), (2009, .r (.arr 1 [iv 0, nilv, nilv, nilv, nilv, iv 0, nilv, nilv, nilv, nilv, nilv, nilv] [])), bxO 2013 15000 (eXCategory.o v1.1), (2075, .r (.arr 1 ((s3.1 ++ ([s3.2] : List Int)).flatMap eI.o) []))] ++ rsS 15000 (eXCategory.o v1.1)) .nil (by kernel_rfl) (by kernel_rfl) (l_n ?_)
        refine TrL.by (imp_sel (ks := [2, 4, 8, 12, 16, 18, 2005, 2009, 2013, 2075, 30003, 30005, 30007, 30009]) (st' := ([(2, .d (.sl a1.length 0 (a1.flatMap eI.b))), (4, .d (.rp 1002 0)), (8, .d (.rp 1004 0)), (12, .d (.rp 1006 0)), (16, .d (.rs 1037 0 ((s3.1 ++ ([s3.2] : List Int)).length))), (18, .d (iv (IntKind.i64.wrap (s3.2 + 1)))), bxB 2005 (eXCategory.b a0), (2009, .r (.arr 1 [iv 0, nilv, nilv, nilv, nilv, iv 0, nilv, nilv, nilv, nilv, nilv, nilv] [])), bxO 2013 15000 (eXCategory.o v1.1), (2075, .r (.arr 1 ((s3.1 ++ ([s3.2] : List Int)).flatMap eI.o) []))] ++ rsS 15000 (eXCategory.o v1.1))) (by kernel_rfl)) ?_
        refine TrL.by (imp_rename (r := 1037) (q := 1020) (by kernel_rfl) (Nat.le_of_ble_eq_true rfl)) ?_
        exact trl_start (ks := [2, 4, 8, 12, 16, 18, 2005, 2009, 2013, 2041, 30003, 30005, 30007, 30009]) (by kernel_rfl) (ih5 (s3.1 ++ ([s3.2] : List Int), IntKind.i64.wrap (s3.2 + 1)) hM)
      · have hM := ite_false' hM h10
        refine tr_condFe (e := v9) h10 (by kernel_rfl) ?_
        refine tr_skip (b_n (q_n ?_))
        refine tr_r hT hm [] [2, 4, 8, 12, 16, 18, 2005, 2009, 2013, 2041, 30003, 30005, 30007, 30009] ([(2, .d (.sl a1.length 0 (a1.flatMap eI.b))), (4, .d (.rp 1002 0)), (8, .d (.rp 1004 0)), (12, .d (.rp 1006 0)), (16, .d (.rs 1020 0 s3.1.length)), (18, .d (iv (IntKind.i64.wrap (s3.2 + 1)))), bxB 2005 (eXCategory.b a0), (2009, .r (.arr 1 [iv 0, nilv, nilv, nilv, nilv, iv 0, nilv, nilv, nilv, nilv, nilv, nilv] [])), bxO 2013 15000 (eXCategory.o v1.1), (2041, .r (.arr 1 (s3.1.flatMap eI.o) []))] ++ rsS 15000 (eXCategory.o v1.1)) .nil (by kernel_rfl) (by kernel_rfl) (l_n ?_)
        exact trl_start (ks := [2, 4, 8, 12, 16, 18, 2005, 2009, 2013, 2041, 30003, 30005, 30007, 30009]) (by kernel_rfl) (ih5 (s3.1, IntKind.i64.wrap (s3.2 + 1)) hM)
    · have hM := ite_false' hM h7
      refine tr_condFe (e := decide (s3.2 < a0.Objects)) h7 (by kernel_rfl) ?_
      refine tr_exit (q_x (l_x (b_h (q_n ?_))))
      obtain ⟨v12, hv12, hM⟩ := bind_some' hM
      refine tr_sr hT hm [(4, .call (rsR 15000 (eXCategory.o v1.1) ++ [1020]) [] [.agg (eXCategory.b v1.1), .agg (eXCategory.b a0), .sl s3.1.length 0 (s3.1.flatMap eI.b), .sl a1.length 0 (a1.flatMap eI.b)] [] (.agg (eXFunctor.o v12)))] [8, 10, 2009, 88003, 88005, 88007, 88009, 88013, 88015, 88017, 88019, 88021, 88023] ([(8, .d (.rp 1004 0)), (10, .d (iv 0)), bxO 2009 44000 (eXFunctor.o v12)] ++ rsS 44000 (eXFunctor.o v12)) (cc (B := (rsR 15000 (eXCategory.o v1.1) ++ [1020])) (ρ := []) (rB := (rsP 15000 (eXCategory.o v1.1) ++ [(1020, .arr 1 (s3.1.flatMap eI.o) [])])) ok102 (spec_l06Make_c v1.1 a0 s3.1 a1 _ hv12) (.cons (bor_rs eXCategory_r (q := 15000) (x := v1.1) (by kernel_rfl) (by kernel_rfl)) (.cons (.same rfl) (.cons (.of1 (.rs (r := 1020) (sz := 1) (refs := []) (memB (by kernel_rfl)) (by kernel_rfl) (bor_flat eI_ok _ _ _))) (.cons (.same rfl) .nil)))) (.inr ⟨(.agg (eXFunctor_nb _)), trivial⟩) (.cons (Nat.le_of_ble_eq_true (n := 12) (m := 12) rfl) .nil)) (by kernel_rfl) (by kernel_rfl) ?_
      refine tr_ret (rg_r ?_)
      obtain rfl := Option.some.inj hM
      exact retg (names := []) (.cons (lenO_flat eI_ok v12.Source.From) (.cons (lenO_flat eI_ok v12.Source.To) (.cons (lenO_flat eI_ok v12.Source.Identity) (.cons (lenO_flat (eS_ok eI_ok) v12.Source.Composites) (.cons (lenO_flat eI_ok v12.Target.From) (.cons (lenO_flat eI_ok v12.Target.To) (.cons (lenO_flat eI_ok v12.Target.Identity) (.cons (lenO_flat (eS_ok eI_ok) v12.Target.Composites) (.cons (lenO_flat eI_ok v12.Objects) (.cons (lenO_flat eI_ok v12.Arrows) .nil)))))))))) (by kernel_rfl)

theorem ok183 : CallOk Try.prog 183 := callOk_of Try.func183 (by kernel_rfl) (by kernel_rfl)
theorem impl_arrowCode_c (a0 : XCategory) (a1 : List Int) (r : Int) (hM : M.impl_arrowCode a0 a1 = some r) :
    FnC Try.prog 183 [] [.pt (eXCategory.b a0) 0, .sl a1.length 0 (a1.flatMap eI.b)] [] (iv r) := by
  refine fnc_startG (N := 13) (np := 500) hT Try.func183 rfl rfl (by kernel_rfl) ?_
  unfold M.impl_arrowCode at hM
  refine tr_start (ks := [0, 2]) (st' := [(0, .d (.pt (eXCategory.b a0) 0)), (2, .d (.sl a1.length 0 (a1.flatMap eI.b)))]) (by kernel_rfl) ?_
  refine tr_sr hT hm [] [0, 2] [(0, .d (.pt (eXCategory.b a0) 0)), (2, .d (.sl a1.length 0 (a1.flatMap eI.b)))] .nil (by kernel_rfl) (by kernel_rfl) ?_
  refine tr_seq ?_
  obtain ⟨v1, hv1, hM⟩ := bind_some' hM
  refine tr_sr hT hm [(1, .call [] [] [.pt (eXCategory.b a0) 0] [] (bv v1))] [0, 2, 14] [(0, .d (.pt (eXCategory.b a0) 0)), (2, .d (.sl a1.length 0 (a1.flatMap eI.b))), (14, .d (bv (!v1)))] (cc0 ok115 (impl_Category_isCategory_c a0 _ hv1) (by kernel_rfl) .nil) (by kernel_rfl) (by kernel_rfl) ?_
  rcases Bool.eq_false_or_eq_true v1 with h2 | h2
  · have hM := ite_true' hM h2
    refine tr_condFe (e := !v1) (congrArg not h2) (by kernel_rfl) ?_
    refine tr_skip (q_n ?_)
    refine tr_seq ?_
    obtain ⟨v3, hv3, hM⟩ := bind_some' hM
    obtain ⟨v4, hv4, hM⟩ := bind_some' hM
    refine tr_sr hT hm [(2, .call [] [] [.pt (eXCategory.b a0) 0] [] (iv v3)), (3, .call [] [] [.sl a1.length 0 (a1.flatMap eI.b), iv v3] [] (bv v4))] [24] [(24, .d (bv (!v4)))] (cc0 ok161 (impl_Category_arrows_c a0 _ hv3) (by kernel_rfl) (cc0 ok160 (impl_within_c a1 v3 _ hv4) (by kernel_rfl) .nil)) (by kernel_rfl) (by kernel_rfl) ?_
    rcases Bool.eq_false_or_eq_true v4 with h5 | h5
    · have hM := ite_true' hM h5
      refine tr_condFe (e := !v4) (congrArg not h5) (by kernel_rfl) ?_
      refine tr_skip (q_n ?_)
      refine tr_sr hT hm [] [8] [(8, .d (iv 0))] .nil (by kernel_rfl) (by kernel_rfl) ?_
      refine tr_ret (rg_r ?_)
      obtain rfl := Option.some.inj hM
      exact retg (names := []) .nil (by kernel_rfl)
    · have hM := ite_false' hM h5
      refine tr_condTe (e := !v4) (congrArg not h5) (by kernel_rfl) ?_
      refine tr_sr hT hm [] [8] [(8, .d (iv 2))] .nil (by kernel_rfl) (by kernel_rfl) ?_
      refine tr_ret (q_r (rg_r ?_))
      obtain rfl := Option.some.inj hM
      exact retg (names := []) .nil (by kernel_rfl)
  · have hM := ite_false' hM h2
    refine tr_condTe (e := !v1) (congrArg not h2) (by kernel_rfl) ?_
    refine tr_sr hT hm [] [8] [(8, .d (iv 1))] .nil (by kernel_rfl) (by kernel_rfl) ?_
    refine tr_ret (q_r (rg_r ?_))
    obtain rfl := Option.some.inj hM
    exact retg (names := []) .nil (by kernel_rfl)

theorem ok256 : CallOk Try.prog 256 := callOk_of Try.func256 (by kernel_rfl) (by kernel_rfl)
theorem impl_rising_c (a0 : List Int) (r : Bool) (hM : M.impl_rising a0 = some r) :
    FnC Try.prog 256 [] [.sl a0.length 0 (a0.flatMap eI.b)] [] (bv r) := by
  refine fnc_startG (N := 20) (np := 500) hT Try.func256 rfl rfl (by kernel_rfl) ?_
  unfold M.impl_rising at hM
  refine tr_start (ks := [0]) (st' := [(0, .d (.sl a0.length 0 (a0.flatMap eI.b)))]) (by kernel_rfl) ?_
  refine tr_sr hT hm [] [0] [(0, .d (.sl a0.length 0 (a0.flatMap eI.b)))] .nil (by kernel_rfl) (by kernel_rfl) ?_
  refine tr_seq ?_
  refine tr_sr hT hm [] [0, 6] [(0, .d (.sl a0.length 0 (a0.flatMap eI.b))), (6, .d (iv 1))] .nil (by kernel_rfl) (by kernel_rfl) ?_
  refine tr_block ?_
  refine tr_iterS (fun (s1 : Int) => [(0, .d (.sl a0.length 0 (a0.flatMap eI.b))), (6, .d (iv s1))]) 1 [0, 6] (by kernel_rfl) hM ?_
  intro n4 next2 ih3 s1 hM
  refine tr_seq ?_
  refine tr_sr hT hm [] [0, 6, 14] [(0, .d (.sl a0.length 0 (a0.flatMap eI.b))), (6, .d (iv s1)), (14, .d (bv (decide (s1 < (a0.length : Int)))))] .nil (by kernel_rfl) (by kernel_rfl) ?_
  rcases Bool.eq_false_or_eq_true (decide (s1 < (a0.length : Int))) with h5 | h5
  · have hM := ite_true' hM h5
    refine tr_condTe (e := decide (s1 < (a0.length : Int))) h5 (by kernel_rfl) ?_
    refine tr_skip (q_n ?_)
    refine tr_seq ?_
    refine tr_block ?_
    obtain ⟨y6, hy6, hM⟩ := bind_some' hM
    have hy6' := idx_some hy6
    obtain ⟨y7, hy7, hM⟩ := bind_some' hM
    have hy7' := idx_some hy7
    refine tr_sr hT hm [(4, .val (iv y6)), (8, .val (iv y7))] [0, 6, 38] [(0, .d (.sl a0.length 0 (a0.flatMap eI.b))), (6, .d (iv s1)), (38, .d (bv (decide (y6 ≥ y7))))] (.cons hy6'.1 (.cons hy6'.2.1 (.cons (at_b0 eI_ok hy6'.2.2 (d := iv y6) (by kernel_rfl)) (.cons hy7'.1 (.cons hy7'.2.1 (.cons (at_b0 eI_ok hy7'.2.2 (d := iv y7) (by kernel_rfl)) .nil)))))) (by kernel_rfl) (by kernel_rfl) ?_
    rcases Bool.eq_false_or_eq_true (decide (y6 ≥ y7)) with h8 | h8
    · have hM := ite_true' hM h8
      refine tr_condTe (e := decide (y6 ≥ y7)) h8 (by kernel_rfl) ?_
      refine tr_sr hT hm [] [4] [(4, .d (bv false))] .nil (by kernel_rfl) (by kernel_rfl) ?_
      refine tr_ret (b_r (q_r (l_r (b_r (q_r (rg_r ?_))))))
      obtain rfl := Option.some.inj hM
      exact retg (names := []) .nil (by kernel_rfl)
    · have hM := ite_false' hM h8
      refine tr_condFe (e := decide (y6 ≥ y7)) h8 (by kernel_rfl) ?_
      refine tr_skip (b_n (q_n ?_))
      refine tr_r hT hm [] [0, 6] [(0, .d (.sl a0.length 0 (a0.flatMap eI.b))), (6, .d (iv (IntKind.i64.wrap (s1 + 1))))] .nil (by kernel_rfl) (by kernel_rfl) (l_n ?_)
      exact trl_start (ks := [0, 6]) (by kernel_rfl) (ih3 (IntKind.i64.wrap (s1 + 1)) hM)
  · have hM := ite_false' hM h5
    refine tr_condFe (e := decide (s1 < (a0.length : Int))) h5 (by kernel_rfl) ?_
    refine tr_exit (q_x (l_x (b_h (q_n ?_))))
    refine tr_sr hT hm [] [4] [(4, .d (bv true))] .nil (by kernel_rfl) (by kernel_rfl) ?_
    refine tr_ret (rg_r ?_)
    obtain rfl := Option.some.inj hM
    exact retg (names := []) .nil (by kernel_rfl)

theorem ok184 : CallOk Try.prog 184 := callOk_of Try.func184 (by kernel_rfl) (by kernel_rfl)
theorem impl_Category_isSubcategory_c (a0 : XCategory) (a1 : List Int) (r : Bool) (hM : M.impl_Category_isSubcategory a0 a1 = some r) :
    FnC Try.prog 184 [] [.pt (eXCategory.b a0) 0, .sl a1.length 0 (a1.flatMap eI.b)] [] (bv r) := by
  refine fnc_startG (N := 80) (np := 500) hT Try.func184 rfl rfl (by kernel_rfl) ?_
  unfold M.impl_Category_isSubcategory at hM
  refine tr_start (ks := [0, 2]) (st' := [(0, .d (.pt (eXCategory.b a0) 0)), (2, .d (.sl a1.length 0 (a1.flatMap eI.b)))]) (by kernel_rfl) ?_
  refine tr_sr hT hm [] [0, 2] [(0, .d (.pt (eXCategory.b a0) 0)), (2, .d (.sl a1.length 0 (a1.flatMap eI.b)))] .nil (by kernel_rfl) (by kernel_rfl) ?_
  refine tr_seq ?_
  obtain ⟨v1, hv1, hM⟩ := bind_some' hM
  refine tr_sr hT hm [(1, .call [] [] [.sl a1.length 0 (a1.flatMap eI.b)] [] (bv v1))] [0, 2, 26] [(0, .d (.pt (eXCategory.b a0) 0)), (2, .d (.sl a1.length 0 (a1.flatMap eI.b))), (26, .d (bv (!v1)))] (cc0 ok256 (impl_rising_c a1 _ hv1) (by kernel_rfl) .nil) (by kernel_rfl) (by kernel_rfl) ?_
  rcases Bool.eq_false_or_eq_true v1 with h2 | h2
  · have hM := ite_true' hM h2
    refine tr_condFe (e := !v1) (congrArg not h2) (by kernel_rfl) ?_
    refine tr_skip (q_n ?_)
    obtain ⟨v3, hv3, hM⟩ := bind_some' hM
    refine tr_sr hT hm [(2, .call [] [] [.pt (eXCategory.b a0) 0, .sl a1.length 0 (a1.flatMap eI.b)] [] (.fr 1 v3.length (v3.flatMap eB.o)))] [0, 2, 10, 36001] [(0, .d (.pt (eXCategory.b a0) 0)), (2, .d (.sl a1.length 0 (a1.flatMap eI.b))), (10, .d (.rs 18000 0 v3.length)), (36001, .r (.arr 1 (v3.flatMap eB.o) []))] (cc0 ok185 (impl_Category_marks_c a0 a1 _ hv3) (by kernel_rfl) .nil) (by kernel_rfl) (by kernel_rfl) ?_
    refine tr_seq ?_
    refine tr_sr hT hm [] [0, 2, 10, 34, 36, 38, 36001] [(0, .d (.pt (eXCategory.b a0) 0)), (2, .d (.sl a1.length 0 (a1.flatMap eI.b))), (10, .d (.rs 18000 0 v3.length)), (34, .d (.sl a1.length 0 (a1.flatMap eI.b))), (36, .d (iv (a1.length : Int))), (38, .d (iv 0)), (36001, .r (.arr 1 (v3.flatMap eB.o) []))] .nil (by kernel_rfl) (by kernel_rfl) ?_
    refine tr_block ?_
    refine tr_iterS (fun (s4 : Int) => [(0, .d (.pt (eXCategory.b a0) 0)), (2, .d (.sl a1.length 0 (a1.flatMap eI.b))), (10, .d (.rs 18000 0 v3.length)), (34, .d (.sl a1.length 0 (a1.flatMap eI.b))), (36, .d (iv (a1.length : Int))), (38, .d (iv s4)), (36001, .r (.arr 1 (v3.flatMap eB.o) []))]) 0 [0, 2, 10, 34, 36, 38, 36001] (by kernel_rfl) hM ?_
    intro n7 next5 ih6 s4 hM
    refine tr_sr hT hm [] [0, 2, 10, 34, 36, 38, 40, 36001] [(0, .d (.pt (eXCategory.b a0) 0)), (2, .d (.sl a1.length 0 (a1.flatMap eI.b))), (10, .d (.rs 18000 0 v3.length)), (34, .d (.sl a1.length 0 (a1.flatMap eI.b))), (36, .d (iv (a1.length : Int))), (38, .d (iv s4)), (40, .d (bv (decide (s4 < (a1.length : Int))))), (36001, .r (.arr 1 (v3.flatMap eB.o) []))] .nil (by kernel_rfl) (by kernel_rfl) ?_
    refine tr_seq ?_
    rcases Bool.eq_false_or_eq_true (decide (s4 < (a1.length : Int))) with h8 | h8
    · have hM := ite_true' hM h8
      refine tr_condTe (e := decide (s4 < (a1.length : Int))) h8 (by kernel_rfl) ?_
      refine tr_skip (q_n ?_)
      refine tr_seq ?_
      refine tr_block ?_
      obtain ⟨y9, hy9, hM⟩ := bind_some' hM
      have hy9' := idx_some hy9
      refine tr_sr hT hm [(1, .val (iv y9))] [0, 2, 10, 14, 34, 36, 38, 36001] [(0, .d (.pt (eXCategory.b a0) 0)), (2, .d (.sl a1.length 0 (a1.flatMap eI.b))), (10, .d (.rs 18000 0 v3.length)), (14, .d (iv y9)), (34, .d (.sl a1.length 0 (a1.flatMap eI.b))), (36, .d (iv (a1.length : Int))), (38, .d (iv s4)), (36001, .r (.arr 1 (v3.flatMap eB.o) []))] (.cons hy9'.1 (.cons hy9'.2.1 (.cons (at_b0 eI_ok hy9'.2.2 (d := iv y9) (by kernel_rfl)) .nil))) (by kernel_rfl) (by kernel_rfl) ?_
      refine tr_seq ?_
      obtain ⟨y10, hy10, hM⟩ := bind_some' hM
      have hy10' := idx_some hy10
      obtain ⟨y11, hy11, hM⟩ := bind_some' hM
      have hy11' := idx_some hy11
      obtain ⟨y12, hy12, hM⟩ := bind_some' hM
      have hy12' := idx_some hy12
      rcases Bool.eq_false_or_eq_true y12 with h13 | h13
      · have hM := ite_true' hM h13
        obtain ⟨y14, hy14, hM⟩ := bind_some' hM
        have hy14' := idx_some hy14
        obtain ⟨y15, hy15, hM⟩ := bind_some' hM
        have hy15' := idx_some hy15
        obtain ⟨y16, hy16, hM⟩ := bind_some' hM
        have hy16' := idx_some hy16
        refine tr_sr hT hm [(11, .val (iv y10)), (13, .val (iv y11)), (15, .val (bv y12)), (17, .val (bv false)), (29, .val (iv y14)), (31, .val (iv y15)), (33, .val (bv y16))] [0, 2, 10, 14, 34, 36, 38, 116, 36001] [(0, .d (.pt (eXCategory.b a0) 0)), (2, .d (.sl a1.length 0 (a1.flatMap eI.b))), (10, .d (.rs 18000 0 v3.length)), (14, .d (iv y9)), (34, .d (.sl a1.length 0 (a1.flatMap eI.b))), (36, .d (iv (a1.length : Int))), (38, .d (iv s4)), (116, .d (bv (!y16))), (36001, .r (.arr 1 (v3.flatMap eB.o) []))] (.cons hy10'.1 (.cons hy10'.2.1 (.cons (at_b0 eI_ok hy10'.2.2 (d := iv y10) (by kernel_rfl)) (.cons hy11'.1 (.cons hy11'.2.1 (.cons (at_b0 eI_ok hy11'.2.2 (d := iv y11) (by kernel_rfl)) (.cons hy12'.1 (.cons hy12'.2.1 (.cons (at_o0 eB_ok hy12'.2.2 (d := bv y12) (by kernel_rfl)) (.cons (congrArg (fun b => bv b) (congrArg not h13)) (.cons hy14'.1 (.cons hy14'.2.1 (.cons (at_b0 eI_ok hy14'.2.2 (d := iv y14) (by kernel_rfl)) (.cons hy15'.1 (.cons hy15'.2.1 (.cons (at_b0 eI_ok hy15'.2.2 (d := iv y15) (by kernel_rfl)) (.cons hy16'.1 (.cons hy16'.2.1 (.cons (at_o0 eB_ok hy16'.2.2 (d := bv y16) (by kernel_rfl)) .nil))))))))))))))))))) (by kernel_rfl) (by kernel_rfl) ?_
        rcases Bool.eq_false_or_eq_true y16 with h17 | h17
        · have hM := ite_true' hM h17
          refine tr_condFe (e := !y16) (congrArg not h17) (by kernel_rfl) ?_
          refine tr_skip (q_n ?_)
          refine tr_sr hT hm [] [0, 2, 10, 14, 34, 36, 38, 118, 120, 122, 36001] [(0, .d (.pt (eXCategory.b a0) 0)), (2, .d (.sl a1.length 0 (a1.flatMap eI.b))), (10, .d (.rs 18000 0 v3.length)), (14, .d (iv y9)), (34, .d (.sl a1.length 0 (a1.flatMap eI.b))), (36, .d (iv (a1.length : Int))), (38, .d (iv s4)), (118, .d (.sl a1.length 0 (a1.flatMap eI.b))), (120, .d (iv (a1.length : Int))), (122, .d (iv 0)), (36001, .r (.arr 1 (v3.flatMap eB.o) []))] .nil (by kernel_rfl) (by kernel_rfl) ?_
          refine tr_block ?_
          refine tr_iterS (fun (s18 : Int) => [(0, .d (.pt (eXCategory.b a0) 0)), (2, .d (.sl a1.length 0 (a1.flatMap eI.b))), (10, .d (.rs 18000 0 v3.length)), (14, .d (iv y9)), (34, .d (.sl a1.length 0 (a1.flatMap eI.b))), (36, .d (iv (a1.length : Int))), (38, .d (iv s4)), (118, .d (.sl a1.length 0 (a1.flatMap eI.b))), (120, .d (iv (a1.length : Int))), (122, .d (iv s18)), (36001, .r (.arr 1 (v3.flatMap eB.o) []))]) 0 [0, 2, 10, 14, 34, 36, 38, 118, 120, 122, 36001] (by kernel_rfl) hM ?_
          intro n21 next19 ih20 s18 hM
          refine tr_sr hT hm [] [0, 2, 10, 14, 34, 36, 38, 118, 120, 122, 124, 36001] [(0, .d (.pt (eXCategory.b a0) 0)), (2, .d (.sl a1.length 0 (a1.flatMap eI.b))), (10, .d (.rs 18000 0 v3.length)), (14, .d (iv y9)), (34, .d (.sl a1.length 0 (a1.flatMap eI.b))), (36, .d (iv (a1.length : Int))), (38, .d (iv s4)), (118, .d (.sl a1.length 0 (a1.flatMap eI.b))), (120, .d (iv (a1.length : Int))), (122, .d (iv s18)), (124, .d (bv (decide (s18 < (a1.length : Int))))), (36001, .r (.arr 1 (v3.flatMap eB.o) []))] .nil (by kernel_rfl) (by kernel_rfl) ?_
          refine tr_seq ?_
          rcases Bool.eq_false_or_eq_true (decide (s18 < (a1.length : Int))) with h22 | h22
          · have hM := ite_true' hM h22
            refine tr_condTe (e := decide (s18 < (a1.length : Int))) h22 (by kernel_rfl) ?_
            refine tr_skip (q_n ?_)
            refine tr_seq ?_
            refine tr_block ?_
            obtain ⟨y23, hy23, hM⟩ := bind_some' hM
            have hy23' := idx_some hy23
            refine tr_sr hT hm [(1, .val (iv y23))] [0, 2, 10, 14, 18, 34, 36, 38, 118, 120, 122, 36001] [(0, .d (.pt (eXCategory.b a0) 0)), (2, .d (.sl a1.length 0 (a1.flatMap eI.b))), (10, .d (.rs 18000 0 v3.length)), (14, .d (iv y9)), (18, .d (iv y23)), (34, .d (.sl a1.length 0 (a1.flatMap eI.b))), (36, .d (iv (a1.length : Int))), (38, .d (iv s4)), (118, .d (.sl a1.length 0 (a1.flatMap eI.b))), (120, .d (iv (a1.length : Int))), (122, .d (iv s18)), (36001, .r (.arr 1 (v3.flatMap eB.o) []))] (.cons hy23'.1 (.cons hy23'.2.1 (.cons (at_b0 eI_ok hy23'.2.2 (d := iv y23) (by kernel_rfl)) .nil))) (by kernel_rfl) (by kernel_rfl) ?_
            obtain ⟨v24, hv24, hM⟩ := bind_some' hM
            refine tr_sr hT hm [(3, .call [] [] [.pt (eXCategory.b a0) 0, iv y9, iv y23] [] (iv v24))] [0, 2, 10, 14, 20, 34, 36, 38, 118, 120, 122, 36001] [(0, .d (.pt (eXCategory.b a0) 0)), (2, .d (.sl a1.length 0 (a1.flatMap eI.b))), (10, .d (.rs 18000 0 v3.length)), (14, .d (iv y9)), (20, .d (iv v24)), (34, .d (.sl a1.length 0 (a1.flatMap eI.b))), (36, .d (iv (a1.length : Int))), (38, .d (iv s4)), (118, .d (.sl a1.length 0 (a1.flatMap eI.b))), (120, .d (iv (a1.length : Int))), (122, .d (iv s18)), (36001, .r (.arr 1 (v3.flatMap eB.o) []))] (cc0 ok163 (impl_Category_then_c a0 y9 y23 _ hv24) (by kernel_rfl) .nil) (by kernel_rfl) (by kernel_rfl) ?_
            rcases Bool.eq_false_or_eq_true (decide (v24 ≥ 0)) with h25 | h25
            · have hM := ite_true' hM h25
              obtain ⟨y26, hy26, hM⟩ := bind_some' hM
              have hy26' := idx_some hy26
              refine tr_sr hT hm [(2, .val (bv true)), (6, .val (bv y26))] [0, 2, 10, 14, 34, 36, 38, 118, 120, 122, 154, 36001] [(0, .d (.pt (eXCategory.b a0) 0)), (2, .d (.sl a1.length 0 (a1.flatMap eI.b))), (10, .d (.rs 18000 0 v3.length)), (14, .d (iv y9)), (34, .d (.sl a1.length 0 (a1.flatMap eI.b))), (36, .d (iv (a1.length : Int))), (38, .d (iv s4)), (118, .d (.sl a1.length 0 (a1.flatMap eI.b))), (120, .d (iv (a1.length : Int))), (122, .d (iv s18)), (154, .d (bv (!y26))), (36001, .r (.arr 1 (v3.flatMap eB.o) []))] (.cons (congrArg (fun b => bv b) h25) (.cons hy26'.1 (.cons hy26'.2.1 (.cons (at_o0 eB_ok hy26'.2.2 (d := bv y26) (by kernel_rfl)) .nil)))) (by kernel_rfl) (by kernel_rfl) ?_
              rcases Bool.eq_false_or_eq_true y26 with h27 | h27
              · have hM := ite_true' hM h27
                refine tr_condFe (e := !y26) (congrArg not h27) (by kernel_rfl) ?_
                refine tr_skip (b_n (q_n ?_))
                refine tr_r hT hm [] [0, 2, 10, 14, 34, 36, 38, 118, 120, 122, 36001] [(0, .d (.pt (eXCategory.b a0) 0)), (2, .d (.sl a1.length 0 (a1.flatMap eI.b))), (10, .d (.rs 18000 0 v3.length)), (14, .d (iv y9)), (34, .d (.sl a1.length 0 (a1.flatMap eI.b))), (36, .d (iv (a1.length : Int))), (38, .d (iv s4)), (118, .d (.sl a1.length 0 (a1.flatMap eI.b))), (120, .d (iv (a1.length : Int))), (122, .d (iv (IntKind.i64.wrap (s18 + 1)))), (36001, .r (.arr 1 (v3.flatMap eB.o) []))] .nil (by kernel_rfl) (by kernel_rfl) (l_n ?_)
                exact trl_start (ks := [0, 2, 10, 14, 34, 36, 38, 118, 120, 122, 36001]) (by kernel_rfl) (ih20 (IntKind.i64.wrap (s18 + 1)) hM)
              · have hM := ite_false' hM h27
                refine tr_condTe (e := !y26) (congrArg not h27) (by kernel_rfl) ?_
                refine tr_sr hT hm [] [8] [(8, .d (bv false))] .nil (by kernel_rfl) (by kernel_rfl) ?_
                refine tr_ret (b_r (q_r (l_r (b_r (b_r (q_r (l_r (b_r (q_r (rg_r ?_))))))))))
                obtain rfl := Option.some.inj hM
                exact retg (names := []) .nil (by kernel_rfl)
            · have hM := ite_false' hM h25
              refine tr_sr hT hm [(2, .val (bv false))] [0, 2, 10, 14, 34, 36, 38, 118, 120, 122, 154, 36001] [(0, .d (.pt (eXCategory.b a0) 0)), (2, .d (.sl a1.length 0 (a1.flatMap eI.b))), (10, .d (.rs 18000 0 v3.length)), (14, .d (iv y9)), (34, .d (.sl a1.length 0 (a1.flatMap eI.b))), (36, .d (iv (a1.length : Int))), (38, .d (iv s4)), (118, .d (.sl a1.length 0 (a1.flatMap eI.b))), (120, .d (iv (a1.length : Int))), (122, .d (iv s18)), (154, .d (bv false)), (36001, .r (.arr 1 (v3.flatMap eB.o) []))] (.cons (congrArg (fun b => bv b) h25) .nil) (by kernel_rfl) (by kernel_rfl) ?_
              refine tr_condF (by kernel_rfl) ?_
              refine tr_skip (b_n (q_n ?_))
              refine tr_r hT hm [] [0, 2, 10, 14, 34, 36, 38, 118, 120, 122, 36001] [(0, .d (.pt (eXCategory.b a0) 0)), (2, .d (.sl a1.length 0 (a1.flatMap eI.b))), (10, .d (.rs 18000 0 v3.length)), (14, .d (iv y9)), (34, .d (.sl a1.length 0 (a1.flatMap eI.b))), (36, .d (iv (a1.length : Int))), (38, .d (iv s4)), (118, .d (.sl a1.length 0 (a1.flatMap eI.b))), (120, .d (iv (a1.length : Int))), (122, .d (iv (IntKind.i64.wrap (s18 + 1)))), (36001, .r (.arr 1 (v3.flatMap eB.o) []))] .nil (by kernel_rfl) (by kernel_rfl) (l_n ?_)
              exact trl_start (ks := [0, 2, 10, 14, 34, 36, 38, 118, 120, 122, 36001]) (by kernel_rfl) (ih20 (IntKind.i64.wrap (s18 + 1)) hM)
          · have hM := ite_false' hM h22
            refine tr_condFe (e := decide (s18 < (a1.length : Int))) h22 (by kernel_rfl) ?_
            refine tr_exit (q_x (l_x (b_h (b_n (q_n ?_)))))
            refine tr_r hT hm [] [0, 2, 10, 34, 36, 38, 36001] [(0, .d (.pt (eXCategory.b a0) 0)), (2, .d (.sl a1.length 0 (a1.flatMap eI.b))), (10, .d (.rs 18000 0 v3.length)), (34, .d (.sl a1.length 0 (a1.flatMap eI.b))), (36, .d (iv (a1.length : Int))), (38, .d (iv (IntKind.i64.wrap (s4 + 1)))), (36001, .r (.arr 1 (v3.flatMap eB.o) []))] .nil (by kernel_rfl) (by kernel_rfl) (l_n ?_)
            exact trl_start (ks := [0, 2, 10, 34, 36, 38, 36001]) (by kernel_rfl) (ih6 (IntKind.i64.wrap (s4 + 1)) hM)
        · have hM := ite_false' hM h17
          refine tr_condTe (e := !y16) (congrArg not h17) (by kernel_rfl) ?_
          refine tr_sr hT hm [] [8] [(8, .d (bv false))] .nil (by kernel_rfl) (by kernel_rfl) ?_
          refine tr_ret (q_r (b_r (q_r (l_r (b_r (q_r (rg_r ?_)))))))
          obtain rfl := Option.some.inj hM
          exact retg (names := []) .nil (by kernel_rfl)
      · have hM := ite_false' hM h13
        refine tr_sr hT hm [(11, .val (iv y10)), (13, .val (iv y11)), (15, .val (bv y12)), (17, .val (bv true))] [0, 2, 10, 14, 34, 36, 38, 116, 36001] [(0, .d (.pt (eXCategory.b a0) 0)), (2, .d (.sl a1.length 0 (a1.flatMap eI.b))), (10, .d (.rs 18000 0 v3.length)), (14, .d (iv y9)), (34, .d (.sl a1.length 0 (a1.flatMap eI.b))), (36, .d (iv (a1.length : Int))), (38, .d (iv s4)), (116, .d (bv true)), (36001, .r (.arr 1 (v3.flatMap eB.o) []))] (.cons hy10'.1 (.cons hy10'.2.1 (.cons (at_b0 eI_ok hy10'.2.2 (d := iv y10) (by kernel_rfl)) (.cons hy11'.1 (.cons hy11'.2.1 (.cons (at_b0 eI_ok hy11'.2.2 (d := iv y11) (by kernel_rfl)) (.cons hy12'.1 (.cons hy12'.2.1 (.cons (at_o0 eB_ok hy12'.2.2 (d := bv y12) (by kernel_rfl)) (.cons (congrArg (fun b => bv b) (congrArg not h13)) .nil)))))))))) (by kernel_rfl) (by kernel_rfl) ?_
        refine tr_condT (by kernel_rfl) ?_
        refine tr_sr hT hm [] [8] [(8, .d (bv false))] .nil (by kernel_rfl) (by kernel_rfl) ?_
        refine tr_ret (q_r (b_r (q_r (l_r (b_r (q_r (rg_r ?_)))))))
        obtain rfl := Option.some.inj hM
        exact retg (names := []) .nil (by kernel_rfl)
    · have hM := ite_false' hM h8
      refine tr_condFe (e := decide (s4 < (a1.length : Int))) h8 (by kernel_rfl) ?_
      refine tr_exit (q_x (l_x (b_h (q_n ?_))))
      refine tr_sr hT hm [] [8] [(8, .d (bv true))] .nil (by kernel_rfl) (by kernel_rfl) ?_
      refine tr_ret (rg_r ?_)
      obtain rfl := Option.some.inj hM
      exact retg (names := []) .nil (by kernel_rfl)
  · have hM := ite_false' hM h2
    refine tr_condTe (e := !v1) (congrArg not h2) (by kernel_rfl) ?_
    refine tr_sr hT hm [] [8] [(8, .d (bv false))] .nil (by kernel_rfl) (by kernel_rfl) ?_
    refine tr_ret (q_r (rg_r ?_))
    obtain rfl := Option.some.inj hM
    exact retg (names := []) .nil (by kernel_rfl)

theorem ok103 : CallOk Try.prog 103 := callOk_of Try.func103 (by kernel_rfl) (by kernel_rfl)
theorem impl_SubcategoryOf_c (a0 : XCategory) (a1 : List Int) (r : XCategory × Int) (hM : M.impl_SubcategoryOf a0 a1 = some r) :
    FnC Try.prog 103 [] [.agg (eXCategory.b a0), .sl a1.length 0 (a1.flatMap eI.b)] [] (.tup [.agg (eXCategory.o r.1), iv r.2]) := by
  refine fnc_startG (N := 25) (np := 500) hT Try.func103 rfl rfl (by kernel_rfl) ?_
  unfold M.impl_SubcategoryOf at hM
  refine tr_start (ks := [0, 2]) (st' := [(0, .d (.agg (eXCategory.b a0))), (2, .d (.sl a1.length 0 (a1.flatMap eI.b)))]) (by kernel_rfl) ?_
  refine tr_sr hT hm [] [2, 4, 8, 2005, 2009] [(2, .d (.sl a1.length 0 (a1.flatMap eI.b))), (4, .d (.rp 1002 0)), (8, .d (.rp 1004 0)), bxB 2005 (eXCategory.b a0), (2009, .r (.arr 1 [iv 0, nilv, nilv, nilv, nilv] []))] .nil (by kernel_rfl) (by kernel_rfl) ?_
  refine tr_seq ?_
  obtain ⟨v1, hv1, hM⟩ := bind_some' hM
  refine tr_sr hT hm [(1, .call [1002] [] [.pt (eXCategory.b a0) 0, .sl a1.length 0 (a1.flatMap eI.b)] [] (iv v1))] [2, 4, 8, 12, 2005, 2009] [(2, .d (.sl a1.length 0 (a1.flatMap eI.b))), (4, .d (.rp 1002 0)), (8, .d (.rp 1004 0)), (12, .d (iv v1)), bxB 2005 (eXCategory.b a0), (2009, .r (.arr 1 [iv 0, nilv, nilv, nilv, nilv] []))] (cc (B := [1002]) (ρ := []) (rB := [(1002, .arr 1 [iv a0.Objects, .sl a0.From.length 0 (a0.From.flatMap eI.b), .sl a0.To.length 0 (a0.To.flatMap eI.b), .sl a0.Identity.length 0 (a0.Identity.flatMap eI.b), .sl a0.Composites.length 0 (a0.Composites.flatMap (eS eI).b)] [])]) ok183 (impl_arrowCode_c a0 a1 _ hv1) (.cons (.of1 (.rp (r := 1002) (sz := 1) (cells := [iv a0.Objects, .sl a0.From.length 0 (a0.From.flatMap eI.b), .sl a0.To.length 0 (a0.To.flatMap eI.b), .sl a0.Identity.length 0 (a0.Identity.flatMap eI.b), .sl a0.Composites.length 0 (a0.Composites.flatMap (eS eI).b)]) (refs := []) (memB (by kernel_rfl)) (by kernel_rfl) (.cons .v (.cons (.same rfl rfl) (.cons (.same rfl rfl) (.cons (.same rfl rfl) (.cons (.same rfl rfl) .nil))))))) (.cons (.same rfl) .nil)) (.inr ⟨.v, trivial⟩) .nil) (by kernel_rfl) (by kernel_rfl) ?_
  refine tr_sr hT hm [] [2, 4, 8, 12, 24, 2005, 2009] [(2, .d (.sl a1.length 0 (a1.flatMap eI.b))), (4, .d (.rp 1002 0)), (8, .d (.rp 1004 0)), (12, .d (iv v1)), (24, .d (bv (v1 != 0))), bxB 2005 (eXCategory.b a0), (2009, .r (.arr 1 [iv 0, nilv, nilv, nilv, nilv] []))] .nil (by kernel_rfl) (by kernel_rfl) ?_
  rcases Bool.eq_false_or_eq_true (v1 != 0) with h2 | h2
  · have hM := ite_true' hM h2
    refine tr_condTe (e := v1 != 0) h2 (by kernel_rfl) ?_
    refine tr_sr hT hm [] [8, 10, 2009] [(8, .d (.rp 1004 0)), (10, .d (iv v1)), (2009, .r (.arr 1 [iv 0, nilv, nilv, nilv, nilv] []))] (.cons (Nat.le_of_ble_eq_true (n := 5) (m := 5) rfl) .nil) (by kernel_rfl) (by kernel_rfl) ?_
    refine tr_ret (q_r (rg_r ?_))
    refine RetG.by (imp_cvB (r := 1004) (sz := 1) (cells := [iv 0, nilv, nilv, nilv, nilv]) (cells' := [iv 0, .fr 1 ([] : List Int).length (([] : List Int).flatMap eI.o), .fr 1 ([] : List Int).length (([] : List Int).flatMap eI.o), .fr 1 ([] : List Int).length (([] : List Int).flatMap eI.o), .fr 1 ([] : List (List Int)).length (([] : List (List Int)).flatMap (eS eI).o)]) (refs := []) (refs' := []) (.cons (.refl _) (.cons Sub.nil_fr (.cons Sub.nil_fr (.cons Sub.nil_fr (.cons Sub.nil_fr .nil))))) (by kernel_rfl) (by kernel_rfl) (by kernel_rfl)) ?_
    obtain rfl := Option.some.inj hM
    exact retg (names := []) .nil (by kernel_rfl)
  · have hM := ite_false' hM h2
    refine tr_condFe (e := v1 != 0) h2 (by kernel_rfl) ?_
    refine tr_skip (q_n ?_)
    refine tr_seq ?_
    obtain ⟨v3, hv3, hM⟩ := bind_some' hM
    refine tr_sr hT hm [(1, .call [1002] [] [.pt (eXCategory.b a0) 0, .sl a1.length 0 (a1.flatMap eI.b)] [] (bv v3))] [2, 4, 8, 34, 2005, 2009] [(2, .d (.sl a1.length 0 (a1.flatMap eI.b))), (4, .d (.rp 1002 0)), (8, .d (.rp 1004 0)), (34, .d (bv (!v3))), bxB 2005 (eXCategory.b a0), (2009, .r (.arr 1 [iv 0, nilv, nilv, nilv, nilv] []))] (cc (B := [1002]) (ρ := []) (rB := [(1002, .arr 1 [iv a0.Objects, .sl a0.From.length 0 (a0.From.flatMap eI.b), .sl a0.To.length 0 (a0.To.flatMap eI.b), .sl a0.Identity.length 0 (a0.Identity.flatMap eI.b), .sl a0.Composites.length 0 (a0.Composites.flatMap (eS eI).b)] [])]) ok184 (impl_Category_isSubcategory_c a0 a1 _ hv3) (.cons (.of1 (.rp (r := 1002) (sz := 1) (cells := [iv a0.Objects, .sl a0.From.length 0 (a0.From.flatMap eI.b), .sl a0.To.length 0 (a0.To.flatMap eI.b), .sl a0.Identity.length 0 (a0.Identity.flatMap eI.b), .sl a0.Composites.length 0 (a0.Composites.flatMap (eS eI).b)]) (refs := []) (memB (by kernel_rfl)) (by kernel_rfl) (.cons .v (.cons (.same rfl rfl) (.cons (.same rfl rfl) (.cons (.same rfl rfl) (.cons (.same rfl rfl) .nil))))))) (.cons (.same rfl) .nil)) (.inr ⟨.v, trivial⟩) .nil) (by kernel_rfl) (by kernel_rfl) ?_
    rcases Bool.eq_false_or_eq_true v3 with h4 | h4
    · have hM := ite_true' hM h4
      refine tr_condFe (e := !v3) (congrArg not h4) (by kernel_rfl) ?_
      refine tr_skip (q_n ?_)
      obtain ⟨v5, hv5, hM⟩ := bind_some' hM
      refine tr_sr hT hm [(1, .call [1002] [] [.pt (eXCategory.b a0) 0, .sl a1.length 0 (a1.flatMap eI.b)] [] (.tup [.agg (eXCategory.o v5.1), .fr 1 v5.2.length (v5.2.flatMap eI.o)]))] [8, 14, 2009, 2015, 46003, 46005, 46007, 46009] ([(8, .d (.rp 1004 0)), (14, .d (.rp 1007 0)), (2009, .r (.arr 1 [iv 0, nilv, nilv, nilv, nilv] [])), bxO 2015 23000 (eXCategory.o v5.1)] ++ rsS 23000 (eXCategory.o v5.1)) (cc (B := [1002]) (ρ := []) (rB := [(1002, .arr 1 [iv a0.Objects, .sl a0.From.length 0 (a0.From.flatMap eI.b), .sl a0.To.length 0 (a0.To.flatMap eI.b), .sl a0.Identity.length 0 (a0.Identity.flatMap eI.b), .sl a0.Composites.length 0 (a0.Composites.flatMap (eS eI).b)] [])]) ok104 (impl_Category_sub_c a0 a1 _ hv5) (.cons (.of1 (.rp (r := 1002) (sz := 1) (cells := [iv a0.Objects, .sl a0.From.length 0 (a0.From.flatMap eI.b), .sl a0.To.length 0 (a0.To.flatMap eI.b), .sl a0.Identity.length 0 (a0.Identity.flatMap eI.b), .sl a0.Composites.length 0 (a0.Composites.flatMap (eS eI).b)]) (refs := []) (memB (by kernel_rfl)) (by kernel_rfl) (.cons .v (.cons (.same rfl rfl) (.cons (.same rfl rfl) (.cons (.same rfl rfl) (.cons (.same rfl rfl) .nil))))))) (.cons (.same rfl) .nil)) (.inr ⟨(nobor_tup (.cons (.agg (eXCategory_nb _)) (.cons (.fr (nb_flat eI_nb _)) .nil))), trivial⟩) (.cons (Nat.le_of_ble_eq_true (n := 5) (m := 5) rfl) .nil)) (by kernel_rfl) (by kernel_rfl) ?_
      refine tr_sr hT hm [] [8, 10, 2009, 46003, 46005, 46007, 46009] ([(8, .d (.rp 1004 0)), (10, .d (iv 0)), bxO 2009 23000 (eXCategory.o v5.1)] ++ rsS 23000 (eXCategory.o v5.1)) (.cons (Nat.le_of_ble_eq_true (n := 5) (m := 5) rfl) .nil) (by kernel_rfl) (by kernel_rfl) ?_
      refine tr_ret (rg_r ?_)
      obtain rfl := Option.some.inj hM
      exact retg (names := []) (.cons (lenO_flat eI_ok v5.1.From) (.cons (lenO_flat eI_ok v5.1.To) (.cons (lenO_flat eI_ok v5.1.Identity) (.cons (lenO_flat (eS_ok eI_ok) v5.1.Composites) .nil)))) (by kernel_rfl)
    · have hM := ite_false' hM h4
      refine tr_condTe (e := !v3) (congrArg not h4) (by kernel_rfl) ?_
      refine tr_sr hT hm [] [8, 10, 2009] [(8, .d (.rp 1004 0)), (10, .d (iv 5)), (2009, .r (.arr 1 [iv 0, nilv, nilv, nilv, nilv] []))] (.cons (Nat.le_of_ble_eq_true (n := 5) (m := 5) rfl) .nil) (by kernel_rfl) (by kernel_rfl) ?_
      refine tr_ret (q_r (rg_r ?_))
      refine RetG.by (imp_cvB (r := 1004) (sz := 1) (cells := [iv 0, nilv, nilv, nilv, nilv]) (cells' := [iv 0, .fr 1 ([] : List Int).length (([] : List Int).flatMap eI.o), .fr 1 ([] : List Int).length (([] : List Int).flatMap eI.o), .fr 1 ([] : List Int).length (([] : List Int).flatMap eI.o), .fr 1 ([] : List (List Int)).length (([] : List (List Int)).flatMap (eS eI).o)]) (refs := []) (refs' := []) (.cons (.refl _) (.cons Sub.nil_fr (.cons Sub.nil_fr (.cons Sub.nil_fr (.cons Sub.nil_fr .nil))))) (by kernel_rfl) (by kernel_rfl) (by kernel_rfl)) ?_
      obtain rfl := Option.some.inj hM
      exact retg (names := []) .nil (by kernel_rfl)

theorem ok45 : CallOk Try.prog 45 := callOk_of Try.func45 (by kernel_rfl) (by kernel_rfl)
theorem impl_InclusionFunctor_c (a0 : XCategory) (a1 : List Int) (r : XFunctor × Int) (hM : M.impl_InclusionFunctor a0 a1 = some r) :
    FnC Try.prog 45 [] [.agg (eXCategory.b a0), .sl a1.length 0 (a1.flatMap eI.b)] [] (.tup [.agg (eXFunctor.o r.1), iv r.2]) := by
  refine fnc_startG (N := 28) (np := 500) hT Try.func45 rfl rfl (by kernel_rfl) ?_
  unfold M.impl_InclusionFunctor at hM
  refine tr_start (ks := [0, 2]) (st' := [(0, .d (.agg (eXCategory.b a0))), (2, .d (.sl a1.length 0 (a1.flatMap eI.b)))]) (by kernel_rfl) ?_
  refine tr_sr hT hm [] [2, 4, 8, 2005, 2009] [(2, .d (.sl a1.length 0 (a1.flatMap eI.b))), (4, .d (.rp 1002 0)), (8, .d (.rp 1004 0)), bxB 2005 (eXCategory.b a0), (2009, .r (.arr 1 [iv 0, nilv, nilv, nilv, nilv, iv 0, nilv, nilv, nilv, nilv, nilv, nilv] []))] .nil (by kernel_rfl) (by kernel_rfl) ?_
  refine tr_seq ?_
  obtain ⟨v1, hv1, hM⟩ := bind_some' hM
  refine tr_sr hT hm [(2, .call [] [] [.agg (eXCategory.b a0), .sl a1.length 0 (a1.flatMap eI.b)] [] (.tup [.agg (eXCategory.o v1.1), iv v1.2]))] [2, 4, 8, 14, 2005, 2009] [(2, .d (.sl a1.length 0 (a1.flatMap eI.b))), (4, .d (.rp 1002 0)), (8, .d (.rp 1004 0)), (14, .d (iv v1.2)), bxB 2005 (eXCategory.b a0), (2009, .r (.arr 1 [iv 0, nilv, nilv, nilv, nilv, iv 0, nilv, nilv, nilv, nilv, nilv, nilv] []))] (cc0 ok103 (impl_SubcategoryOf_c a0 a1 _ hv1) (by kernel_rfl) (.cons (Nat.le_of_ble_eq_true (n := 5) (m := 5) rfl) .nil)) (by kernel_rfl) (by kernel_rfl) ?_
  refine tr_sr hT hm [] [2, 4, 8, 14, 34, 2005, 2009] [(2, .d (.sl a1.length 0 (a1.flatMap eI.b))), (4, .d (.rp 1002 0)), (8, .d (.rp 1004 0)), (14, .d (iv v1.2)), (34, .d (bv (v1.2 != 0))), bxB 2005 (eXCategory.b a0), (2009, .r (.arr 1 [iv 0, nilv, nilv, nilv, nilv, iv 0, nilv, nilv, nilv, nilv, nilv, nilv] []))] .nil (by kernel_rfl) (by kernel_rfl) ?_
  rcases Bool.eq_false_or_eq_true (v1.2 != 0) with h2 | h2
  · have hM := ite_true' hM h2
    refine tr_condTe (e := v1.2 != 0) h2 (by kernel_rfl) ?_
    refine tr_sr hT hm [] [8, 10, 2009] [(8, .d (.rp 1004 0)), (10, .d (iv v1.2)), (2009, .r (.arr 1 [iv 0, nilv, nilv, nilv, nilv, iv 0, nilv, nilv, nilv, nilv, nilv, nilv] []))] (.cons (Nat.le_of_ble_eq_true (n := 12) (m := 12) rfl) .nil) (by kernel_rfl) (by kernel_rfl) ?_
    refine tr_ret (q_r (rg_r ?_))
    refine RetG.by (imp_cvB (r := 1004) (sz := 1) (cells := [iv 0, nilv, nilv, nilv, nilv, iv 0, nilv, nilv, nilv, nilv, nilv, nilv]) (cells' := [iv 0, .fr 1 ([] : List Int).length (([] : List Int).flatMap eI.o), .fr 1 ([] : List Int).length (([] : List Int).flatMap eI.o), .fr 1 ([] : List Int).length (([] : List Int).flatMap eI.o), .fr 1 ([] : List (List Int)).length (([] : List (List Int)).flatMap (eS eI).o), iv 0, .fr 1 ([] : List Int).length (([] : List Int).flatMap eI.o), .fr 1 ([] : List Int).length (([] : List Int).flatMap eI.o), .fr 1 ([] : List Int).length (([] : List Int).flatMap eI.o), .fr 1 ([] : List (List Int)).length (([] : List (List Int)).flatMap (eS eI).o), .fr 1 ([] : List Int).length (([] : List Int).flatMap eI.o), .fr 1 ([] : List Int).length (([] : List Int).flatMap eI.o)]) (refs := []) (refs' := []) (.cons (.refl _) (.cons Sub.nil_fr (.cons Sub.nil_fr (.cons Sub.nil_fr (.cons Sub.nil_fr (.cons (.refl _) (.cons Sub.nil_fr (.cons Sub.nil_fr (.cons Sub.nil_fr (.cons Sub.nil_fr (.cons Sub.nil_fr (.cons Sub.nil_fr .nil)))))))))))) (by kernel_rfl) (by kernel_rfl) (by kernel_rfl)) ?_
    obtain rfl := Option.some.inj hM
    exact retg (names := []) .nil (by kernel_rfl)
  · have hM := ite_false' hM h2
    refine tr_condFe (e := v1.2 != 0) h2 (by kernel_rfl) ?_
    refine tr_skip (q_n ?_)
    obtain ⟨v3, hv3, hM⟩ := bind_some' hM
    refine tr_sr hT hm [(1, .call [1002] [] [.pt (eXCategory.b a0) 0, .sl a1.length 0 (a1.flatMap eI.b)] [] (.tup [.agg (eXCategory.o v3.1), .fr 1 v3.2.length (v3.2.flatMap eI.o)]))] [2, 4, 8, 16, 18, 2005, 2009, 2017, 48003, 48005, 48007, 48009, 48201] ([(2, .d (.sl a1.length 0 (a1.flatMap eI.b))), (4, .d (.rp 1002 0)), (8, .d (.rp 1004 0)), (16, .d (.rp 1008 0)), (18, .d (.rs 24100 0 v3.2.length)), bxB 2005 (eXCategory.b a0), (2009, .r (.arr 1 [iv 0, nilv, nilv, nilv, nilv, iv 0, nilv, nilv, nilv, nilv, nilv, nilv] [])), bxO 2017 24000 (eXCategory.o v3.1)] ++ rsS 24000 (eXCategory.o v3.1) ++ [(48201, .r (.arr 1 (v3.2.flatMap eI.o) []))]) (cc (B := [1002]) (ρ := []) (rB := [(1002, .arr 1 [iv a0.Objects, .sl a0.From.length 0 (a0.From.flatMap eI.b), .sl a0.To.length 0 (a0.To.flatMap eI.b), .sl a0.Identity.length 0 (a0.Identity.flatMap eI.b), .sl a0.Composites.length 0 (a0.Composites.flatMap (eS eI).b)] [])]) ok104 (impl_Category_sub_c a0 a1 _ hv3) (.cons (.of1 (.rp (r := 1002) (sz := 1) (cells := [iv a0.Objects, .sl a0.From.length 0 (a0.From.flatMap eI.b), .sl a0.To.length 0 (a0.To.flatMap eI.b), .sl a0.Identity.length 0 (a0.Identity.flatMap eI.b), .sl a0.Composites.length 0 (a0.Composites.flatMap (eS eI).b)]) (refs := []) (memB (by kernel_rfl)) (by kernel_rfl) (.cons .v (.cons (.same rfl rfl) (.cons (.same rfl rfl) (.cons (.same rfl rfl) (.cons (.same rfl rfl) .nil))))))) (.cons (.same rfl) .nil)) (.inr ⟨(nobor_tup (.cons (.agg (eXCategory_nb _)) (.cons (.fr (nb_flat eI_nb _)) .nil))), trivial⟩) (.cons (Nat.le_of_ble_eq_true (n := 5) (m := 5) rfl) .nil)) (by kernel_rfl) (by kernel_rfl) ?_
    obtain ⟨v4, hv4, hM⟩ := bind_some' hM
    refine tr_sr hT hm [(2, .call ([1008] ++ rsR 24000 (eXCategory.o v3.1) ++ [1002, 24100]) [] [.pt (eXCategory.b v3.1) 0, .pt (eXCategory.b a0) 0, .sl v3.2.length 0 (v3.2.flatMap eI.b), .sl a1.length 0 (a1.flatMap eI.b)] [] (.agg (eXFunctor.o v4)))] [8, 10, 2009, 58003, 58005, 58007, 58009, 58013, 58015, 58017, 58019, 58021, 58023] ([(8, .d (.rp 1004 0)), (10, .d (iv 0)), bxO 2009 29000 (eXFunctor.o v4)] ++ rsS 29000 (eXFunctor.o v4)) (cc (B := ([1008] ++ rsR 24000 (eXCategory.o v3.1) ++ [1002, 24100])) (ρ := []) (rB := ([(1008, .arr 1 [iv v3.1.Objects, .rs 24001 0 v3.1.From.length, .rs 24002 0 v3.1.To.length, .rs 24003 0 v3.1.Identity.length, .rs 24004 0 v3.1.Composites.length] [24001, 24002, 24003, 24004])] ++ rsP 24000 (eXCategory.o v3.1) ++ [(1002, .arr 1 [iv a0.Objects, .sl a0.From.length 0 (a0.From.flatMap eI.b), .sl a0.To.length 0 (a0.To.flatMap eI.b), .sl a0.Identity.length 0 (a0.Identity.flatMap eI.b), .sl a0.Composites.length 0 (a0.Composites.flatMap (eS eI).b)] []), (24100, .arr 1 (v3.2.flatMap eI.o) [])])) ok105 (impl_functor_c v3.1 a0 v3.2 a1 _ hv4) (.cons (.of1 (.rp (r := 1008) (sz := 1) (cells := [iv v3.1.Objects, .rs 24001 0 v3.1.From.length, .rs 24002 0 v3.1.To.length, .rs 24003 0 v3.1.Identity.length, .rs 24004 0 v3.1.Composites.length]) (refs := [24001, 24002, 24003, 24004]) (memB (by kernel_rfl)) (by kernel_rfl) (.cons .v (.cons (.rs (r := 24001) (sz := 1) (refs := []) (memB (by kernel_rfl)) (by kernel_rfl) (bor_flat eI_ok _ _ _)) (.cons (.rs (r := 24002) (sz := 1) (refs := []) (memB (by kernel_rfl)) (by kernel_rfl) (bor_flat eI_ok _ _ _)) (.cons (.rs (r := 24003) (sz := 1) (refs := []) (memB (by kernel_rfl)) (by kernel_rfl) (bor_flat eI_ok _ _ _)) (.cons (.rs (r := 24004) (sz := 1) (refs := []) (memB (by kernel_rfl)) (by kernel_rfl) (bor_flat (eS_ok eI_ok) _ _ _)) .nil))))))) (.cons (.of1 (.rp (r := 1002) (sz := 1) (cells := [iv a0.Objects, .sl a0.From.length 0 (a0.From.flatMap eI.b), .sl a0.To.length 0 (a0.To.flatMap eI.b), .sl a0.Identity.length 0 (a0.Identity.flatMap eI.b), .sl a0.Composites.length 0 (a0.Composites.flatMap (eS eI).b)]) (refs := []) (memB (by kernel_rfl)) (by kernel_rfl) (.cons .v (.cons (.same rfl rfl) (.cons (.same rfl rfl) (.cons (.same rfl rfl) (.cons (.same rfl rfl) .nil))))))) (.cons (.of1 (.rs (r := 24100) (sz := 1) (refs := []) (memB (by kernel_rfl)) (by kernel_rfl) (bor_flat eI_ok _ _ _))) (.cons (.same rfl) .nil)))) (.inr ⟨(.agg (eXFunctor_nb _)), trivial⟩) (.cons (Nat.le_of_ble_eq_true (n := 12) (m := 12) rfl) .nil)) (by kernel_rfl) (by kernel_rfl) ?_
    refine tr_ret (rg_r ?_)
    obtain rfl := Option.some.inj hM
    exact retg (names := []) (.cons (lenO_flat eI_ok v4.Source.From) (.cons (lenO_flat eI_ok v4.Source.To) (.cons (lenO_flat eI_ok v4.Source.Identity) (.cons (lenO_flat (eS_ok eI_ok) v4.Source.Composites) (.cons (lenO_flat eI_ok v4.Target.From) (.cons (lenO_flat eI_ok v4.Target.To) (.cons (lenO_flat eI_ok v4.Target.Identity) (.cons (lenO_flat (eS_ok eI_ok) v4.Target.Composites) (.cons (lenO_flat eI_ok v4.Objects) (.cons (lenO_flat eI_ok v4.Arrows) .nil)))))))))) (by kernel_rfl)

end Go.Proofs.Ytiikkfdehbcfaaa.Wz14
