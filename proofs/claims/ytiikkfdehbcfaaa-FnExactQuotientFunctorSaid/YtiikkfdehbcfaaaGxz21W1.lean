/- Walks. Printed by wip/gen. -/
import Derived.Test.YtiikkfdehbcfaaaGxz21W0
namespace Go.Proofs.Ytiikkfdehbcfaaa.Wz21
open Go.Gx Go.Proofs.Ytiikkfdehbcfaaa.WvB Go.Proofs.Ytiikkfdehbcfaaa.WyT Go.Proofs.Ytiikkfdehbcfaaa.WyN Go.Proofs.Ytiikkfdehbcfaaa.WzC Go.Proofs.Ytiikkfdehbcfaaa.WvI Go.Proofs.Ytiikkfdehbcfaaa.WzU Go.Proofs.Ytiikkfdehbcfaaa.WvH Go.Proofs.Ytiikkfdehbcfaaa.WvS Go.Proofs.Ytiikkfdehbcfaaa.WzP Go.Proofs.Ytiikkfdehbcfaaa.WvJ

theorem ok54 : CallOk Try.prog 54 := callOk_of Try.func54 (by kernel_rfl) (by kernel_rfl)
theorem spec_QuotientFunctor_c (a0 : XCategory) (a1 : List Int) (r : XFunctor × Int) (hM : M.spec_QuotientFunctor a0 a1 = some r) :
    FnC Try.prog 54 [] [.agg (eXCategory.b a0), .sl a1.length 0 (a1.flatMap eI.b)] [] (.tup [.agg (eXFunctor.o r.1), iv r.2]) := by
  refine fnc_startG (N := 25) (np := 500) hT Try.func54 rfl rfl (by kernel_rfl) ?_
  unfold M.spec_QuotientFunctor at hM
  refine tr_start (ks := [0, 2]) (st' := [(0, .d (.agg (eXCategory.b a0))), (2, .d (.sl a1.length 0 (a1.flatMap eI.b)))]) (by kernel_rfl) ?_
  refine tr_sr hT hm [] [2, 4, 8, 2005, 2009] [(2, .d (.sl a1.length 0 (a1.flatMap eI.b))), (4, .d (.rp 1002 0)), (8, .d (.rp 1004 0)), bxB 2005 (eXCategory.b a0), (2009, .r (.arr 1 [iv 0, nilv, nilv, nilv, nilv, iv 0, nilv, nilv, nilv, nilv, nilv, nilv] []))] .nil (by kernel_rfl) (by kernel_rfl) ?_
  obtain ⟨v1, hv1, hM⟩ := bind_some' hM
  refine tr_sr hT hm [(2, .call [] [] [.agg (eXCategory.b a0), .sl a1.length 0 (a1.flatMap eI.b)] [] (.tup [.agg (eXCategory.o v1.1), iv v1.2]))] [2, 4, 8, 12, 14, 2005, 2009, 2013, 26003, 26005, 26007, 26009] ([(2, .d (.sl a1.length 0 (a1.flatMap eI.b))), (4, .d (.rp 1002 0)), (8, .d (.rp 1004 0)), (12, .d (.rp 1006 0)), (14, .d (iv v1.2)), bxB 2005 (eXCategory.b a0), (2009, .r (.arr 1 [iv 0, nilv, nilv, nilv, nilv, iv 0, nilv, nilv, nilv, nilv, nilv, nilv] [])), bxO 2013 13000 (eXCategory.o v1.1)] ++ rsS 13000 (eXCategory.o v1.1)) (cc0 ok123 (spec_QuotientCategory_c a0 a1 _ hv1) (by kernel_rfl) (.cons (Nat.le_of_ble_eq_true (n := 5) (m := 5) rfl) .nil)) (by kernel_rfl) (by kernel_rfl) ?_
  refine tr_seq ?_
  refine tr_sr hT hm [] [2, 4, 8, 12, 14, 30, 2005, 2009, 2013, 26003, 26005, 26007, 26009] ([(2, .d (.sl a1.length 0 (a1.flatMap eI.b))), (4, .d (.rp 1002 0)), (8, .d (.rp 1004 0)), (12, .d (.rp 1006 0)), (14, .d (iv v1.2)), (30, .d (bv (v1.2 != 0))), bxB 2005 (eXCategory.b a0), (2009, .r (.arr 1 [iv 0, nilv, nilv, nilv, nilv, iv 0, nilv, nilv, nilv, nilv, nilv, nilv] [])), bxO 2013 13000 (eXCategory.o v1.1)] ++ rsS 13000 (eXCategory.o v1.1)) .nil (by kernel_rfl) (by kernel_rfl) ?_
  rcases Bool.eq_false_or_eq_true (v1.2 != 0) with h2 | h2
  · have hM := ite_true' hM h2
    refine tr_condTe (e := v1.2 != 0) h2 (by kernel_rfl) ?_
    refine tr_sr hT hm [] [8, 10, 2009] [(8, .d (.rp 1004 0)), (10, .d (iv v1.2)), (2009, .r (.arr 1 [iv 0, nilv, nilv, nilv, nilv, iv 0, nilv, nilv, nilv, nilv, nilv, nilv] []))] (.cons (Nat.le_of_ble_eq_true (n := 12) (m := 12) rfl) .nil) (by kernel_rfl) (by kernel_rfl) ?_
    refine tr_ret (q_r (rg_r ?_))
    refine RetG.by (imp_cvB (r := 1004) (sz := 1) (cells := [iv 0, nilv, nilv, nilv, nilv, iv 0, nilv, nilv, nilv, nilv, nilv, nilv]) (cells' := [iv 0, .fr 1 ([] : List Int).length (([] : List Int).flatMap eI.o), .fr 1 ([] : List Int).length (([] : List Int).flatMap eI.o), .fr 1 ([] : List Int).length (([] : List Int).flatMap eI.o), .fr 1 ([] : List (List Int)).length (([] : List (List Int)).flatMap (eS eI).o), iv 0, .fr 1 ([] : List Int).length (([] : List Int).flatMap eI.o), .fr 1 ([] : List Int).length (([] : List Int).flatMap eI.o), .fr 1 ([] : List Int).length (([] : List Int).flatMap eI.o), .fr 1 ([] : List (List Int)).length (([] : List (List Int)).flatMap (eS eI).o), .fr 1 ([] : List Int).length (([] : List Int).flatMap eI.o), .fr 1 ([] : List Int).length (([] : List Int).flatMap eI.o)]) (refs := []) (refs' := []) (.cons (.refl _) (.cons Sub.nil_fr (.cons Sub.nil_fr (.cons Sub.nil_fr (.cons Sub.nil_fr (.cons (.refl _) (.cons Sub.nil_fr (.cons Sub.nil_fr (.cons Sub.nil_fr (.cons Sub.nil_fr (.cons Sub.nil_fr (.cons Sub.nil_fr .nil)))))))))))) (by kernel_rfl) (by kernel_rfl) (by kernel_rfl)) ?_
    obtain rfl := Option.some.inj hM
    exact retg (names := []) .nil (by kernel_rfl)
  · have hM := ite_false' hM h2
    refine tr_condFe (e := v1.2 != 0) h2 (by kernel_rfl) ?_
    refine tr_skip (q_n ?_)
    obtain ⟨v3, hv3, hM⟩ := bind_some' hM
    obtain ⟨v4, hv4, hM⟩ := bind_some' hM
    refine tr_sr hT hm [(3, .call [] [] [.agg (eXCategory.b a0)] [] (.agg (eXFunctor.o v3))), (6, .call (rsR 13000 (eXCategory.o v1.1) ++ [23010]) [] [.agg (eXCategory.b a0), .agg (eXCategory.b v1.1), .sl v3.Objects.length 0 (v3.Objects.flatMap eI.b), .sl a1.length 0 (a1.flatMap eI.b)] [] (.agg (eXFunctor.o v4)))] [8, 10, 2009, 52003, 52005, 52007, 52009, 52013, 52015, 52017, 52019, 52021, 52023] ([(8, .d (.rp 1004 0)), (10, .d (iv 0)), bxO 2009 26000 (eXFunctor.o v4)] ++ rsS 26000 (eXFunctor.o v4)) (cc0 ok124 (spec_l06Self_c a0 _ hv3) (by kernel_rfl) (cc (B := (rsR 13000 (eXCategory.o v1.1) ++ [23010])) (ρ := []) (rB := (rsP 13000 (eXCategory.o v1.1) ++ [(23010, .arr 1 (v3.Objects.flatMap eI.o) [])])) ok102 (spec_l06Make_c a0 v1.1 v3.Objects a1 _ hv4) (.cons (.same rfl) (.cons (bor_rs eXCategory_r (q := 13000) (x := v1.1) (by kernel_rfl) (by kernel_rfl)) (.cons (.of1 (.rs (r := 23010) (sz := 1) (refs := []) (memB (by kernel_rfl)) (by kernel_rfl) (bor_flat eI_ok _ _ _))) (.cons (.same rfl) .nil)))) (.inr ⟨(.agg (eXFunctor_nb _)), trivial⟩) (.cons (Nat.le_of_ble_eq_true (n := 12) (m := 12) rfl) .nil))) (by kernel_rfl) (by kernel_rfl) ?_
    refine tr_ret (rg_r ?_)
    obtain rfl := Option.some.inj hM
    exact retg (names := []) (.cons (lenO_flat eI_ok v4.Source.From) (.cons (lenO_flat eI_ok v4.Source.To) (.cons (lenO_flat eI_ok v4.Source.Identity) (.cons (lenO_flat (eS_ok eI_ok) v4.Source.Composites) (.cons (lenO_flat eI_ok v4.Target.From) (.cons (lenO_flat eI_ok v4.Target.To) (.cons (lenO_flat eI_ok v4.Target.Identity) (.cons (lenO_flat (eS_ok eI_ok) v4.Target.Composites) (.cons (lenO_flat eI_ok v4.Objects) (.cons (lenO_flat eI_ok v4.Arrows) .nil)))))))))) (by kernel_rfl)

theorem ok267 : CallOk Try.prog 267 := callOk_of Try.func267 (by kernel_rfl) (by kernel_rfl)
theorem impl_partition_isNormal_c (a0 : List Int) (r : Bool) (hM : M.impl_partition_isNormal a0 = some r) :
    FnC Try.prog 267 [] [.sl a0.length 0 (a0.flatMap eI.b)] [] (bv r) := by
  refine fnc_startG (N := 22) (np := 500) hT Try.func267 rfl rfl (by kernel_rfl) ?_
  unfold M.impl_partition_isNormal at hM
  refine tr_start (ks := [0]) (st' := [(0, .d (.sl a0.length 0 (a0.flatMap eI.b)))]) (by kernel_rfl) ?_
  refine tr_sr hT hm [] [0] [(0, .d (.sl a0.length 0 (a0.flatMap eI.b)))] .nil (by kernel_rfl) (by kernel_rfl) ?_
  refine tr_sr hT hm [] [0, 6] [(0, .d (.sl a0.length 0 (a0.flatMap eI.b))), (6, .d (iv 0))] .nil (by kernel_rfl) (by kernel_rfl) ?_
  refine tr_seq ?_
  refine tr_sr hT hm [] [6, 12, 14, 16] [(6, .d (iv 0)), (12, .d (.sl a0.length 0 (a0.flatMap eI.b))), (14, .d (iv (a0.length : Int))), (16, .d (iv 0))] .nil (by kernel_rfl) (by kernel_rfl) ?_
  refine tr_block ?_
  refine tr_iterS (fun (s1 : Int × Int) => [(6, .d (iv s1.1)), (12, .d (.sl a0.length 0 (a0.flatMap eI.b))), (14, .d (iv (a0.length : Int))), (16, .d (iv s1.2))]) (0, 0) [6, 12, 14, 16] (by kernel_rfl) hM ?_
  intro n4 next2 ih3 s1 hM
  refine tr_sr hT hm [] [6, 12, 14, 16, 18] [(6, .d (iv s1.1)), (12, .d (.sl a0.length 0 (a0.flatMap eI.b))), (14, .d (iv (a0.length : Int))), (16, .d (iv s1.2)), (18, .d (bv (decide (s1.2 < (a0.length : Int)))))] .nil (by kernel_rfl) (by kernel_rfl) ?_
  refine tr_seq ?_
  rcases Bool.eq_false_or_eq_true (decide (s1.2 < (a0.length : Int))) with h5 | h5
  · have hM := ite_true' hM h5
    refine tr_condTe (e := decide (s1.2 < (a0.length : Int))) h5 (by kernel_rfl) ?_
    refine tr_skip (q_n ?_)
    refine tr_seq ?_
    refine tr_block ?_
    obtain ⟨y6, hy6, hM⟩ := bind_some' hM
    have hy6' := idx_some hy6
    refine tr_sr hT hm [(1, .val (iv y6))] [6, 10, 12, 14, 16] [(6, .d (iv s1.1)), (10, .d (iv y6)), (12, .d (.sl a0.length 0 (a0.flatMap eI.b))), (14, .d (iv (a0.length : Int))), (16, .d (iv s1.2))] (.cons hy6'.1 (.cons hy6'.2.1 (.cons (at_b0 eI_ok hy6'.2.2 (d := iv y6) (by kernel_rfl)) .nil))) (by kernel_rfl) (by kernel_rfl) ?_
    refine tr_seq ?_
    obtain ⟨v7, hv7, hM⟩ := bind_some' hM
    refine tr_sr hT hm [(2, .call [] [] [iv y6, iv 0, iv s1.1] [] (bv v7))] [6, 10, 12, 14, 16, 30] [(6, .d (iv s1.1)), (10, .d (iv y6)), (12, .d (.sl a0.length 0 (a0.flatMap eI.b))), (14, .d (iv (a0.length : Int))), (16, .d (iv s1.2)), (30, .d (bv (!v7)))] (cc0 ok159 (impl_inRange_c y6 0 s1.1 _ hv7) (by kernel_rfl) .nil) (by kernel_rfl) (by kernel_rfl) ?_
    rcases Bool.eq_false_or_eq_true v7 with h8 | h8
    · have hM := ite_true' hM h8
      refine tr_condFe (e := !v7) (congrArg not h8) (by kernel_rfl) ?_
      refine tr_skip (q_n ?_)
      refine tr_sr hT hm [] [6, 12, 14, 16, 36] [(6, .d (iv s1.1)), (12, .d (.sl a0.length 0 (a0.flatMap eI.b))), (14, .d (iv (a0.length : Int))), (16, .d (iv s1.2)), (36, .d (bv (y6 == s1.1)))] .nil (by kernel_rfl) (by kernel_rfl) ?_
      rcases Bool.eq_false_or_eq_true (y6 == s1.1) with h9 | h9
      · have hM := ite_true' hM h9
        refine tr_condTe (e := y6 == s1.1) h9 (by kernel_rfl) ?_
        refine tr_r hT hm [] [6, 12, 14, 16] [(6, .d (iv (IntKind.i64.wrap (s1.1 + 1)))), (12, .d (.sl a0.length 0 (a0.flatMap eI.b))), (14, .d (iv (a0.length : Int))), (16, .d (iv s1.2))] .nil (by kernel_rfl) (by kernel_rfl) (b_n (q_n ?_))
        refine tr_r hT hm [] [6, 12, 14, 16] [(6, .d (iv (IntKind.i64.wrap (s1.1 + 1)))), (12, .d (.sl a0.length 0 (a0.flatMap eI.b))), (14, .d (iv (a0.length : Int))), (16, .d (iv (IntKind.i64.wrap (s1.2 + 1))))] .nil (by kernel_rfl) (by kernel_rfl) (l_n ?_)
        exact trl_start (ks := [6, 12, 14, 16]) (by kernel_rfl) (ih3 (IntKind.i64.wrap (s1.1 + 1), IntKind.i64.wrap (s1.2 + 1)) hM)
      · have hM := ite_false' hM h9
        refine tr_condFe (e := y6 == s1.1) h9 (by kernel_rfl) ?_
        refine tr_skip (b_n (q_n ?_))
        refine tr_r hT hm [] [6, 12, 14, 16] [(6, .d (iv s1.1)), (12, .d (.sl a0.length 0 (a0.flatMap eI.b))), (14, .d (iv (a0.length : Int))), (16, .d (iv (IntKind.i64.wrap (s1.2 + 1))))] .nil (by kernel_rfl) (by kernel_rfl) (l_n ?_)
        exact trl_start (ks := [6, 12, 14, 16]) (by kernel_rfl) (ih3 (s1.1, IntKind.i64.wrap (s1.2 + 1)) hM)
    · have hM := ite_false' hM h8
      refine tr_condTe (e := !v7) (congrArg not h8) (by kernel_rfl) ?_
      refine tr_sr hT hm [] [4] [(4, .d (bv false))] .nil (by kernel_rfl) (by kernel_rfl) ?_
      refine tr_ret (q_r (b_r (q_r (l_r (b_r (q_r (rg_r ?_)))))))
      obtain rfl := Option.some.inj hM
      exact retg (names := []) .nil (by kernel_rfl)
  · have hM := ite_false' hM h5
    refine tr_condFe (e := decide (s1.2 < (a0.length : Int))) h5 (by kernel_rfl) ?_
    refine tr_exit (q_x (l_x (b_h (q_n ?_))))
    refine tr_sr hT hm [] [4] [(4, .d (bv true))] .nil (by kernel_rfl) (by kernel_rfl) ?_
    refine tr_ret (rg_r ?_)
    obtain rfl := Option.some.inj hM
    exact retg (names := []) .nil (by kernel_rfl)

theorem ok208 : CallOk Try.prog 208 := callOk_of Try.func208 (by kernel_rfl) (by kernel_rfl)
theorem impl_Category_isCongruence_c (a0 : XCategory) (a1 : List Int) (r : Bool) (hM : M.impl_Category_isCongruence a0 a1 = some r) :
    FnC Try.prog 208 [] [.pt (eXCategory.b a0) 0, .sl a1.length 0 (a1.flatMap eI.b)] [] (bv r) := by
  refine fnc_startG (N := 98) (np := 500) hT Try.func208 rfl rfl (by kernel_rfl) ?_
  unfold M.impl_Category_isCongruence at hM
  refine tr_start (ks := [0, 2]) (st' := [(0, .d (.pt (eXCategory.b a0) 0)), (2, .d (.sl a1.length 0 (a1.flatMap eI.b)))]) (by kernel_rfl) ?_
  refine tr_sr hT hm [] [0, 2] [(0, .d (.pt (eXCategory.b a0) 0)), (2, .d (.sl a1.length 0 (a1.flatMap eI.b)))] .nil (by kernel_rfl) (by kernel_rfl) ?_
  refine tr_seq ?_
  obtain ⟨v1, hv1, hM⟩ := bind_some' hM
  rcases Bool.eq_false_or_eq_true ((a1.length : Int) != v1) with h2 | h2
  · have hM := ite_true' hM h2
    refine tr_sr hT hm [(3, .call [] [] [.pt (eXCategory.b a0) 0] [] (iv v1)), (5, .val (bv true))] [0, 2, 46] [(0, .d (.pt (eXCategory.b a0) 0)), (2, .d (.sl a1.length 0 (a1.flatMap eI.b))), (46, .d (bv true))] (cc0 ok161 (impl_Category_arrows_c a0 _ hv1) (by kernel_rfl) (.cons (congrArg (fun b => bv b) h2) .nil)) (by kernel_rfl) (by kernel_rfl) ?_
    refine tr_condT (by kernel_rfl) ?_
    refine tr_sr hT hm [] [8] [(8, .d (bv false))] .nil (by kernel_rfl) (by kernel_rfl) ?_
    refine tr_ret (q_r (rg_r ?_))
    obtain rfl := Option.some.inj hM
    exact retg (names := []) .nil (by kernel_rfl)
  · have hM := ite_false' hM h2
    obtain ⟨v3, hv3, hM⟩ := bind_some' hM
    refine tr_sr hT hm [(3, .call [] [] [.pt (eXCategory.b a0) 0] [] (iv v1)), (5, .val (bv false)), (7, .call [] [] [.sl a1.length 0 (a1.flatMap eI.b)] [] (bv v3))] [0, 2, 46] [(0, .d (.pt (eXCategory.b a0) 0)), (2, .d (.sl a1.length 0 (a1.flatMap eI.b))), (46, .d (bv (!v3)))] (cc0 ok161 (impl_Category_arrows_c a0 _ hv1) (by kernel_rfl) (.cons (congrArg (fun b => bv b) h2) (cc0 ok267 (impl_partition_isNormal_c a1 _ hv3) (by kernel_rfl) .nil))) (by kernel_rfl) (by kernel_rfl) ?_
    rcases Bool.eq_false_or_eq_true v3 with h4 | h4
    · have hM := ite_true' hM h4
      refine tr_condFe (e := !v3) (congrArg not h4) (by kernel_rfl) ?_
      refine tr_skip (q_n ?_)
      refine tr_sr hT hm [] [0, 2, 10, 2049] [(0, .d (.pt (eXCategory.b a0) 0)), (2, .d (.sl a1.length 0 (a1.flatMap eI.b))), (10, .d (.rm 1024)), (2049, .r (.mp (mpE kI vI ([] : List (Int × Int)))))] .nil (by kernel_rfl) (by kernel_rfl) ?_
      refine tr_seq ?_
      refine tr_sr hT hm [] [0, 2, 10, 50, 52, 54, 2049] [(0, .d (.pt (eXCategory.b a0) 0)), (2, .d (.sl a1.length 0 (a1.flatMap eI.b))), (10, .d (.rm 1024)), (50, .d (.sl a1.length 0 (a1.flatMap eI.b))), (52, .d (iv (a1.length : Int))), (54, .d (iv 0)), (2049, .r (.mp (mpE kI vI ([] : List (Int × Int)))))] .nil (by kernel_rfl) (by kernel_rfl) ?_
      refine tr_block ?_
      refine tr_iterS (fun (s5 : (List (Int × Int)) × Int) => [(0, .d (.pt (eXCategory.b a0) 0)), (2, .d (.sl a1.length 0 (a1.flatMap eI.b))), (10, .d (.rm 1024)), (50, .d (.sl a1.length 0 (a1.flatMap eI.b))), (52, .d (iv (a1.length : Int))), (54, .d (iv s5.2)), (2049, .r (.mp (mpE kI vI s5.1)))]) (([] : List (Int × Int)), 0) [0, 2, 10, 50, 52, 54, 2049] (by kernel_rfl) hM ?_
      intro n8 next6 ih7 s5 hM
      refine tr_sr hT hm [] [0, 2, 10, 50, 52, 54, 56, 2049] [(0, .d (.pt (eXCategory.b a0) 0)), (2, .d (.sl a1.length 0 (a1.flatMap eI.b))), (10, .d (.rm 1024)), (50, .d (.sl a1.length 0 (a1.flatMap eI.b))), (52, .d (iv (a1.length : Int))), (54, .d (iv s5.2)), (56, .d (bv (decide (s5.2 < (a1.length : Int))))), (2049, .r (.mp (mpE kI vI s5.1)))] .nil (by kernel_rfl) (by kernel_rfl) ?_
      refine tr_seq ?_
      rcases Bool.eq_false_or_eq_true (decide (s5.2 < (a1.length : Int))) with h9 | h9
      · have hM := ite_true' hM h9
        refine tr_condTe (e := decide (s5.2 < (a1.length : Int))) h9 (by kernel_rfl) ?_
        refine tr_skip (q_n ?_)
        refine tr_seq ?_
        refine tr_block ?_
        obtain ⟨y10, hy10, hM⟩ := bind_some' hM
        have hy10' := idx_some hy10
        refine tr_sr hT hm [(2, .val (iv y10))] [0, 2, 10, 12, 14, 50, 52, 54, 2049] [(0, .d (.pt (eXCategory.b a0) 0)), (2, .d (.sl a1.length 0 (a1.flatMap eI.b))), (10, .d (.rm 1024)), (12, .d (iv s5.2)), (14, .d (iv y10)), (50, .d (.sl a1.length 0 (a1.flatMap eI.b))), (52, .d (iv (a1.length : Int))), (54, .d (iv s5.2)), (2049, .r (.mp (mpE kI vI s5.1)))] (.cons hy10'.1 (.cons hy10'.2.1 (.cons (at_b0 eI_ok hy10'.2.2 (d := iv y10) (by kernel_rfl)) .nil))) (by kernel_rfl) (by kernel_rfl) ?_
        refine tr_joinM (fun (s11 : List (Int × Int)) => [(0, .d (.pt (eXCategory.b a0) 0)), (2, .d (.sl a1.length 0 (a1.flatMap eI.b))), (10, .d (.rm 1024)), (12, .d (iv s5.2)), (14, .d (iv y10)), (50, .d (.sl a1.length 0 (a1.flatMap eI.b))), (52, .d (iv (a1.length : Int))), (54, .d (iv s5.2)), (2049, .r (.mp (mpE kI vI s11)))]) hM ?_ ?_
        · intro s11 hM
          obtain ⟨v14, hv14, hM⟩ := bind_some' hM
          obtain ⟨v15, hv15, hM⟩ := bind_some' hM
          refine tr_sr hT hm [(2, .call [] [] [.pt (eXCategory.b a0) 0, iv s5.2] [] (.agg (eXends.o v14))), (6, .val (iv ((mget y10 s11).getD 0))), (7, .call [] [] [.pt (eXCategory.b a0) 0, iv ((mget y10 s11).getD 0)] [] (.agg (eXends.o v15)))] [0, 2, 10, 50, 52, 54, 102, 2049] [(0, .d (.pt (eXCategory.b a0) 0)), (2, .d (.sl a1.length 0 (a1.flatMap eI.b))), (10, .d (.rm 1024)), (50, .d (.sl a1.length 0 (a1.flatMap eI.b))), (52, .d (iv (a1.length : Int))), (54, .d (iv s5.2)), (102, .d (bv (((v14.from_ == v15.from_) && (v14.to_ == v15.to_)) == false))), (2049, .r (.mp (mpE kI vI s11)))] (cc0 ok162 (impl_Category_ends_c a0 s5.2 _ hv14) (by kernel_rfl) (.cons (look_one kI vI 0 y10 s11) (.cons (by kernel_rfl : (Try.prog.info? 2).bind (·.zero) = some (.int .i64 0)) (cc0 ok162 (impl_Category_ends_c a0 ((mget y10 s11).getD 0) _ hv15) (by kernel_rfl) (.cons (by kernel_rfl : Try.prog.stoodInHeld 217 = false) (.cons (by kernel_rfl : Try.prog.eqGuardType Try.prog.depth 217 = false) .nil)))))) (by kernel_rfl) (by kernel_rfl) ?_
          rcases Bool.eq_false_or_eq_true (((v14.from_ == v15.from_) && (v14.to_ == v15.to_)) == false) with h16 | h16
          · have hM := ite_true' hM h16
            refine tr_condTe (e := ((v14.from_ == v15.from_) && (v14.to_ == v15.to_)) == false) h16 (by kernel_rfl) ?_
            refine tr_sr hT hm [] [8] [(8, .d (bv false))] .nil (by kernel_rfl) (by kernel_rfl) ?_
            refine tr_ret (b_r (q_r (l_r (b_r (q_r (rg_r ?_))))))
            obtain rfl := Option.some.inj hM
            exact retg (names := []) .nil (by kernel_rfl)
          · have hM := ite_false' hM h16
            refine tr_condFe (e := ((v14.from_ == v15.from_) && (v14.to_ == v15.to_)) == false) h16 (by kernel_rfl) ?_
            refine tr_skip (b_n (q_n ?_))
            refine tr_r hT hm [] [0, 2, 10, 50, 52, 54, 2049] [(0, .d (.pt (eXCategory.b a0) 0)), (2, .d (.sl a1.length 0 (a1.flatMap eI.b))), (10, .d (.rm 1024)), (50, .d (.sl a1.length 0 (a1.flatMap eI.b))), (52, .d (iv (a1.length : Int))), (54, .d (iv (IntKind.i64.wrap (s5.2 + 1)))), (2049, .r (.mp (mpE kI vI s11)))] .nil (by kernel_rfl) (by kernel_rfl) (l_n ?_)
            exact trl_start (ks := [0, 2, 10, 50, 52, 54, 2049]) (by kernel_rfl) (ih7 (s11, IntKind.i64.wrap (s5.2 + 1)) hM)
        · intro k12 K13 hM
          refine tr_sr hT hm [(2, .val (.tup [iv ((mget y10 s5.1).getD 0), bv ((mget y10 s5.1).isSome)]))] [0, 2, 10, 12, 14, 18, 50, 52, 54, 2049] [(0, .d (.pt (eXCategory.b a0) 0)), (2, .d (.sl a1.length 0 (a1.flatMap eI.b))), (10, .d (.rm 1024)), (12, .d (iv s5.2)), (14, .d (iv y10)), (18, .d (bv ((mget y10 s5.1).isSome))), (50, .d (.sl a1.length 0 (a1.flatMap eI.b))), (52, .d (iv (a1.length : Int))), (54, .d (iv s5.2)), (2049, .r (.mp (mpE kI vI s5.1)))] (.cons (look_two kI vI 0 y10 s5.1) (.cons (by kernel_rfl : (Try.prog.info? 2).bind (·.zero) = some (.int .i64 0)) .nil)) (by kernel_rfl) (by kernel_rfl) ?_
          refine tr_sr hT hm [] [0, 2, 10, 12, 14, 50, 52, 54, 78, 2049] [(0, .d (.pt (eXCategory.b a0) 0)), (2, .d (.sl a1.length 0 (a1.flatMap eI.b))), (10, .d (.rm 1024)), (12, .d (iv s5.2)), (14, .d (iv y10)), (50, .d (.sl a1.length 0 (a1.flatMap eI.b))), (52, .d (iv (a1.length : Int))), (54, .d (iv s5.2)), (78, .d (bv (!((mget y10 s5.1).isSome)))), (2049, .r (.mp (mpE kI vI s5.1)))] .nil (by kernel_rfl) (by kernel_rfl) ?_
          rcases Bool.eq_false_or_eq_true ((mget y10 s5.1).isSome) with h17 | h17
          · have hM := ite_true' hM h17
            refine tr_condFe (e := !((mget y10 s5.1).isSome)) (congrArg not h17) (by kernel_rfl) ?_
            refine tr_skip (q_n ?_)
            exact tr_start (ks := [0, 2, 10, 12, 14, 50, 52, 54, 2049]) (by kernel_rfl) (K13 s5.1 hM)
          · have hM := ite_false' hM h17
            refine tr_condTe (e := !((mget y10 s5.1).isSome)) (congrArg not h17) (by kernel_rfl) ?_
            refine tr_r hT hm [] [0, 2, 10, 12, 14, 50, 52, 54, 2049] [(0, .d (.pt (eXCategory.b a0) 0)), (2, .d (.sl a1.length 0 (a1.flatMap eI.b))), (10, .d (.rm 1024)), (12, .d (iv s5.2)), (14, .d (iv y10)), (50, .d (.sl a1.length 0 (a1.flatMap eI.b))), (52, .d (iv (a1.length : Int))), (54, .d (iv s5.2)), (2049, .r (.mp (putV kI.d (kI.e y10) (vI s5.2) (mpE kI vI s5.1))))] (.cons (fnd_some kI vI y10 s5.1) .nil) (by kernel_rfl) (by kernel_rfl) (q_n ?_)
            refine Tr.by (imp_cvM (r := 1024) (put_mpE kI vI y10 s5.2 s5.1) (by kernel_rfl)) ?_
            exact tr_start (ks := [0, 2, 10, 12, 14, 50, 52, 54, 2049]) (by kernel_rfl) (K13 (mput y10 s5.2 s5.1) hM)
      · have hM := ite_false' hM h9
        refine tr_condFe (e := decide (s5.2 < (a1.length : Int))) h9 (by kernel_rfl) ?_
        refine tr_exit (q_x (l_x (b_h (q_n ?_))))
        refine tr_seq ?_
        refine tr_sr hT hm [] [0, 2, 10, 112, 114, 116, 2049] [(0, .d (.pt (eXCategory.b a0) 0)), (2, .d (.sl a1.length 0 (a1.flatMap eI.b))), (10, .d (.rm 1024)), (112, .d (.sl a0.Composites.length 0 (a0.Composites.flatMap (eS eI).b))), (114, .d (iv (a0.Composites.length : Int))), (116, .d (iv 0)), (2049, .r (.mp (mpE kI vI s5.1)))] .nil (by kernel_rfl) (by kernel_rfl) ?_
        refine tr_block ?_
        refine tr_iterS (fun (s18 : Int) => [(0, .d (.pt (eXCategory.b a0) 0)), (2, .d (.sl a1.length 0 (a1.flatMap eI.b))), (10, .d (.rm 1024)), (112, .d (.sl a0.Composites.length 0 (a0.Composites.flatMap (eS eI).b))), (114, .d (iv (a0.Composites.length : Int))), (116, .d (iv s18)), (2049, .r (.mp (mpE kI vI s5.1)))]) 0 [0, 2, 10, 112, 114, 116, 2049] (by kernel_rfl) hM ?_
        intro n21 next19 ih20 s18 hM
        refine tr_sr hT hm [] [0, 2, 10, 112, 114, 116, 118, 2049] [(0, .d (.pt (eXCategory.b a0) 0)), (2, .d (.sl a1.length 0 (a1.flatMap eI.b))), (10, .d (.rm 1024)), (112, .d (.sl a0.Composites.length 0 (a0.Composites.flatMap (eS eI).b))), (114, .d (iv (a0.Composites.length : Int))), (116, .d (iv s18)), (118, .d (bv (decide (s18 < (a0.Composites.length : Int))))), (2049, .r (.mp (mpE kI vI s5.1)))] .nil (by kernel_rfl) (by kernel_rfl) ?_
        refine tr_seq ?_
        rcases Bool.eq_false_or_eq_true (decide (s18 < (a0.Composites.length : Int))) with h22 | h22
        · have hM := ite_true' hM h22
          refine tr_condTe (e := decide (s18 < (a0.Composites.length : Int))) h22 (by kernel_rfl) ?_
          refine tr_skip (q_n ?_)
          refine tr_seq ?_
          refine tr_block ?_
          obtain ⟨y23, hy23, hM⟩ := bind_some' hM
          have hy23' := idx_some hy23
          refine tr_sr hT hm [(2, .val (.sl y23.length 0 (y23.flatMap eI.b)))] [0, 2, 10, 20, 22, 112, 114, 116, 2049] [(0, .d (.pt (eXCategory.b a0) 0)), (2, .d (.sl a1.length 0 (a1.flatMap eI.b))), (10, .d (.rm 1024)), (20, .d (iv s18)), (22, .d (.sl y23.length 0 (y23.flatMap eI.b))), (112, .d (.sl a0.Composites.length 0 (a0.Composites.flatMap (eS eI).b))), (114, .d (iv (a0.Composites.length : Int))), (116, .d (iv s18)), (2049, .r (.mp (mpE kI vI s5.1)))] (.cons hy23'.1 (.cons hy23'.2.1 (.cons (at_b0 (eS_ok eI_ok) hy23'.2.2 (d := .sl y23.length 0 (y23.flatMap eI.b)) (by kernel_rfl)) .nil))) (by kernel_rfl) (by kernel_rfl) ?_
          refine tr_sr hT hm [] [0, 2, 10, 20, 112, 114, 116, 126, 128, 130, 2049] [(0, .d (.pt (eXCategory.b a0) 0)), (2, .d (.sl a1.length 0 (a1.flatMap eI.b))), (10, .d (.rm 1024)), (20, .d (iv s18)), (112, .d (.sl a0.Composites.length 0 (a0.Composites.flatMap (eS eI).b))), (114, .d (iv (a0.Composites.length : Int))), (116, .d (iv s18)), (126, .d (.sl y23.length 0 (y23.flatMap eI.b))), (128, .d (iv (y23.length : Int))), (130, .d (iv 0)), (2049, .r (.mp (mpE kI vI s5.1)))] .nil (by kernel_rfl) (by kernel_rfl) ?_
          refine tr_block ?_
          refine tr_iterS (fun (s24 : Int) => [(0, .d (.pt (eXCategory.b a0) 0)), (2, .d (.sl a1.length 0 (a1.flatMap eI.b))), (10, .d (.rm 1024)), (20, .d (iv s18)), (112, .d (.sl a0.Composites.length 0 (a0.Composites.flatMap (eS eI).b))), (114, .d (iv (a0.Composites.length : Int))), (116, .d (iv s18)), (126, .d (.sl y23.length 0 (y23.flatMap eI.b))), (128, .d (iv (y23.length : Int))), (130, .d (iv s24)), (2049, .r (.mp (mpE kI vI s5.1)))]) 0 [0, 2, 10, 20, 112, 114, 116, 126, 128, 130, 2049] (by kernel_rfl) hM ?_
          intro n27 next25 ih26 s24 hM
          refine tr_sr hT hm [] [0, 2, 10, 20, 112, 114, 116, 126, 128, 130, 132, 2049] [(0, .d (.pt (eXCategory.b a0) 0)), (2, .d (.sl a1.length 0 (a1.flatMap eI.b))), (10, .d (.rm 1024)), (20, .d (iv s18)), (112, .d (.sl a0.Composites.length 0 (a0.Composites.flatMap (eS eI).b))), (114, .d (iv (a0.Composites.length : Int))), (116, .d (iv s18)), (126, .d (.sl y23.length 0 (y23.flatMap eI.b))), (128, .d (iv (y23.length : Int))), (130, .d (iv s24)), (132, .d (bv (decide (s24 < (y23.length : Int))))), (2049, .r (.mp (mpE kI vI s5.1)))] .nil (by kernel_rfl) (by kernel_rfl) ?_
          refine tr_seq ?_
          rcases Bool.eq_false_or_eq_true (decide (s24 < (y23.length : Int))) with h28 | h28
          · have hM := ite_true' hM h28
            refine tr_condTe (e := decide (s24 < (y23.length : Int))) h28 (by kernel_rfl) ?_
            refine tr_skip (q_n ?_)
            refine tr_seq ?_
            refine tr_block ?_
            obtain ⟨y29, hy29, hM⟩ := bind_some' hM
            have hy29' := idx_some hy29
            refine tr_sr hT hm [(2, .val (iv y29))] [0, 2, 10, 20, 24, 26, 112, 114, 116, 126, 128, 130, 2049] [(0, .d (.pt (eXCategory.b a0) 0)), (2, .d (.sl a1.length 0 (a1.flatMap eI.b))), (10, .d (.rm 1024)), (20, .d (iv s18)), (24, .d (iv s24)), (26, .d (iv y29)), (112, .d (.sl a0.Composites.length 0 (a0.Composites.flatMap (eS eI).b))), (114, .d (iv (a0.Composites.length : Int))), (116, .d (iv s18)), (126, .d (.sl y23.length 0 (y23.flatMap eI.b))), (128, .d (iv (y23.length : Int))), (130, .d (iv s24)), (2049, .r (.mp (mpE kI vI s5.1)))] (.cons hy29'.1 (.cons hy29'.2.1 (.cons (at_b0 eI_ok hy29'.2.2 (d := iv y29) (by kernel_rfl)) .nil))) (by kernel_rfl) (by kernel_rfl) ?_
            rcases Bool.eq_false_or_eq_true (decide (y29 ≥ 0)) with h30 | h30
            · have hM := ite_true' hM h30
              obtain ⟨y31, hy31, hM⟩ := bind_some' hM
              have hy31' := idx_some hy31
              obtain ⟨y32, hy32, hM⟩ := bind_some' hM
              have hy32' := idx_some hy32
              obtain ⟨y33, hy33, hM⟩ := bind_some' hM
              have hy33' := idx_some hy33
              obtain ⟨v34, hv34, hM⟩ := bind_some' hM
              obtain ⟨y35, hy35, hM⟩ := bind_some' hM
              have hy35' := idx_some hy35
              refine tr_sr hT hm [(2, .val (bv true)), (6, .val (iv y31)), (13, .val (iv y32)), (14, .val (iv ((mget y32 s5.1).getD 0))), (19, .val (iv y33)), (20, .val (iv ((mget y33 s5.1).getD 0))), (21, .call [] [] [.pt (eXCategory.b a0) 0, iv ((mget y32 s5.1).getD 0), iv ((mget y33 s5.1).getD 0)] [] (iv v34)), (23, .val (iv y35))] [0, 2, 10, 20, 112, 114, 116, 126, 128, 130, 190, 2049] [(0, .d (.pt (eXCategory.b a0) 0)), (2, .d (.sl a1.length 0 (a1.flatMap eI.b))), (10, .d (.rm 1024)), (20, .d (iv s18)), (112, .d (.sl a0.Composites.length 0 (a0.Composites.flatMap (eS eI).b))), (114, .d (iv (a0.Composites.length : Int))), (116, .d (iv s18)), (126, .d (.sl y23.length 0 (y23.flatMap eI.b))), (128, .d (iv (y23.length : Int))), (130, .d (iv s24)), (190, .d (bv (y31 != y35))), (2049, .r (.mp (mpE kI vI s5.1)))] (.cons (congrArg (fun b => bv b) h30) (.cons hy31'.1 (.cons hy31'.2.1 (.cons (at_b0 eI_ok hy31'.2.2 (d := iv y31) (by kernel_rfl)) (.cons hy32'.1 (.cons hy32'.2.1 (.cons (at_b0 eI_ok hy32'.2.2 (d := iv y32) (by kernel_rfl)) (.cons (look_one kI vI 0 y32 s5.1) (.cons (by kernel_rfl : (Try.prog.info? 2).bind (·.zero) = some (.int .i64 0)) (.cons hy33'.1 (.cons hy33'.2.1 (.cons (at_b0 eI_ok hy33'.2.2 (d := iv y33) (by kernel_rfl)) (.cons (look_one kI vI 0 y33 s5.1) (.cons (by kernel_rfl : (Try.prog.info? 2).bind (·.zero) = some (.int .i64 0)) (cc0 ok163 (impl_Category_then_c a0 ((mget y32 s5.1).getD 0) ((mget y33 s5.1).getD 0) _ hv34) (by kernel_rfl) (.cons hy35'.1 (.cons hy35'.2.1 (.cons (at_b0 eI_ok hy35'.2.2 (d := iv y35) (by kernel_rfl)) .nil)))))))))))))))))) (by kernel_rfl) (by kernel_rfl) ?_
              rcases Bool.eq_false_or_eq_true (y31 != y35) with h36 | h36
              · have hM := ite_true' hM h36
                refine tr_condTe (e := y31 != y35) h36 (by kernel_rfl) ?_
                refine tr_sr hT hm [] [8] [(8, .d (bv false))] .nil (by kernel_rfl) (by kernel_rfl) ?_
                refine tr_ret (b_r (q_r (l_r (b_r (b_r (q_r (l_r (b_r (q_r (rg_r ?_))))))))))
                obtain rfl := Option.some.inj hM
                exact retg (names := []) .nil (by kernel_rfl)
              · have hM := ite_false' hM h36
                refine tr_condFe (e := y31 != y35) h36 (by kernel_rfl) ?_
                refine tr_skip (b_n (q_n ?_))
                refine tr_r hT hm [] [0, 2, 10, 20, 112, 114, 116, 126, 128, 130, 2049] [(0, .d (.pt (eXCategory.b a0) 0)), (2, .d (.sl a1.length 0 (a1.flatMap eI.b))), (10, .d (.rm 1024)), (20, .d (iv s18)), (112, .d (.sl a0.Composites.length 0 (a0.Composites.flatMap (eS eI).b))), (114, .d (iv (a0.Composites.length : Int))), (116, .d (iv s18)), (126, .d (.sl y23.length 0 (y23.flatMap eI.b))), (128, .d (iv (y23.length : Int))), (130, .d (iv (IntKind.i64.wrap (s24 + 1)))), (2049, .r (.mp (mpE kI vI s5.1)))] .nil (by kernel_rfl) (by kernel_rfl) (l_n ?_)
                exact trl_start (ks := [0, 2, 10, 20, 112, 114, 116, 126, 128, 130, 2049]) (by kernel_rfl) (ih26 (IntKind.i64.wrap (s24 + 1)) hM)
            · have hM := ite_false' hM h30
              refine tr_sr hT hm [(2, .val (bv false))] [0, 2, 10, 20, 112, 114, 116, 126, 128, 130, 190, 2049] [(0, .d (.pt (eXCategory.b a0) 0)), (2, .d (.sl a1.length 0 (a1.flatMap eI.b))), (10, .d (.rm 1024)), (20, .d (iv s18)), (112, .d (.sl a0.Composites.length 0 (a0.Composites.flatMap (eS eI).b))), (114, .d (iv (a0.Composites.length : Int))), (116, .d (iv s18)), (126, .d (.sl y23.length 0 (y23.flatMap eI.b))), (128, .d (iv (y23.length : Int))), (130, .d (iv s24)), (190, .d (bv false)), (2049, .r (.mp (mpE kI vI s5.1)))] (.cons (congrArg (fun b => bv b) h30) .nil) (by kernel_rfl) (by kernel_rfl) ?_
              refine tr_condF (by kernel_rfl) ?_
              refine tr_skip (b_n (q_n ?_))
              refine tr_r hT hm [] [0, 2, 10, 20, 112, 114, 116, 126, 128, 130, 2049] [(0, .d (.pt (eXCategory.b a0) 0)), (2, .d (.sl a1.length 0 (a1.flatMap eI.b))), (10, .d (.rm 1024)), (20, .d (iv s18)), (112, .d (.sl a0.Composites.length 0 (a0.Composites.flatMap (eS eI).b))), (114, .d (iv (a0.Composites.length : Int))), (116, .d (iv s18)), (126, .d (.sl y23.length 0 (y23.flatMap eI.b))), (128, .d (iv (y23.length : Int))), (130, .d (iv (IntKind.i64.wrap (s24 + 1)))), (2049, .r (.mp (mpE kI vI s5.1)))] .nil (by kernel_rfl) (by kernel_rfl) (l_n ?_)
              exact trl_start (ks := [0, 2, 10, 20, 112, 114, 116, 126, 128, 130, 2049]) (by kernel_rfl) (ih26 (IntKind.i64.wrap (s24 + 1)) hM)
          · have hM := ite_false' hM h28
            refine tr_condFe (e := decide (s24 < (y23.length : Int))) h28 (by kernel_rfl) ?_
            refine tr_exit (q_x (l_x (b_h (b_n (q_n ?_)))))
            refine tr_r hT hm [] [0, 2, 10, 112, 114, 116, 2049] [(0, .d (.pt (eXCategory.b a0) 0)), (2, .d (.sl a1.length 0 (a1.flatMap eI.b))), (10, .d (.rm 1024)), (112, .d (.sl a0.Composites.length 0 (a0.Composites.flatMap (eS eI).b))), (114, .d (iv (a0.Composites.length : Int))), (116, .d (iv (IntKind.i64.wrap (s18 + 1)))), (2049, .r (.mp (mpE kI vI s5.1)))] .nil (by kernel_rfl) (by kernel_rfl) (l_n ?_)
            exact trl_start (ks := [0, 2, 10, 112, 114, 116, 2049]) (by kernel_rfl) (ih20 (IntKind.i64.wrap (s18 + 1)) hM)
        · have hM := ite_false' hM h22
          refine tr_condFe (e := decide (s18 < (a0.Composites.length : Int))) h22 (by kernel_rfl) ?_
          refine tr_exit (q_x (l_x (b_h (q_n ?_))))
          refine tr_sr hT hm [] [8] [(8, .d (bv true))] .nil (by kernel_rfl) (by kernel_rfl) ?_
          refine tr_ret (rg_r ?_)
          obtain rfl := Option.some.inj hM
          exact retg (names := []) .nil (by kernel_rfl)
    · have hM := ite_false' hM h4
      refine tr_condTe (e := !v3) (congrArg not h4) (by kernel_rfl) ?_
      refine tr_sr hT hm [] [8] [(8, .d (bv false))] .nil (by kernel_rfl) (by kernel_rfl) ?_
      refine tr_ret (q_r (rg_r ?_))
      obtain rfl := Option.some.inj hM
      exact retg (names := []) .nil (by kernel_rfl)

theorem ok269 : CallOk Try.prog 269 := callOk_of Try.func269 (by kernel_rfl) (by kernel_rfl)
theorem impl_Category_quotient_1_c (a0 : Int) (a1 : Int) (a2 : List Int) (a3 : XCategory) (a4 : List Int) (r : Int) (hM : M.impl_Category_quotient_1 a0 a1 a2 a3 a4 = some r) :
    FnC Try.prog 269 [] [iv a0, iv a1, .pt ((eS eI).b a2) 0, .pt ((eP eXCategory).b a3) 0, .pt ((eS eI).b a4) 0] [] (iv r) := by
  refine fnc_startG (N := 21) (np := 500) hT Try.func269 rfl rfl (by kernel_rfl) ?_
  unfold M.impl_Category_quotient_1 at hM
  refine tr_start (ks := [0, 2, 4, 6, 8]) (st' := [(0, .d (iv a0)), (2, .d (iv a1)), (4, .d (.pt ((eS eI).b a2) 0)), (6, .d (.pt ((eP eXCategory).b a3) 0)), (8, .d (.pt ((eS eI).b a4) 0))]) (by kernel_rfl) ?_
  refine tr_sr hT hm [] [0, 2, 4, 6, 8] [(0, .d (iv a0)), (2, .d (iv a1)), (4, .d (.pt ((eS eI).b a2) 0)), (6, .d (.pt ((eP eXCategory).b a3) 0)), (8, .d (.pt ((eS eI).b a4) 0))] .nil (by kernel_rfl) (by kernel_rfl) ?_
  obtain ⟨y1, hy1, hM⟩ := bind_some' hM
  have hy1' := idx_some hy1
  obtain ⟨y2, hy2, hM⟩ := bind_some' hM
  have hy2' := idx_some hy2
  obtain ⟨v3, hv3, hM⟩ := bind_some' hM
  obtain ⟨y4, hy4, hM⟩ := bind_some' hM
  have hy4' := idx_some hy4
  refine tr_sr hT hm [(5, .val (iv y1)), (9, .val (iv y2)), (10, .call [] [] [.pt (eXCategory.b a3) 0, iv y1, iv y2] [] (iv v3)), (12, .val (iv y4))] [14] [(14, .d (iv y4))] (.cons hy1'.1 (.cons hy1'.2.1 (.cons (at_b0 eI_ok hy1'.2.2 (d := iv y1) (by kernel_rfl)) (.cons hy2'.1 (.cons hy2'.2.1 (.cons (at_b0 eI_ok hy2'.2.2 (d := iv y2) (by kernel_rfl)) (cc0 ok163 (impl_Category_then_c a3 y1 y2 _ hv3) (by kernel_rfl) (.cons hy4'.1 (.cons hy4'.2.1 (.cons (at_b0 eI_ok hy4'.2.2 (d := iv y4) (by kernel_rfl)) .nil)))))))))) (by kernel_rfl) (by kernel_rfl) ?_
  refine tr_ret (rg_r ?_)
  obtain rfl := Option.some.inj hM
  exact retg (names := []) .nil (by kernel_rfl)

theorem ok209 : CallOk Try.prog 209 := callOk_of Try.func209 (by kernel_rfl) (by kernel_rfl)
theorem impl_Category_quotient_c (a0 : XCategory) (a1 : List Int) (r : XCategory) (hM : M.impl_Category_quotient a0 a1 = some r) :
    FnC Try.prog 209 [] [.pt (eXCategory.b a0) 0, .sl a1.length 0 (a1.flatMap eI.b)] [] (.agg (eXCategory.o r)) := by
  refine fnc_startG (N := 73) (np := 500) hT Try.func209 rfl rfl (by kernel_rfl) ?_
  unfold M.impl_Category_quotient at hM
  refine tr_start (ks := [0, 2]) (st' := [(0, .d (.pt (eXCategory.b a0) 0)), (2, .d (.sl a1.length 0 (a1.flatMap eI.b)))]) (by kernel_rfl) ?_
  refine tr_sr hT hm [] [4, 6, 8, 2005, 2007, 2009] [(4, .d (.rp 1002 0)), (6, .d (.rp 1003 0)), (8, .d (.rp 1004 0)), (2005, .r (.arr 1 [.pt (eXCategory.b a0) 0] [])), (2007, .r (.arr 1 [.sl a1.length 0 (a1.flatMap eI.b)] [])), (2009, .r (.arr 1 [iv 0, nilv, nilv, nilv, nilv] []))] .nil (by kernel_rfl) (by kernel_rfl) ?_
  obtain ⟨v1, hv1, hM⟩ := bind_some' hM
  refine tr_sr hT hm [(1, .call [] [] [.sl a1.length 0 (a1.flatMap eI.b)] [] (iv v1))] [4, 6, 8, 10, 2005, 2007, 2009] [(4, .d (.rp 1002 0)), (6, .d (.rp 1003 0)), (8, .d (.rp 1004 0)), (10, .d (iv v1)), (2005, .r (.arr 1 [.pt (eXCategory.b a0) 0] [])), (2007, .r (.arr 1 [.sl a1.length 0 (a1.flatMap eI.b)] [])), (2009, .r (.arr 1 [iv 0, nilv, nilv, nilv, nilv] []))] (cc0 ok222 (impl_partition_classes_c a1 _ hv1) (by kernel_rfl) .nil) (by kernel_rfl) (by kernel_rfl) ?_
  obtain ⟨h2, hM⟩ := chk_some hM
  obtain ⟨v3, hv3, hM⟩ := bind_some' hM
  refine tr_sr hT hm [(13, .call [] [] [.sl a0.Identity.length 0 (a0.Identity.flatMap eI.b), .sl a1.length 0 (a1.flatMap eI.b)] [] (.fr 1 v3.length (v3.flatMap eI.o)))] [4, 6, 8, 10, 12, 2005, 2007, 2009, 2013, 2033, 2037, 52001] [(4, .d (.rp 1002 0)), (6, .d (.rp 1003 0)), (8, .d (.rp 1004 0)), (10, .d (iv v1)), (12, .d (.rp 1006 0)), (2005, .r (.arr 1 [.pt (eXCategory.b a0) 0] [])), (2007, .r (.arr 1 [.sl a1.length 0 (a1.flatMap eI.b)] [])), (2009, .r (.arr 1 [iv 0, nilv, nilv, nilv, nilv] [])), (2013, .r (.arr 1 [iv a0.Objects, .rs 1016 0 v1.toNat, .rs 1018 0 v1.toNat, .rs 26000 0 v3.length, nilv] [1016, 1018, 26000])), (2033, .r (.arr 1 (repl v1.toNat [.int .i64 0]) [])), (2037, .r (.arr 1 (repl v1.toNat [.int .i64 0]) [])), (52001, .r (.arr 1 (v3.flatMap eI.o) []))] (.cons h2.1 (.cons (Int.le_refl v1) (.cons h2.2 (.cons h2.1 (.cons (Int.le_refl v1) (.cons h2.2 (cc0 ok268 (impl_then_c a0.Identity a1 _ hv3) (by kernel_rfl) (.cons (Nat.le_of_ble_eq_true (n := 5) (m := 5) rfl) .nil)))))))) (by kernel_rfl) (by kernel_rfl) ?_
  refine Tr.by (imp_cvE (r := 1016) (sz := 1) (refs := []) (repl_flat (f := eI.o) (zs := [.int .i64 0]) (z := (0 : Int)) rfl v1.toNat) (menO_flat eI_ok _) (by kernel_rfl)) ?_
  refine Tr.by (imp_cvB (r := 1006) (sz := 1) (cells := [iv a0.Objects, .rs 1016 0 v1.toNat, .rs 1018 0 v1.toNat, .rs 26000 0 v3.length, nilv]) (cells' := [iv a0.Objects, .rs 1016 0 ((List.replicate v1.toNat (0 : Int)).length), .rs 1018 0 v1.toNat, .rs 26000 0 v3.length, nilv]) (refs := [1016, 1018, 26000]) (refs' := [1016, 1018, 26000]) (.cons (.refl _) (.cons (Sub.of_eq (congrArg (D.rs 1016 0) (List.length_replicate.symm : v1.toNat = (List.replicate v1.toNat (0 : Int)).length))) (.cons (.refl _) (.cons (.refl _) (.cons (.refl _) .nil))))) (by kernel_rfl) (by kernel_rfl) (by kernel_rfl)) ?_
  refine Tr.by (imp_cvE (r := 1018) (sz := 1) (refs := []) (repl_flat (f := eI.o) (zs := [.int .i64 0]) (z := (0 : Int)) rfl v1.toNat) (menO_flat eI_ok _) (by kernel_rfl)) ?_
  refine Tr.by (imp_cvB (r := 1006) (sz := 1) (cells := [iv a0.Objects, .rs 1016 0 ((List.replicate v1.toNat (0 : Int)).length), .rs 1018 0 v1.toNat, .rs 26000 0 v3.length, nilv]) (cells' := [iv a0.Objects, .rs 1016 0 ((List.replicate v1.toNat (0 : Int)).length), .rs 1018 0 ((List.replicate v1.toNat (0 : Int)).length), .rs 26000 0 v3.length, nilv]) (refs := [1016, 1018, 26000]) (refs' := [1016, 1018, 26000]) (.cons (.refl _) (.cons (.refl _) (.cons (Sub.of_eq (congrArg (D.rs 1018 0) (List.length_replicate.symm : v1.toNat = (List.replicate v1.toNat (0 : Int)).length))) (.cons (.refl _) (.cons (.refl _) .nil))))) (by kernel_rfl) (by kernel_rfl) (by kernel_rfl)) ?_
  refine tr_sr hT hm [] [4, 6, 8, 12, 14, 2005, 2007, 2009, 2013, 2015, 2033, 2037, 2055, 52001] [(4, .d (.rp 1002 0)), (6, .d (.rp 1003 0)), (8, .d (.rp 1004 0)), (12, .d (.rp 1006 0)), (14, .d (.rp 1007 0)), (2005, .r (.arr 1 [.pt (eXCategory.b a0) 0] [])), (2007, .r (.arr 1 [.sl a1.length 0 (a1.flatMap eI.b)] [])), (2009, .r (.arr 1 [iv 0, nilv, nilv, nilv, nilv] [])), (2013, .r (.arr 1 [iv a0.Objects, .rs 1016 0 ((List.replicate v1.toNat (0 : Int)).length), .rs 1018 0 ((List.replicate v1.toNat (0 : Int)).length), .rs 26000 0 v3.length, nilv] [1016, 1018, 26000])), (2015, .r (.arr 1 [.rs 1027 0 v1.toNat] [1027])), (2033, .r (.arr 1 ((List.replicate v1.toNat (0 : Int)).flatMap eI.o) [])), (2037, .r (.arr 1 ((List.replicate v1.toNat (0 : Int)).flatMap eI.o) [])), (2055, .r (.arr 1 (repl v1.toNat [.int .i64 0]) [])), (52001, .r (.arr 1 (v3.flatMap eI.o) []))] (.cons h2.1 (.cons (Int.le_refl v1) (.cons h2.2 (.cons (Nat.le_of_ble_eq_true (n := 1) (m := 1) rfl) .nil)))) (by kernel_rfl) (by kernel_rfl) ?_
  refine Tr.by (imp_cvE (r := 1027) (sz := 1) (refs := []) (repl_flat (f := eI.o) (zs := [.int .i64 0]) (z := (0 : Int)) rfl v1.toNat) (menO_flat eI_ok _) (by kernel_rfl)) ?_
  refine Tr.by (imp_cvB (r := 1007) (sz := 1) (cells := [.rs 1027 0 v1.toNat]) (cells' := [.rs 1027 0 ((List.replicate v1.toNat (0 : Int)).length)]) (refs := [1027]) (refs' := [1027]) (.cons (Sub.of_eq (congrArg (D.rs 1027 0) (List.length_replicate.symm : v1.toNat = (List.replicate v1.toNat (0 : Int)).length))) .nil) (by kernel_rfl) (by kernel_rfl) (by kernel_rfl)) ?_
  refine tr_seq ?_
  refine tr_sr hT hm [] [4, 6, 8, 12, 14, 16, 2005, 2007, 2009, 2013, 2015, 2033, 2037, 2055, 52001] [(4, .d (.rp 1002 0)), (6, .d (.rp 1003 0)), (8, .d (.rp 1004 0)), (12, .d (.rp 1006 0)), (14, .d (.rp 1007 0)), (16, .d (iv (IntKind.i64.wrap ((a1.length : Int) - 1)))), (2005, .r (.arr 1 [.pt (eXCategory.b a0) 0] [])), (2007, .r (.arr 1 [.sl a1.length 0 (a1.flatMap eI.b)] [])), (2009, .r (.arr 1 [iv 0, nilv, nilv, nilv, nilv] [])), (2013, .r (.arr 1 [iv a0.Objects, .rs 1016 0 ((List.replicate v1.toNat (0 : Int)).length), .rs 1018 0 ((List.replicate v1.toNat (0 : Int)).length), .rs 26000 0 v3.length, nilv] [1016, 1018, 26000])), (2015, .r (.arr 1 [.rs 1027 0 ((List.replicate v1.toNat (0 : Int)).length)] [1027])), (2033, .r (.arr 1 ((List.replicate v1.toNat (0 : Int)).flatMap eI.o) [])), (2037, .r (.arr 1 ((List.replicate v1.toNat (0 : Int)).flatMap eI.o) [])), (2055, .r (.arr 1 ((List.replicate v1.toNat (0 : Int)).flatMap eI.o) [])), (52001, .r (.arr 1 (v3.flatMap eI.o) []))] .nil (by kernel_rfl) (by kernel_rfl) ?_
  refine tr_block ?_
  refine tr_iterS (fun (s4 : (List Int) × (List Int) × (List Int) × Int) => [(4, .d (.rp 1002 0)), (6, .d (.rp 1003 0)), (8, .d (.rp 1004 0)), (12, .d (.rp 1006 0)), (14, .d (.rp 1007 0)), (16, .d (iv s4.2.2.2)), (2005, .r (.arr 1 [.pt (eXCategory.b a0) 0] [])), (2007, .r (.arr 1 [.sl a1.length 0 (a1.flatMap eI.b)] [])), (2009, .r (.arr 1 [iv 0, nilv, nilv, nilv, nilv] [])), (2013, .r (.arr 1 [iv a0.Objects, .rs 1016 0 s4.1.length, .rs 1018 0 s4.2.1.length, .rs 26000 0 v3.length, nilv] [1016, 1018, 26000])), (2015, .r (.arr 1 [.rs 1027 0 s4.2.2.1.length] [1027])), (2033, .r (.arr 1 (s4.1.flatMap eI.o) [])), (2037, .r (.arr 1 (s4.2.1.flatMap eI.o) [])), (2055, .r (.arr 1 (s4.2.2.1.flatMap eI.o) [])), (52001, .r (.arr 1 (v3.flatMap eI.o) []))]) ((List.replicate v1.toNat (0 : Int)), (List.replicate v1.toNat (0 : Int)), (List.replicate v1.toNat (0 : Int)), IntKind.i64.wrap ((a1.length : Int) - 1)) [4, 6, 8, 12, 14, 16, 2005, 2007, 2009, 2013, 2015, 2033, 2037, 2055, 52001] (by kernel_rfl) hM ?_
  intro n7 next5 ih6 s4 hM
  refine tr_seq ?_
  refine tr_sr hT hm [] [4, 6, 8, 12, 14, 16, 64, 2005, 2007, 2009, 2013, 2015, 2033, 2037, 2055, 52001] [(4, .d (.rp 1002 0)), (6, .d (.rp 1003 0)), (8, .d (.rp 1004 0)), (12, .d (.rp 1006 0)), (14, .d (.rp 1007 0)), (16, .d (iv s4.2.2.2)), (64, .d (bv (decide (s4.2.2.2 ≥ 0)))), (2005, .r (.arr 1 [.pt (eXCategory.b a0) 0] [])), (2007, .r (.arr 1 [.sl a1.length 0 (a1.flatMap eI.b)] [])), (2009, .r (.arr 1 [iv 0, nilv, nilv, nilv, nilv] [])), (2013, .r (.arr 1 [iv a0.Objects, .rs 1016 0 s4.1.length, .rs 1018 0 s4.2.1.length, .rs 26000 0 v3.length, nilv] [1016, 1018, 26000])), (2015, .r (.arr 1 [.rs 1027 0 s4.2.2.1.length] [1027])), (2033, .r (.arr 1 (s4.1.flatMap eI.o) [])), (2037, .r (.arr 1 (s4.2.1.flatMap eI.o) [])), (2055, .r (.arr 1 (s4.2.2.1.flatMap eI.o) [])), (52001, .r (.arr 1 (v3.flatMap eI.o) []))] .nil (by kernel_rfl) (by kernel_rfl) ?_
  rcases Bool.eq_false_or_eq_true (decide (s4.2.2.2 ≥ 0)) with h8 | h8
  · have hM := ite_true' hM h8
    refine tr_condTe (e := decide (s4.2.2.2 ≥ 0)) h8 (by kernel_rfl) ?_
    refine tr_skip (q_n ?_)
    refine tr_seq ?_
    refine tr_block ?_
    obtain ⟨y9, hy9, hM⟩ := bind_some' hM
    have hy9' := idx_some hy9
    obtain ⟨y10, hy10, hM⟩ := bind_some' hM
    have hy10' := idx_some hy10
    refine tr_sr hT hm [(4, .val (iv y9))] [4, 6, 8, 12, 14, 16, 2005, 2007, 2009, 2013, 2015, 2033, 2037, 2055, 52001] [(4, .d (.rp 1002 0)), (6, .d (.rp 1003 0)), (8, .d (.rp 1004 0)), (12, .d (.rp 1006 0)), (14, .d (.rp 1007 0)), (16, .d (iv s4.2.2.2)), (2005, .r (.arr 1 [.pt (eXCategory.b a0) 0] [])), (2007, .r (.arr 1 [.sl a1.length 0 (a1.flatMap eI.b)] [])), (2009, .r (.arr 1 [iv 0, nilv, nilv, nilv, nilv] [])), (2013, .r (.arr 1 [iv a0.Objects, .rs 1016 0 s4.1.length, .rs 1018 0 s4.2.1.length, .rs 26000 0 v3.length, nilv] [1016, 1018, 26000])), (2015, .r (.arr 1 [.rs 1027 0 s4.2.2.1.length] [1027])), (2033, .r (.arr 1 (s4.1.flatMap eI.o) [])), (2037, .r (.arr 1 (s4.2.1.flatMap eI.o) [])), (2055, .r (.arr 1 ((s4.2.2.1.flatMap eI.o).take (0 + y9.toNat * 1) ++ [iv s4.2.2.2] ++ (s4.2.2.1.flatMap eI.o).drop (0 + y9.toNat * 1 + 1)) [])), (52001, .r (.arr 1 (v3.flatMap eI.o) []))] (.cons hy9'.1 (.cons hy9'.2.1 (.cons (at_b0 eI_ok hy9'.2.2 (d := iv y9) (by kernel_rfl)) (.cons hy10'.1 (.cons hy10'.2.1 (.cons (store_le eI_ok hy10'.2.2) .nil)))))) (by kernel_rfl) (by kernel_rfl) ?_
    refine Tr.by (imp_cvE (r := 1027) (sz := 1) (refs := []) (set_flat eI_ok.lenO (y := s4.2.2.2) hy10'.2.2) (menO_flat eI_ok _) (by kernel_rfl)) ?_
    refine Tr.by (imp_cvB (r := 1007) (sz := 1) (cells := [.rs 1027 0 s4.2.2.1.length]) (cells' := [.rs 1027 0 ((s4.2.2.1.set y9.toNat s4.2.2.2).length)]) (refs := [1027]) (refs' := [1027]) (.cons (Sub.of_eq (congrArg (D.rs 1027 0) (List.length_set.symm : s4.2.2.1.length = (s4.2.2.1.set y9.toNat s4.2.2.2).length))) .nil) (by kernel_rfl) (by kernel_rfl) (by kernel_rfl)) ?_
    obtain ⟨y11, hy11, hM⟩ := bind_some' hM
    have hy11' := idx_some hy11
    obtain ⟨y12, hy12, hM⟩ := bind_some' hM
    have hy12' := idx_some hy12
    refine tr_sr hT hm [(5, .val (iv y9)), (12, .val (iv y11))] [4, 6, 8, 12, 14, 16, 2005, 2007, 2009, 2013, 2015, 2033, 2037, 2055, 52001] [(4, .d (.rp 1002 0)), (6, .d (.rp 1003 0)), (8, .d (.rp 1004 0)), (12, .d (.rp 1006 0)), (14, .d (.rp 1007 0)), (16, .d (iv s4.2.2.2)), (2005, .r (.arr 1 [.pt (eXCategory.b a0) 0] [])), (2007, .r (.arr 1 [.sl a1.length 0 (a1.flatMap eI.b)] [])), (2009, .r (.arr 1 [iv 0, nilv, nilv, nilv, nilv] [])), (2013, .r (.arr 1 [iv a0.Objects, .rs 1016 0 s4.1.length, .rs 1018 0 s4.2.1.length, .rs 26000 0 v3.length, nilv] [1016, 1018, 26000])), (2015, .r (.arr 1 [.rs 1027 0 ((s4.2.2.1.set y9.toNat s4.2.2.2).length)] [1027])), (2033, .r (.arr 1 ((s4.1.flatMap eI.o).take (0 + y9.toNat * 1) ++ [iv y11] ++ (s4.1.flatMap eI.o).drop (0 + y9.toNat * 1 + 1)) [])), (2037, .r (.arr 1 (s4.2.1.flatMap eI.o) [])), (2055, .r (.arr 1 ((s4.2.2.1.set y9.toNat s4.2.2.2).flatMap eI.o) [])), (52001, .r (.arr 1 (v3.flatMap eI.o) []))] (.cons hy9'.1 (.cons hy9'.2.1 (.cons (at_b0 eI_ok hy9'.2.2 (d := iv y9) (by kernel_rfl)) (.cons hy11'.1 (.cons hy11'.2.1 (.cons (at_b0 eI_ok hy11'.2.2 (d := iv y11) (by kernel_rfl)) (.cons hy12'.1 (.cons hy12'.2.1 (.cons (store_le eI_ok hy12'.2.2) .nil))))))))) (by kernel_rfl) (by kernel_rfl) ?_
    refine Tr.by (imp_cvE (r := 1016) (sz := 1) (refs := []) (set_flat eI_ok.lenO (y := y11) hy12'.2.2) (menO_flat eI_ok _) (by kernel_rfl)) ?_
    refine Tr.by (imp_cvB (r := 1006) (sz := 1) (cells := [iv a0.Objects, .rs 1016 0 s4.1.length, .rs 1018 0 s4.2.1.length, .rs 26000 0 v3.length, nilv]) (cells' := [iv a0.Objects, .rs 1016 0 ((s4.1.set y9.toNat y11).length), .rs 1018 0 s4.2.1.length, .rs 26000 0 v3.length, nilv]) (refs := [1016, 1018, 26000]) (refs' := [1016, 1018, 26000]) (.cons (.refl _) (.cons (Sub.of_eq (congrArg (D.rs 1016 0) (List.length_set.symm : s4.1.length = (s4.1.set y9.toNat y11).length))) (.cons (.refl _) (.cons (.refl _) (.cons (.refl _) .nil))))) (by kernel_rfl) (by kernel_rfl) (by kernel_rfl)) ?_
    obtain ⟨y13, hy13, hM⟩ := bind_some' hM
    have hy13' := idx_some hy13
    obtain ⟨y14, hy14, hM⟩ := bind_some' hM
    have hy14' := idx_some hy14
    refine tr_r hT hm [(5, .val (iv y9)), (12, .val (iv y13))] [4, 6, 8, 12, 14, 16, 2005, 2007, 2009, 2013, 2015, 2033, 2037, 2055, 52001] [(4, .d (.rp 1002 0)), (6, .d (.rp 1003 0)), (8, .d (.rp 1004 0)), (12, .d (.rp 1006 0)), (14, .d (.rp 1007 0)), (16, .d (iv s4.2.2.2)), (2005, .r (.arr 1 [.pt (eXCategory.b a0) 0] [])), (2007, .r (.arr 1 [.sl a1.length 0 (a1.flatMap eI.b)] [])), (2009, .r (.arr 1 [iv 0, nilv, nilv, nilv, nilv] [])), (2013, .r (.arr 1 [iv a0.Objects, .rs 1016 0 ((s4.1.set y9.toNat y11).length), .rs 1018 0 s4.2.1.length, .rs 26000 0 v3.length, nilv] [1016, 1018, 26000])), (2015, .r (.arr 1 [.rs 1027 0 ((s4.2.2.1.set y9.toNat s4.2.2.2).length)] [1027])), (2033, .r (.arr 1 ((s4.1.set y9.toNat y11).flatMap eI.o) [])), (2037, .r (.arr 1 ((s4.2.1.flatMap eI.o).take (0 + y9.toNat * 1) ++ [iv y13] ++ (s4.2.1.flatMap eI.o).drop (0 + y9.toNat * 1 + 1)) [])), (2055, .r (.arr 1 ((s4.2.2.1.set y9.toNat s4.2.2.2).flatMap eI.o) [])), (52001, .r (.arr 1 (v3.flatMap eI.o) []))] (.cons hy9'.1 (.cons hy9'.2.1 (.cons (at_b0 eI_ok hy9'.2.2 (d := iv y9) (by kernel_rfl)) (.cons hy13'.1 (.cons hy13'.2.1 (.cons (at_b0 eI_ok hy13'.2.2 (d := iv y13) (by kernel_rfl)) (.cons hy14'.1 (.cons hy14'.2.1 (.cons (store_le eI_ok hy14'.2.2) .nil))))))))) (by kernel_rfl) (by kernel_rfl) (b_n (q_n ?_))
    refine Tr.by (imp_cvE (r := 1018) (sz := 1) (refs := []) (set_flat eI_ok.lenO (y := y13) hy14'.2.2) (menO_flat eI_ok _) (by kernel_rfl)) ?_
    refine Tr.by (imp_cvB (r := 1006) (sz := 1) (cells := [iv a0.Objects, .rs 1016 0 ((s4.1.set y9.toNat y11).length), .rs 1018 0 s4.2.1.length, .rs 26000 0 v3.length, nilv]) (cells' := [iv a0.Objects, .rs 1016 0 ((s4.1.set y9.toNat y11).length), .rs 1018 0 ((s4.2.1.set y9.toNat y13).length), .rs 26000 0 v3.length, nilv]) (refs := [1016, 1018, 26000]) (refs' := [1016, 1018, 26000]) (.cons (.refl _) (.cons (.refl _) (.cons (Sub.of_eq (congrArg (D.rs 1018 0) (List.length_set.symm : s4.2.1.length = (s4.2.1.set y9.toNat y13).length))) (.cons (.refl _) (.cons (.refl _) .nil))))) (by kernel_rfl) (by kernel_rfl) (by kernel_rfl)) ?_
    refine tr_r hT hm [] [4, 6, 8, 12, 14, 16, 2005, 2007, 2009, 2013, 2015, 2033, 2037, 2055, 52001] [(4, .d (.rp 1002 0)), (6, .d (.rp 1003 0)), (8, .d (.rp 1004 0)), (12, .d (.rp 1006 0)), (14, .d (.rp 1007 0)), (16, .d (iv (IntKind.i64.wrap (s4.2.2.2 - 1)))), (2005, .r (.arr 1 [.pt (eXCategory.b a0) 0] [])), (2007, .r (.arr 1 [.sl a1.length 0 (a1.flatMap eI.b)] [])), (2009, .r (.arr 1 [iv 0, nilv, nilv, nilv, nilv] [])), (2013, .r (.arr 1 [iv a0.Objects, .rs 1016 0 ((s4.1.set y9.toNat y11).length), .rs 1018 0 ((s4.2.1.set y9.toNat y13).length), .rs 26000 0 v3.length, nilv] [1016, 1018, 26000])), (2015, .r (.arr 1 [.rs 1027 0 ((s4.2.2.1.set y9.toNat s4.2.2.2).length)] [1027])), (2033, .r (.arr 1 ((s4.1.set y9.toNat y11).flatMap eI.o) [])), (2037, .r (.arr 1 ((s4.2.1.set y9.toNat y13).flatMap eI.o) [])), (2055, .r (.arr 1 ((s4.2.2.1.set y9.toNat s4.2.2.2).flatMap eI.o) [])), (52001, .r (.arr 1 (v3.flatMap eI.o) []))] .nil (by kernel_rfl) (by kernel_rfl) (l_n ?_)
    exact trl_start (ks := [4, 6, 8, 12, 14, 16, 2005, 2007, 2009, 2013, 2015, 2033, 2037, 2055, 52001]) (by kernel_rfl) (ih6 (s4.1.set y9.toNat y11, s4.2.1.set y9.toNat y13, s4.2.2.1.set y9.toNat s4.2.2.2, IntKind.i64.wrap (s4.2.2.2 - 1)) hM)
  · have hM := ite_false' hM h8
    refine tr_condFe (e := decide (s4.2.2.2 ≥ 0)) h8 (by kernel_rfl) ?_
    refine tr_exit (q_x (l_x (b_h (q_n ?_))))
    refine Tr.by (imp_dem (r := 1006) (q := 1016) (sz := 1) (n := s4.1.length) (j := 1) (pre := []) (l := [iv a0.Objects, .rs 1016 0 s4.1.length, .rs 1018 0 s4.2.1.length, .rs 26000 0 v3.length, nilv]) (post := []) (refs := [1016, 1018, 26000]) (refs' := [1018, 26000]) rfl rfl (lenO_flat eI_ok s4.1) (by kernel_rfl) (by kernel_rfl) (by kernel_rfl) (by kernel_rfl) (by kernel_rfl)) ?_
    refine Tr.by (imp_dem (r := 1006) (q := 1018) (sz := 1) (n := s4.2.1.length) (j := 2) (pre := []) (l := [iv a0.Objects, .fr 1 s4.1.length (s4.1.flatMap eI.o), .rs 1018 0 s4.2.1.length, .rs 26000 0 v3.length, nilv]) (post := []) (refs := [1018, 26000]) (refs' := [26000]) rfl rfl (lenO_flat eI_ok s4.2.1) (by kernel_rfl) (by kernel_rfl) (by kernel_rfl) (by kernel_rfl) (by kernel_rfl)) ?_
    refine Tr.by (imp_dem (r := 1006) (q := 26000) (sz := 1) (n := v3.length) (j := 3) (pre := []) (l := [iv a0.Objects, .fr 1 s4.1.length (s4.1.flatMap eI.o), .fr 1 s4.2.1.length (s4.2.1.flatMap eI.o), .rs 26000 0 v3.length, nilv]) (post := []) (refs := [26000]) (refs' := []) rfl rfl (lenO_flat eI_ok v3) (by kernel_rfl) (by kernel_rfl) (by kernel_rfl) (by kernel_rfl) (by kernel_rfl)) ?_
    refine Tr.by (imp_cvB (r := 1006) (sz := 1) (cells := [iv a0.Objects, .fr 1 s4.1.length (s4.1.flatMap eI.o), .fr 1 s4.2.1.length (s4.2.1.flatMap eI.o), .fr 1 v3.length (v3.flatMap eI.o), nilv]) (cells' := [iv a0.Objects, .fr 1 s4.1.length (s4.1.flatMap eI.o), .fr 1 s4.2.1.length (s4.2.1.flatMap eI.o), .fr 1 v3.length (v3.flatMap eI.o), .fr 1 ([] : List (List Int)).length (([] : List (List Int)).flatMap (eS eI).o)]) (refs := []) (refs' := []) (.cons (.refl _) (.cons (.refl _) (.cons (.refl _) (.cons (.refl _) (.cons Sub.nil_fr .nil))))) (by kernel_rfl) (by kernel_rfl) (by kernel_rfl)) ?_
    obtain ⟨v15, hv15, hM⟩ := bind_some' hM
    refine tr_sr hT hm [(1, .call [1003, 1002, 1007, 1027] [(0, 1006)] [.rp 0 0, .fb 269 [.pt ((eS eI).b a1) 0, .pt ((eP eXCategory).b a0) 0, .pt ((eS eI).b s4.2.2.1) 0]] [(0, .arr 1 [iv v15.Objects, .fr 1 v15.From.length (v15.From.flatMap eI.o), .fr 1 v15.To.length (v15.To.flatMap eI.o), .fr 1 v15.Identity.length (v15.Identity.flatMap eI.o), .fr 1 v15.Composites.length (v15.Composites.flatMap (eS eI).o)] [])] (.tup []))] [8, 12, 2009, 2013] [(8, .d (.rp 1004 0)), (12, .d (.rp 1006 0)), (2009, .r (.arr 1 [iv 0, nilv, nilv, nilv, nilv] [])), (2013, .r (.arr 1 [iv v15.Objects, .fr 1 v15.From.length (v15.From.flatMap eI.o), .fr 1 v15.To.length (v15.To.flatMap eI.o), .fr 1 v15.Identity.length (v15.Identity.flatMap eI.o), .fr 1 v15.Composites.length (v15.Composites.flatMap (eS eI).o)] []))] (cc (B := [1003, 1002, 1007, 1027]) (ρ := [(0, 1006)]) (rB := [(1003, .arr 1 [.sl a1.length 0 (a1.flatMap eI.b)] []), (1002, .arr 1 [.pt (eXCategory.b a0) 0] []), (1007, .arr 1 [.rs 1027 0 s4.2.2.1.length] [1027]), (1027, .arr 1 (s4.2.2.1.flatMap eI.o) [])]) ok203 (impl_Category_table_c (⟨a0.Objects, s4.1, s4.2.1, v3, []⟩ : XCategory) 269 ([.pt ((eS eI).b a1) 0, .pt ((eP eXCategory).b a0) 0, .pt ((eS eI).b s4.2.2.1) 0] : List D) (fun (x0 : Int) (x1 : Int) => M.impl_Category_quotient_1 x0 x1 a1 a0 s4.2.2.1) ok269 (by kernel_rfl) (fun x0 x1 r h => impl_Category_quotient_1_c x0 x1 a1 a0 s4.2.2.1 r h) _ hv15) (.cons (.pass (.rp rfl)) (.cons (.fn (.cons (.rp (r := 1003) (sz := 1) (cells := [.sl a1.length 0 (a1.flatMap eI.b)]) (refs := []) (memB (by kernel_rfl)) (by kernel_rfl) (.cons (.same rfl rfl) .nil)) (.cons (.rp (r := 1002) (sz := 1) (cells := [.pt (eXCategory.b a0) 0]) (refs := []) (memB (by kernel_rfl)) (by kernel_rfl) (.cons (.same rfl rfl) .nil)) (.cons (.rp (r := 1007) (sz := 1) (cells := [.rs 1027 0 s4.2.2.1.length]) (refs := [1027]) (memB (by kernel_rfl)) (by kernel_rfl) (.cons (.rs (r := 1027) (sz := 1) (refs := []) (memB (by kernel_rfl)) (by kernel_rfl) (bor_flat eI_ok _ _ _)) .nil)) .nil)))) .nil)) (.inr ⟨(nobor_tup .nil), ⟨(eXCategory_nb _), trivial⟩⟩) .nil) (by kernel_rfl) (by kernel_rfl) ?_
    refine Tr.by (imp_promote (r := 1006) (i := 1) (q := 700005) (sz := 1) (sz' := 1) (n := v15.From.length) (cells := [iv v15.Objects, .fr 1 v15.From.length (v15.From.flatMap eI.o), .fr 1 v15.To.length (v15.To.flatMap eI.o), .fr 1 v15.Identity.length (v15.Identity.flatMap eI.o), .fr 1 v15.Composites.length (v15.Composites.flatMap (eS eI).o)]) (ds := v15.From.flatMap eI.o) (refs := []) (by kernel_rfl) (by kernel_rfl) (by kernel_rfl)) ?_
    refine Tr.by (imp_promote (r := 1006) (i := 2) (q := 700006) (sz := 1) (sz' := 1) (n := v15.To.length) (cells := [iv v15.Objects, .rs 700005 0 v15.From.length, .fr 1 v15.To.length (v15.To.flatMap eI.o), .fr 1 v15.Identity.length (v15.Identity.flatMap eI.o), .fr 1 v15.Composites.length (v15.Composites.flatMap (eS eI).o)]) (ds := v15.To.flatMap eI.o) (refs := [700005]) (by kernel_rfl) (by kernel_rfl) (by kernel_rfl)) ?_
    refine Tr.by (imp_promote (r := 1006) (i := 3) (q := 700007) (sz := 1) (sz' := 1) (n := v15.Identity.length) (cells := [iv v15.Objects, .rs 700005 0 v15.From.length, .rs 700006 0 v15.To.length, .fr 1 v15.Identity.length (v15.Identity.flatMap eI.o), .fr 1 v15.Composites.length (v15.Composites.flatMap (eS eI).o)]) (ds := v15.Identity.flatMap eI.o) (refs := [700006, 700005]) (by kernel_rfl) (by kernel_rfl) (by kernel_rfl)) ?_
    refine Tr.by (imp_promote (r := 1006) (i := 4) (q := 700008) (sz := 1) (sz' := 1) (n := v15.Composites.length) (cells := [iv v15.Objects, .rs 700005 0 v15.From.length, .rs 700006 0 v15.To.length, .rs 700007 0 v15.Identity.length, .fr 1 v15.Composites.length (v15.Composites.flatMap (eS eI).o)]) (ds := v15.Composites.flatMap (eS eI).o) (refs := [700007, 700006, 700005]) (by kernel_rfl) (by kernel_rfl) (by kernel_rfl)) ?_
    refine tr_sr hT hm [] [8, 2009, 1400011, 1400013, 1400015, 1400017] [(8, .d (.rp 1004 0)), (2009, .r (.arr 1 [iv v15.Objects, .rs 700005 0 v15.From.length, .rs 700006 0 v15.To.length, .rs 700007 0 v15.Identity.length, .rs 700008 0 v15.Composites.length] [700005, 700006, 700007, 700008])), (1400011, .r (.arr 1 (v15.From.flatMap eI.o) [])), (1400013, .r (.arr 1 (v15.To.flatMap eI.o) [])), (1400015, .r (.arr 1 (v15.Identity.flatMap eI.o) [])), (1400017, .r (.arr 1 (v15.Composites.flatMap (eS eI).o) []))] (.cons (Nat.le_of_ble_eq_true (n := 5) (m := 5) rfl) .nil) (by kernel_rfl) (by kernel_rfl) ?_
    refine tr_ret (rg_r ?_)
    obtain rfl := Option.some.inj hM
    exact retg (names := []) (.cons (lenO_flat eI_ok v15.From) (.cons (lenO_flat eI_ok v15.To) (.cons (lenO_flat eI_ok v15.Identity) (.cons (lenO_flat (eS_ok eI_ok) v15.Composites) .nil)))) (by kernel_rfl)

theorem ok125 : CallOk Try.prog 125 := callOk_of Try.func125 (by kernel_rfl) (by kernel_rfl)
theorem impl_QuotientCategory_c (a0 : XCategory) (a1 : List Int) (r : XCategory × Int) (hM : M.impl_QuotientCategory a0 a1 = some r) :
    FnC Try.prog 125 [] [.agg (eXCategory.b a0), .sl a1.length 0 (a1.flatMap eI.b)] [] (.tup [.agg (eXCategory.o r.1), iv r.2]) := by
  refine fnc_startG (N := 16) (np := 500) hT Try.func125 rfl rfl (by kernel_rfl) ?_
  unfold M.impl_QuotientCategory at hM
  refine tr_start (ks := [0, 2]) (st' := [(0, .d (.agg (eXCategory.b a0))), (2, .d (.sl a1.length 0 (a1.flatMap eI.b)))]) (by kernel_rfl) ?_
  refine tr_sr hT hm [] [2, 4, 8, 2005, 2009] [(2, .d (.sl a1.length 0 (a1.flatMap eI.b))), (4, .d (.rp 1002 0)), (8, .d (.rp 1004 0)), bxB 2005 (eXCategory.b a0), (2009, .r (.arr 1 [iv 0, nilv, nilv, nilv, nilv] []))] .nil (by kernel_rfl) (by kernel_rfl) ?_
  refine tr_seq ?_
  obtain ⟨v1, hv1, hM⟩ := bind_some' hM
  rcases Bool.eq_false_or_eq_true v1 with h2 | h2
  · have hM := ite_true' hM h2
    obtain ⟨v3, hv3, hM⟩ := bind_some' hM
    refine tr_sr hT hm [(0, .call [1002] [] [.pt (eXCategory.b a0) 0] [] (bv v1)), (2, .val (bv false)), (4, .call [1002] [] [.pt (eXCategory.b a0) 0, .sl a1.length 0 (a1.flatMap eI.b)] [] (bv v3))] [2, 4, 8, 24, 2005, 2009] [(2, .d (.sl a1.length 0 (a1.flatMap eI.b))), (4, .d (.rp 1002 0)), (8, .d (.rp 1004 0)), (24, .d (bv (!v3))), bxB 2005 (eXCategory.b a0), (2009, .r (.arr 1 [iv 0, nilv, nilv, nilv, nilv] []))] (cc (B := [1002]) (ρ := []) (rB := [(1002, .arr 1 [iv a0.Objects, .sl a0.From.length 0 (a0.From.flatMap eI.b), .sl a0.To.length 0 (a0.To.flatMap eI.b), .sl a0.Identity.length 0 (a0.Identity.flatMap eI.b), .sl a0.Composites.length 0 (a0.Composites.flatMap (eS eI).b)] [])]) ok115 (impl_Category_isCategory_c a0 _ hv1) (.cons (.of1 (.rp (r := 1002) (sz := 1) (cells := [iv a0.Objects, .sl a0.From.length 0 (a0.From.flatMap eI.b), .sl a0.To.length 0 (a0.To.flatMap eI.b), .sl a0.Identity.length 0 (a0.Identity.flatMap eI.b), .sl a0.Composites.length 0 (a0.Composites.flatMap (eS eI).b)]) (refs := []) (memB (by kernel_rfl)) (by kernel_rfl) (.cons .v (.cons (.same rfl rfl) (.cons (.same rfl rfl) (.cons (.same rfl rfl) (.cons (.same rfl rfl) .nil))))))) .nil) (.inr ⟨.v, trivial⟩) (.cons (congrArg (fun b => bv b) (congrArg not h2)) (cc (B := [1002]) (ρ := []) (rB := [(1002, .arr 1 [iv a0.Objects, .sl a0.From.length 0 (a0.From.flatMap eI.b), .sl a0.To.length 0 (a0.To.flatMap eI.b), .sl a0.Identity.length 0 (a0.Identity.flatMap eI.b), .sl a0.Composites.length 0 (a0.Composites.flatMap (eS eI).b)] [])]) ok208 (impl_Category_isCongruence_c a0 a1 _ hv3) (.cons (.of1 (.rp (r := 1002) (sz := 1) (cells := [iv a0.Objects, .sl a0.From.length 0 (a0.From.flatMap eI.b), .sl a0.To.length 0 (a0.To.flatMap eI.b), .sl a0.Identity.length 0 (a0.Identity.flatMap eI.b), .sl a0.Composites.length 0 (a0.Composites.flatMap (eS eI).b)]) (refs := []) (memB (by kernel_rfl)) (by kernel_rfl) (.cons .v (.cons (.same rfl rfl) (.cons (.same rfl rfl) (.cons (.same rfl rfl) (.cons (.same rfl rfl) .nil))))))) (.cons (.same rfl) .nil)) (.inr ⟨.v, trivial⟩) .nil))) (by kernel_rfl) (by kernel_rfl) ?_
    rcases Bool.eq_false_or_eq_true v3 with h4 | h4
    · have hM := ite_true' hM h4
      refine tr_condFe (e := !v3) (congrArg not h4) (by kernel_rfl) ?_
      refine tr_skip (q_n ?_)
      obtain ⟨v5, hv5, hM⟩ := bind_some' hM
      refine tr_sr hT hm [(1, .call [1002] [] [.pt (eXCategory.b a0) 0, .sl a1.length 0 (a1.flatMap eI.b)] [] (.agg (eXCategory.o v5)))] [8, 10, 2009, 34003, 34005, 34007, 34009] ([(8, .d (.rp 1004 0)), (10, .d (iv 0)), bxO 2009 17000 (eXCategory.o v5)] ++ rsS 17000 (eXCategory.o v5)) (cc (B := [1002]) (ρ := []) (rB := [(1002, .arr 1 [iv a0.Objects, .sl a0.From.length 0 (a0.From.flatMap eI.b), .sl a0.To.length 0 (a0.To.flatMap eI.b), .sl a0.Identity.length 0 (a0.Identity.flatMap eI.b), .sl a0.Composites.length 0 (a0.Composites.flatMap (eS eI).b)] [])]) ok209 (impl_Category_quotient_c a0 a1 _ hv5) (.cons (.of1 (.rp (r := 1002) (sz := 1) (cells := [iv a0.Objects, .sl a0.From.length 0 (a0.From.flatMap eI.b), .sl a0.To.length 0 (a0.To.flatMap eI.b), .sl a0.Identity.length 0 (a0.Identity.flatMap eI.b), .sl a0.Composites.length 0 (a0.Composites.flatMap (eS eI).b)]) (refs := []) (memB (by kernel_rfl)) (by kernel_rfl) (.cons .v (.cons (.same rfl rfl) (.cons (.same rfl rfl) (.cons (.same rfl rfl) (.cons (.same rfl rfl) .nil))))))) (.cons (.same rfl) .nil)) (.inr ⟨(.agg (eXCategory_nb _)), trivial⟩) (.cons (Nat.le_of_ble_eq_true (n := 5) (m := 5) rfl) .nil)) (by kernel_rfl) (by kernel_rfl) ?_
      refine tr_ret (rg_r ?_)
      obtain rfl := Option.some.inj hM
      exact retg (names := []) (.cons (lenO_flat eI_ok v5.From) (.cons (lenO_flat eI_ok v5.To) (.cons (lenO_flat eI_ok v5.Identity) (.cons (lenO_flat (eS_ok eI_ok) v5.Composites) .nil)))) (by kernel_rfl)
    · have hM := ite_false' hM h4
      refine tr_condTe (e := !v3) (congrArg not h4) (by kernel_rfl) ?_
      refine tr_sr hT hm [] [8, 10, 2009] [(8, .d (.rp 1004 0)), (10, .d (iv 1)), (2009, .r (.arr 1 [iv 0, nilv, nilv, nilv, nilv] []))] (.cons (Nat.le_of_ble_eq_true (n := 5) (m := 5) rfl) .nil) (by kernel_rfl) (by kernel_rfl) ?_
      refine tr_ret (q_r (rg_r ?_))
      refine RetG.by (imp_cvB (r := 1004) (sz := 1) (cells := [iv 0, nilv, nilv, nilv, nilv]) (cells' := [iv 0, .fr 1 ([] : List Int).length (([] : List Int).flatMap eI.o), .fr 1 ([] : List Int).length (([] : List Int).flatMap eI.o), .fr 1 ([] : List Int).length (([] : List Int).flatMap eI.o), .fr 1 ([] : List (List Int)).length (([] : List (List Int)).flatMap (eS eI).o)]) (refs := []) (refs' := []) (.cons (.refl _) (.cons Sub.nil_fr (.cons Sub.nil_fr (.cons Sub.nil_fr (.cons Sub.nil_fr .nil))))) (by kernel_rfl) (by kernel_rfl) (by kernel_rfl)) ?_
      obtain rfl := Option.some.inj hM
      exact retg (names := []) .nil (by kernel_rfl)
  · have hM := ite_false' hM h2
    refine tr_sr hT hm [(0, .call [1002] [] [.pt (eXCategory.b a0) 0] [] (bv v1)), (2, .val (bv true))] [2, 4, 8, 24, 2005, 2009] [(2, .d (.sl a1.length 0 (a1.flatMap eI.b))), (4, .d (.rp 1002 0)), (8, .d (.rp 1004 0)), (24, .d (bv true)), bxB 2005 (eXCategory.b a0), (2009, .r (.arr 1 [iv 0, nilv, nilv, nilv, nilv] []))] (cc (B := [1002]) (ρ := []) (rB := [(1002, .arr 1 [iv a0.Objects, .sl a0.From.length 0 (a0.From.flatMap eI.b), .sl a0.To.length 0 (a0.To.flatMap eI.b), .sl a0.Identity.length 0 (a0.Identity.flatMap eI.b), .sl a0.Composites.length 0 (a0.Composites.flatMap (eS eI).b)] [])]) ok115 (impl_Category_isCategory_c a0 _ hv1) (.cons (.of1 (.rp (r := 1002) (sz := 1) (cells := [iv a0.Objects, .sl a0.From.length 0 (a0.From.flatMap eI.b), .sl a0.To.length 0 (a0.To.flatMap eI.b), .sl a0.Identity.length 0 (a0.Identity.flatMap eI.b), .sl a0.Composites.length 0 (a0.Composites.flatMap (eS eI).b)]) (refs := []) (memB (by kernel_rfl)) (by kernel_rfl) (.cons .v (.cons (.same rfl rfl) (.cons (.same rfl rfl) (.cons (.same rfl rfl) (.cons (.same rfl rfl) .nil))))))) .nil) (.inr ⟨.v, trivial⟩) (.cons (congrArg (fun b => bv b) (congrArg not h2)) .nil)) (by kernel_rfl) (by kernel_rfl) ?_
    refine tr_condT (by kernel_rfl) ?_
    refine tr_sr hT hm [] [8, 10, 2009] [(8, .d (.rp 1004 0)), (10, .d (iv 1)), (2009, .r (.arr 1 [iv 0, nilv, nilv, nilv, nilv] []))] (.cons (Nat.le_of_ble_eq_true (n := 5) (m := 5) rfl) .nil) (by kernel_rfl) (by kernel_rfl) ?_
    refine tr_ret (q_r (rg_r ?_))
    refine RetG.by (imp_cvB (r := 1004) (sz := 1) (cells := [iv 0, nilv, nilv, nilv, nilv]) (cells' := [iv 0, .fr 1 ([] : List Int).length (([] : List Int).flatMap eI.o), .fr 1 ([] : List Int).length (([] : List Int).flatMap eI.o), .fr 1 ([] : List Int).length (([] : List Int).flatMap eI.o), .fr 1 ([] : List (List Int)).length (([] : List (List Int)).flatMap (eS eI).o)]) (refs := []) (refs' := []) (.cons (.refl _) (.cons Sub.nil_fr (.cons Sub.nil_fr (.cons Sub.nil_fr (.cons Sub.nil_fr .nil))))) (by kernel_rfl) (by kernel_rfl) (by kernel_rfl)) ?_
    obtain rfl := Option.some.inj hM
    exact retg (names := []) .nil (by kernel_rfl)

theorem ok55 : CallOk Try.prog 55 := callOk_of Try.func55 (by kernel_rfl) (by kernel_rfl)
theorem impl_QuotientFunctor_c (a0 : XCategory) (a1 : List Int) (r : XFunctor × Int) (hM : M.impl_QuotientFunctor a0 a1 = some r) :
    FnC Try.prog 55 [] [.agg (eXCategory.b a0), .sl a1.length 0 (a1.flatMap eI.b)] [] (.tup [.agg (eXFunctor.o r.1), iv r.2]) := by
  refine fnc_startG (N := 23) (np := 500) hT Try.func55 rfl rfl (by kernel_rfl) ?_
  unfold M.impl_QuotientFunctor at hM
  refine tr_start (ks := [0, 2]) (st' := [(0, .d (.agg (eXCategory.b a0))), (2, .d (.sl a1.length 0 (a1.flatMap eI.b)))]) (by kernel_rfl) ?_
  refine tr_sr hT hm [] [2, 4, 8, 2005, 2009] [(2, .d (.sl a1.length 0 (a1.flatMap eI.b))), (4, .d (.rp 1002 0)), (8, .d (.rp 1004 0)), bxB 2005 (eXCategory.b a0), (2009, .r (.arr 1 [iv 0, nilv, nilv, nilv, nilv, iv 0, nilv, nilv, nilv, nilv, nilv, nilv] []))] .nil (by kernel_rfl) (by kernel_rfl) ?_
  obtain ⟨v1, hv1, hM⟩ := bind_some' hM
  refine tr_sr hT hm [(2, .call [] [] [.agg (eXCategory.b a0), .sl a1.length 0 (a1.flatMap eI.b)] [] (.tup [.agg (eXCategory.o v1.1), iv v1.2]))] [2, 4, 8, 12, 14, 2005, 2009, 2013, 26003, 26005, 26007, 26009] ([(2, .d (.sl a1.length 0 (a1.flatMap eI.b))), (4, .d (.rp 1002 0)), (8, .d (.rp 1004 0)), (12, .d (.rp 1006 0)), (14, .d (iv v1.2)), bxB 2005 (eXCategory.b a0), (2009, .r (.arr 1 [iv 0, nilv, nilv, nilv, nilv, iv 0, nilv, nilv, nilv, nilv, nilv, nilv] [])), bxO 2013 13000 (eXCategory.o v1.1)] ++ rsS 13000 (eXCategory.o v1.1)) (cc0 ok125 (impl_QuotientCategory_c a0 a1 _ hv1) (by kernel_rfl) (.cons (Nat.le_of_ble_eq_true (n := 5) (m := 5) rfl) .nil)) (by kernel_rfl) (by kernel_rfl) ?_
  refine tr_seq ?_
  refine tr_sr hT hm [] [2, 4, 8, 12, 14, 30, 2005, 2009, 2013, 26003, 26005, 26007, 26009] ([(2, .d (.sl a1.length 0 (a1.flatMap eI.b))), (4, .d (.rp 1002 0)), (8, .d (.rp 1004 0)), (12, .d (.rp 1006 0)), (14, .d (iv v1.2)), (30, .d (bv (v1.2 != 0))), bxB 2005 (eXCategory.b a0), (2009, .r (.arr 1 [iv 0, nilv, nilv, nilv, nilv, iv 0, nilv, nilv, nilv, nilv, nilv, nilv] [])), bxO 2013 13000 (eXCategory.o v1.1)] ++ rsS 13000 (eXCategory.o v1.1)) .nil (by kernel_rfl) (by kernel_rfl) ?_
  rcases Bool.eq_false_or_eq_true (v1.2 != 0) with h2 | h2
  · have hM := ite_true' hM h2
    refine tr_condTe (e := v1.2 != 0) h2 (by kernel_rfl) ?_
    refine tr_sr hT hm [] [8, 10, 2009] [(8, .d (.rp 1004 0)), (10, .d (iv v1.2)), (2009, .r (.arr 1 [iv 0, nilv, nilv, nilv, nilv, iv 0, nilv, nilv, nilv, nilv, nilv, nilv] []))] (.cons (Nat.le_of_ble_eq_true (n := 12) (m := 12) rfl) .nil) (by kernel_rfl) (by kernel_rfl) ?_
    refine tr_ret (q_r (rg_r ?_))
    refine RetG.by (imp_cvB (r := 1004) (sz := 1) (cells := [iv 0, nilv, nilv, nilv, nilv, iv 0, nilv, nilv, nilv, nilv, nilv, nilv]) (cells' := [iv 0, .fr 1 ([] : List Int).length (([] : List Int).flatMap eI.o), .fr 1 ([] : List Int).length (([] : List Int).flatMap eI.o), .fr 1 ([] : List Int).length (([] : List Int).flatMap eI.o), .fr 1 ([] : List (List Int)).length (([] : List (List Int)).flatMap (eS eI).o), iv 0, .fr 1 ([] : List Int).length (([] : List Int).flatMap eI.o), .fr 1 ([] : List Int).length (([] : List Int).flatMap eI.o), .fr 1 ([] : List Int).length (([] : List Int).flatMap eI.o), .fr 1 ([] : List (List Int)).length (([] : List (List Int)).flatMap (eS eI).o), .fr 1 ([] : List Int).length (([] : List Int).flatMap eI.o), .fr 1 ([] : List Int).length (([] : List Int).flatMap eI.o)]) (refs := []) (refs' := []) (.cons (.refl _) (.cons Sub.nil_fr (.cons Sub.nil_fr (.cons Sub.nil_fr (.cons Sub.nil_fr (.cons (.refl _) (.cons Sub.nil_fr (.cons Sub.nil_fr (.cons Sub.nil_fr (.cons Sub.nil_fr (.cons Sub.nil_fr (.cons Sub.nil_fr .nil)))))))))))) (by kernel_rfl) (by kernel_rfl) (by kernel_rfl)) ?_
    obtain rfl := Option.some.inj hM
    exact retg (names := []) .nil (by kernel_rfl)
  · have hM := ite_false' hM h2
    refine tr_condFe (e := v1.2 != 0) h2 (by kernel_rfl) ?_
    refine tr_skip (q_n ?_)
    obtain ⟨v3, hv3, hM⟩ := bind_some' hM
    obtain ⟨v4, hv4, hM⟩ := bind_some' hM
    refine tr_sr hT hm [(2, .call [] [] [iv a0.Objects] [] (.fr 1 v3.length (v3.flatMap eI.o))), (4, .call ([1002, 1006] ++ rsR 13000 (eXCategory.o v1.1) ++ [22000]) [] [.pt (eXCategory.b a0) 0, .pt (eXCategory.b v1.1) 0, .sl v3.length 0 (v3.flatMap eI.b), .sl a1.length 0 (a1.flatMap eI.b)] [] (.agg (eXFunctor.o v4)))] [8, 10, 2009, 48003, 48005, 48007, 48009, 48013, 48015, 48017, 48019, 48021, 48023] ([(8, .d (.rp 1004 0)), (10, .d (iv 0)), bxO 2009 24000 (eXFunctor.o v4)] ++ rsS 24000 (eXFunctor.o v4)) (cc0 ok126 (impl_numbers_c a0.Objects _ hv3) (by kernel_rfl) (cc (B := ([1002, 1006] ++ rsR 13000 (eXCategory.o v1.1) ++ [22000])) (ρ := []) (rB := ([(1002, .arr 1 [iv a0.Objects, .sl a0.From.length 0 (a0.From.flatMap eI.b), .sl a0.To.length 0 (a0.To.flatMap eI.b), .sl a0.Identity.length 0 (a0.Identity.flatMap eI.b), .sl a0.Composites.length 0 (a0.Composites.flatMap (eS eI).b)] []), (1006, .arr 1 [iv v1.1.Objects, .rs 13001 0 v1.1.From.length, .rs 13002 0 v1.1.To.length, .rs 13003 0 v1.1.Identity.length, .rs 13004 0 v1.1.Composites.length] [13001, 13002, 13003, 13004])] ++ rsP 13000 (eXCategory.o v1.1) ++ [(22000, .arr 1 (v3.flatMap eI.o) [])])) ok105 (impl_functor_c a0 v1.1 v3 a1 _ hv4) (.cons (.of1 (.rp (r := 1002) (sz := 1) (cells := [iv a0.Objects, .sl a0.From.length 0 (a0.From.flatMap eI.b), .sl a0.To.length 0 (a0.To.flatMap eI.b), .sl a0.Identity.length 0 (a0.Identity.flatMap eI.b), .sl a0.Composites.length 0 (a0.Composites.flatMap (eS eI).b)]) (refs := []) (memB (by kernel_rfl)) (by kernel_rfl) (.cons .v (.cons (.same rfl rfl) (.cons (.same rfl rfl) (.cons (.same rfl rfl) (.cons (.same rfl rfl) .nil))))))) (.cons (.of1 (.rp (r := 1006) (sz := 1) (cells := [iv v1.1.Objects, .rs 13001 0 v1.1.From.length, .rs 13002 0 v1.1.To.length, .rs 13003 0 v1.1.Identity.length, .rs 13004 0 v1.1.Composites.length]) (refs := [13001, 13002, 13003, 13004]) (memB (by kernel_rfl)) (by kernel_rfl) (.cons .v (.cons (.rs (r := 13001) (sz := 1) (refs := []) (memB (by kernel_rfl)) (by kernel_rfl) (bor_flat eI_ok _ _ _)) (.cons (.rs (r := 13002) (sz := 1) (refs := []) (memB (by kernel_rfl)) (by kernel_rfl) (bor_flat eI_ok _ _ _)) (.cons (.rs (r := 13003) (sz := 1) (refs := []) (memB (by kernel_rfl)) (by kernel_rfl) (bor_flat eI_ok _ _ _)) (.cons (.rs (r := 13004) (sz := 1) (refs := []) (memB (by kernel_rfl)) (by kernel_rfl) (bor_flat (eS_ok eI_ok) _ _ _)) .nil))))))) (.cons (.of1 (.rs (r := 22000) (sz := 1) (refs := []) (memB (by kernel_rfl)) (by kernel_rfl) (bor_flat eI_ok _ _ _))) (.cons (.same rfl) .nil)))) (.inr ⟨(.agg (eXFunctor_nb _)), trivial⟩) (.cons (Nat.le_of_ble_eq_true (n := 12) (m := 12) rfl) .nil))) (by kernel_rfl) (by kernel_rfl) ?_
    refine tr_ret (rg_r ?_)
    obtain rfl := Option.some.inj hM
    exact retg (names := []) (.cons (lenO_flat eI_ok v4.Source.From) (.cons (lenO_flat eI_ok v4.Source.To) (.cons (lenO_flat eI_ok v4.Source.Identity) (.cons (lenO_flat (eS_ok eI_ok) v4.Source.Composites) (.cons (lenO_flat eI_ok v4.Target.From) (.cons (lenO_flat eI_ok v4.Target.To) (.cons (lenO_flat eI_ok v4.Target.Identity) (.cons (lenO_flat (eS_ok eI_ok) v4.Target.Composites) (.cons (lenO_flat eI_ok v4.Objects) (.cons (lenO_flat eI_ok v4.Arrows) .nil)))))))))) (by kernel_rfl)

end Go.Proofs.Ytiikkfdehbcfaaa.Wz21
