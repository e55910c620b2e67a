/- Walks. Printed by wip/gen. -/
import Derived.Test.YtjmjhhhglbeacaaGxyMW0
namespace Go.Proofs.Ytjmjhhhglbeacaa.WyM
open Go.Gx Go.Proofs.Ytjmjhhhglbeacaa.WvB Go.Proofs.Ytjmjhhhglbeacaa.WyO Go.Proofs.Ytjmjhhhglbeacaa.WyN

theorem ok68 : CallOk Try.prog 68 := callOk_of Try.func68 (by kernel_rfl) (by kernel_rfl)
theorem spec_l35Behind_c (a0 : XMonoidal) (a1 : Int) (r : XFunctor) (hM : M.spec_l35Behind a0 a1 = some r) :
    FnC Try.prog 68 [] [.agg (eXMonoidal.b a0), iv a1] [] (.agg (eXFunctor.o r)) := by
  refine fnc_startG (N := 59) (np := 500) hT Try.func68 rfl rfl (by kernel_rfl) ?_
  unfold M.spec_l35Behind at hM
  refine tr_start (ks := [0, 2]) (st' := [(0, .d (.agg (eXMonoidal.b a0))), (2, .d (iv a1))]) (by kernel_rfl) ?_
  refine tr_sr hT hm [] [2, 4, 8, 2005, 2009] [(2, .d (iv a1)), (4, .d (.rp 1002 0)), (8, .d (.rp 1004 0)), bxB 2005 (eXMonoidal.b a0), (2009, .r (.arr 1 [iv 0, nilv, nilv, nilv, nilv, iv 0, nilv, nilv, nilv, nilv, nilv, nilv] []))] .nil (by kernel_rfl) (by kernel_rfl) ?_
  refine tr_sr hT hm [] [2, 4, 8, 10, 12, 2005, 2009, 2019, 2021] [(2, .d (iv a1)), (4, .d (.rp 1002 0)), (8, .d (.rp 1004 0)), (10, .d (.rs 1009 0 (([] : List Int).length))), (12, .d (.rs 1010 0 (([] : List Int).length))), bxB 2005 (eXMonoidal.b a0), (2009, .r (.arr 1 [iv 0, nilv, nilv, nilv, nilv, iv 0, nilv, nilv, nilv, nilv, nilv, nilv] [])), (2019, .r (.arr 1 (([] : List Int).flatMap eI.o) [])), (2021, .r (.arr 1 (([] : List Int).flatMap eI.o) []))] .nil (by kernel_rfl) (by kernel_rfl) ?_
  refine tr_seq ?_
  refine tr_sr hT hm [] [2, 4, 8, 10, 12, 14, 2005, 2009, 2019, 2021] [(2, .d (iv a1)), (4, .d (.rp 1002 0)), (8, .d (.rp 1004 0)), (10, .d (.rs 1009 0 (([] : List Int).length))), (12, .d (.rs 1010 0 (([] : List Int).length))), (14, .d (iv 0)), bxB 2005 (eXMonoidal.b a0), (2009, .r (.arr 1 [iv 0, nilv, nilv, nilv, nilv, iv 0, nilv, nilv, nilv, nilv, nilv, nilv] [])), (2019, .r (.arr 1 (([] : List Int).flatMap eI.o) [])), (2021, .r (.arr 1 (([] : List Int).flatMap eI.o) []))] .nil (by kernel_rfl) (by kernel_rfl) ?_
  refine tr_block ?_
  refine tr_iterS (fun (s1 : (List Int) × Int) => [(2, .d (iv a1)), (4, .d (.rp 1002 0)), (8, .d (.rp 1004 0)), (10, .d (.rs 1009 0 s1.1.length)), (12, .d (.rs 1010 0 (([] : List Int).length))), (14, .d (iv s1.2)), bxB 2005 (eXMonoidal.b a0), (2009, .r (.arr 1 [iv 0, nilv, nilv, nilv, nilv, iv 0, nilv, nilv, nilv, nilv, nilv, nilv] [])), (2019, .r (.arr 1 (s1.1.flatMap eI.o) [])), (2021, .r (.arr 1 (([] : List Int).flatMap eI.o) []))]) (([] : List Int), 0) [2, 4, 8, 10, 12, 14, 2005, 2009, 2019, 2021] (by kernel_rfl) hM ?_
  intro n4 next2 ih3 s1 hM
  refine tr_seq ?_
  refine tr_sr hT hm [] [2, 4, 8, 10, 12, 14, 30, 2005, 2009, 2019, 2021] [(2, .d (iv a1)), (4, .d (.rp 1002 0)), (8, .d (.rp 1004 0)), (10, .d (.rs 1009 0 s1.1.length)), (12, .d (.rs 1010 0 (([] : List Int).length))), (14, .d (iv s1.2)), (30, .d (bv (decide (s1.2 < (a0.Objects.length : Int))))), bxB 2005 (eXMonoidal.b a0), (2009, .r (.arr 1 [iv 0, nilv, nilv, nilv, nilv, iv 0, nilv, nilv, nilv, nilv, nilv, nilv] [])), (2019, .r (.arr 1 (s1.1.flatMap eI.o) [])), (2021, .r (.arr 1 (([] : List Int).flatMap eI.o) []))] .nil (by kernel_rfl) (by kernel_rfl) ?_
  rcases Bool.eq_false_or_eq_true (decide (s1.2 < (a0.Objects.length : Int))) with h5 | h5
  · have hM := ite_true' hM h5
    refine tr_condTe (e := decide (s1.2 < (a0.Objects.length : Int))) h5 (by kernel_rfl) ?_
    refine tr_skip (q_n ?_)
    refine tr_seq ?_
    refine tr_block ?_
    obtain ⟨y6, hy6, hM⟩ := bind_some' hM
    have hy6' := idx_some hy6
    obtain ⟨y7, hy7, hM⟩ := bind_some' hM
    have hy7' := idx_some hy7
    obtain ⟨h8, hM⟩ := chk_some hM
    refine tr_r hT hm [(5, .val (.sl y6.length 0 (y6.flatMap eI.b))), (8, .val (iv y7)), (10, .app true)] [2, 4, 8, 10, 12, 14, 2005, 2009, 2021, 2057] [(2, .d (iv a1)), (4, .d (.rp 1002 0)), (8, .d (.rp 1004 0)), (10, .d (.rs 1028 0 (s1.1.length + (([y7] : List Int).length)))), (12, .d (.rs 1010 0 (([] : List Int).length))), (14, .d (iv s1.2)), bxB 2005 (eXMonoidal.b a0), (2009, .r (.arr 1 [iv 0, nilv, nilv, nilv, nilv, iv 0, nilv, nilv, nilv, nilv, nilv, nilv] [])), (2021, .r (.arr 1 (([] : List Int).flatMap eI.o) [])), (2057, .r (.arr 1 (s1.1.flatMap eI.o ++ ([y7] : List Int).flatMap eI.o) []))] (.cons hy6'.1 (.cons hy6'.2.1 (.cons (at_b0 (eS_ok eI_ok) hy6'.2.2 (d := .sl y6.length 0 (y6.flatMap eI.b)) (by kernel_rfl)) (.cons hy7'.1 (.cons hy7'.2.1 (.cons (at_b0 eI_ok hy7'.2.2 (d := iv y7) (by kernel_rfl)) (.cons (lenO_flat eI_ok s1.1) (.cons (lenO_flat eI_ok ([y7] : List Int)) (.cons h8 .nil))))))))) (by kernel_rfl) (by kernel_rfl) (b_n (q_n ?_))
    refine Tr.by (imp_cvE (r := 1028) (sz := 1) (refs := []) (flat_app eI.o s1.1 ([y7] : List Int)) (menO_flat eI_ok _) (by kernel_rfl)) ?_
    refine Tr.by (imp_cvD (k := 10) (congrArg (D.rs 1028 0) ((len_app s1.1 ([y7] : List Int)) : s1.1.length + (([y7] : List Int).length) = (s1.1 ++ ([y7] : List Int)).length)) (by kernel_rfl)) ?_
    refine tr_r hT hm [] [2, 4, 8, 10, 12, 14, 2005, 2009, 2021, 2057] [(2, .d (iv a1)), (4, .d (.rp 1002 0)), (8, .d (.rp 1004 0)), (10, .d (.rs 1028 0 ((s1.1 ++ ([y7] : List Int)).length))), (12, .d (.rs 1010 0 (([] : List Int).length))), (14, .d (iv (IntKind.i64.wrap (s1.2 + 1)))), bxB 2005 (eXMonoidal.b a0), (2009, .r (.arr 1 [iv 0, nilv, nilv, nilv, nilv, iv 0, nilv, nilv, nilv, nilv, nilv, nilv] [])), (2021, .r (.arr 1 (([] : List Int).flatMap eI.o) [])), (2057, .r (.arr 1 ((s1.1 ++ ([y7] : List Int)).flatMap eI.o) []))] .nil (by kernel_rfl) (by kernel_rfl) (l_n ?_)
    refine TrL.by (imp_sel (ks := [2, 4, 8, 10, 12, 14, 2005, 2009, 2021, 2057]) (st' := [(2, .d (iv a1)), (4, .d (.rp 1002 0)), (8, .d (.rp 1004 0)), (10, .d (.rs 1028 0 ((s1.1 ++ ([y7] : List Int)).length))), (12, .d (.rs 1010 0 (([] : List Int).length))), (14, .d (iv (IntKind.i64.wrap (s1.2 + 1)))), bxB 2005 (eXMonoidal.b a0), (2009, .r (.arr 1 [iv 0, nilv, nilv, nilv, nilv, iv 0, nilv, nilv, nilv, nilv, nilv, nilv] [])), (2021, .r (.arr 1 (([] : List Int).flatMap eI.o) [])), (2057, .r (.arr 1 ((s1.1 ++ ([y7] : List Int)).flatMap eI.o) []))]) (by kernel_rfl)) ?_
    refine TrL.by (imp_rename (r := 1028) (q := 1009) (by kernel_rfl) (Nat.le_of_ble_eq_true rfl)) ?_
    exact trl_start (ks := [2, 4, 8, 10, 12, 14, 2005, 2009, 2019, 2021]) (by kernel_rfl) (ih3 (s1.1 ++ ([y7] : List Int), IntKind.i64.wrap (s1.2 + 1)) hM)
  · have hM := ite_false' hM h5
    refine tr_condFe (e := decide (s1.2 < (a0.Objects.length : Int))) h5 (by kernel_rfl) ?_
    refine tr_exit (q_x (l_x (b_h (q_n ?_))))
    refine tr_seq ?_
    refine tr_sr hT hm [] [2, 4, 8, 10, 12, 16, 2005, 2009, 2019, 2021] [(2, .d (iv a1)), (4, .d (.rp 1002 0)), (8, .d (.rp 1004 0)), (10, .d (.rs 1009 0 s1.1.length)), (12, .d (.rs 1010 0 (([] : List Int).length))), (16, .d (iv 0)), bxB 2005 (eXMonoidal.b a0), (2009, .r (.arr 1 [iv 0, nilv, nilv, nilv, nilv, iv 0, nilv, nilv, nilv, nilv, nilv, nilv] [])), (2019, .r (.arr 1 (s1.1.flatMap eI.o) [])), (2021, .r (.arr 1 (([] : List Int).flatMap eI.o) []))] .nil (by kernel_rfl) (by kernel_rfl) ?_
    refine tr_block ?_
    refine tr_iterS (fun (s9 : (List Int) × Int) => [(2, .d (iv a1)), (4, .d (.rp 1002 0)), (8, .d (.rp 1004 0)), (10, .d (.rs 1009 0 s1.1.length)), (12, .d (.rs 1010 0 s9.1.length)), (16, .d (iv s9.2)), bxB 2005 (eXMonoidal.b a0), (2009, .r (.arr 1 [iv 0, nilv, nilv, nilv, nilv, iv 0, nilv, nilv, nilv, nilv, nilv, nilv] [])), (2019, .r (.arr 1 (s1.1.flatMap eI.o) [])), (2021, .r (.arr 1 (s9.1.flatMap eI.o) []))]) (([] : List Int), 0) [2, 4, 8, 10, 12, 16, 2005, 2009, 2019, 2021] (by kernel_rfl) hM ?_
    intro n12 next10 ih11 s9 hM
    refine tr_seq ?_
    refine tr_sr hT hm [] [2, 4, 8, 10, 12, 16, 66, 2005, 2009, 2019, 2021] [(2, .d (iv a1)), (4, .d (.rp 1002 0)), (8, .d (.rp 1004 0)), (10, .d (.rs 1009 0 s1.1.length)), (12, .d (.rs 1010 0 s9.1.length)), (16, .d (iv s9.2)), (66, .d (bv (decide (s9.2 < (a0.Arrows.length : Int))))), bxB 2005 (eXMonoidal.b a0), (2009, .r (.arr 1 [iv 0, nilv, nilv, nilv, nilv, iv 0, nilv, nilv, nilv, nilv, nilv, nilv] [])), (2019, .r (.arr 1 (s1.1.flatMap eI.o) [])), (2021, .r (.arr 1 (s9.1.flatMap eI.o) []))] .nil (by kernel_rfl) (by kernel_rfl) ?_
    rcases Bool.eq_false_or_eq_true (decide (s9.2 < (a0.Arrows.length : Int))) with h13 | h13
    · have hM := ite_true' hM h13
      refine tr_condTe (e := decide (s9.2 < (a0.Arrows.length : Int))) h13 (by kernel_rfl) ?_
      refine tr_skip (q_n ?_)
      refine tr_seq ?_
      refine tr_block ?_
      obtain ⟨y14, hy14, hM⟩ := bind_some' hM
      have hy14' := idx_some hy14
      obtain ⟨y15, hy15, hM⟩ := bind_some' hM
      have hy15' := idx_some hy15
      obtain ⟨y16, hy16, hM⟩ := bind_some' hM
      have hy16' := idx_some hy16
      obtain ⟨h17, hM⟩ := chk_some hM
      refine tr_r hT hm [(5, .val (.sl y14.length 0 (y14.flatMap eI.b))), (11, .val (iv y15)), (13, .val (iv y16)), (15, .app true)] [2, 4, 8, 10, 12, 16, 2005, 2009, 2019, 2103] [(2, .d (iv a1)), (4, .d (.rp 1002 0)), (8, .d (.rp 1004 0)), (10, .d (.rs 1009 0 s1.1.length)), (12, .d (.rs 1051 0 (s9.1.length + (([y16] : List Int).length)))), (16, .d (iv s9.2)), bxB 2005 (eXMonoidal.b a0), (2009, .r (.arr 1 [iv 0, nilv, nilv, nilv, nilv, iv 0, nilv, nilv, nilv, nilv, nilv, nilv] [])), (2019, .r (.arr 1 (s1.1.flatMap eI.o) [])), (2103, .r (.arr 1 (s9.1.flatMap eI.o ++ ([y16] : List Int).flatMap eI.o) []))] (.cons hy14'.1 (.cons hy14'.2.1 (.cons (at_b0 (eS_ok eI_ok) hy14'.2.2 (d := .sl y14.length 0 (y14.flatMap eI.b)) (by kernel_rfl)) (.cons hy15'.1 (.cons hy15'.2.1 (.cons (at_b0 eI_ok hy15'.2.2 (d := iv y15) (by kernel_rfl)) (.cons hy16'.1 (.cons hy16'.2.1 (.cons (at_b0 eI_ok hy16'.2.2 (d := iv y16) (by kernel_rfl)) (.cons (lenO_flat eI_ok s9.1) (.cons (lenO_flat eI_ok ([y16] : List Int)) (.cons h17 .nil)))))))))))) (by kernel_rfl) (by kernel_rfl) (b_n (q_n ?_))
      refine Tr.by (imp_cvE (r := 1051) (sz := 1) (refs := []) (flat_app eI.o s9.1 ([y16] : List Int)) (menO_flat eI_ok _) (by kernel_rfl)) ?_
      refine Tr.by (imp_cvD (k := 12) (congrArg (D.rs 1051 0) ((len_app s9.1 ([y16] : List Int)) : s9.1.length + (([y16] : List Int).length) = (s9.1 ++ ([y16] : List Int)).length)) (by kernel_rfl)) ?_
      refine tr_r hT hm [] [2, 4, 8, 10, 12, 16, 2005, 2009, 2019, 2103] [(2, .d (iv a1)), (4, .d (.rp 1002 0)), (8, .d (.rp 1004 0)), (10, .d (.rs 1009 0 s1.1.length)), (12, .d (.rs 1051 0 ((s9.1 ++ ([y16] : List Int)).length))), (16, .d (iv (IntKind.i64.wrap (s9.2 + 1)))), bxB 2005 (eXMonoidal.b a0), (2009, .r (.arr 1 [iv 0, nilv, nilv, nilv, nilv, iv 0, nilv, nilv, nilv, nilv, nilv, nilv] [])), (2019, .r (.arr 1 (s1.1.flatMap eI.o) [])), (2103, .r (.arr 1 ((s9.1 ++ ([y16] : List Int)).flatMap eI.o) []))] .nil (by kernel_rfl) (by kernel_rfl) (l_n ?_)
      refine TrL.by (imp_sel (ks := [2, 4, 8, 10, 12, 16, 2005, 2009, 2019, 2103]) (st' := [(2, .d (iv a1)), (4, .d (.rp 1002 0)), (8, .d (.rp 1004 0)), (10, .d (.rs 1009 0 s1.1.length)), (12, .d (.rs 1051 0 ((s9.1 ++ ([y16] : List Int)).length))), (16, .d (iv (IntKind.i64.wrap (s9.2 + 1)))), bxB 2005 (eXMonoidal.b a0), (2009, .r (.arr 1 [iv 0, nilv, nilv, nilv, nilv, iv 0, nilv, nilv, nilv, nilv, nilv, nilv] [])), (2019, .r (.arr 1 (s1.1.flatMap eI.o) [])), (2103, .r (.arr 1 ((s9.1 ++ ([y16] : List Int)).flatMap eI.o) []))]) (by kernel_rfl)) ?_
      refine TrL.by (imp_rename (r := 1051) (q := 1010) (by kernel_rfl) (Nat.le_of_ble_eq_true rfl)) ?_
      exact trl_start (ks := [2, 4, 8, 10, 12, 16, 2005, 2009, 2019, 2021]) (by kernel_rfl) (ih11 (s9.1 ++ ([y16] : List Int), IntKind.i64.wrap (s9.2 + 1)) hM)
    · have hM := ite_false' hM h13
      refine tr_condFe (e := decide (s9.2 < (a0.Arrows.length : Int))) h13 (by kernel_rfl) ?_
      refine tr_exit (q_x (l_x (b_h (q_n ?_))))
      obtain ⟨v18, hv18, hM⟩ := bind_some' hM
      refine tr_sr hT hm [(6, .call [1009, 1010] [] [.agg (eXCategory.b a0.On), .agg (eXCategory.b a0.On), .sl s1.1.length 0 (s1.1.flatMap eI.b), .sl s9.1.length 0 (s9.1.flatMap eI.b)] [] (.agg (eXFunctor.o v18)))] [8, 2009, 120003, 120005, 120007, 120009, 120013, 120015, 120017, 120019, 120021, 120023] ([(8, .d (.rp 1004 0)), bxO 2009 60000 (eXFunctor.o v18)] ++ rsS 60000 (eXFunctor.o v18)) (cc (B := [1009, 1010]) (ρ := []) (rB := [(1009, .arr 1 (s1.1.flatMap eI.o) []), (1010, .arr 1 (s9.1.flatMap eI.o) [])]) ok98 (spec_l06Make_c a0.On a0.On s1.1 s9.1 _ hv18) (.cons (.same rfl) (.cons (.same rfl) (.cons (.of1 (.rs (r := 1009) (sz := 1) (refs := []) (memB (by kernel_rfl)) (by kernel_rfl) (bor_flat eI_ok _ _ _))) (.cons (.of1 (.rs (r := 1010) (sz := 1) (refs := []) (memB (by kernel_rfl)) (by kernel_rfl) (bor_flat eI_ok _ _ _))) .nil)))) (.inr ⟨(.agg (eXFunctor_nb _)), trivial⟩) (.cons (Nat.le_of_ble_eq_true (n := 12) (m := 12) rfl) .nil)) (by kernel_rfl) (by kernel_rfl) ?_
      refine tr_ret (rg_r ?_)
      obtain rfl := Option.some.inj hM
      exact retg (names := []) (.cons (lenO_flat eI_ok v18.Source.From) (.cons (lenO_flat eI_ok v18.Source.To) (.cons (lenO_flat eI_ok v18.Source.Identity) (.cons (lenO_flat (eS_ok eI_ok) v18.Source.Composites) (.cons (lenO_flat eI_ok v18.Target.From) (.cons (lenO_flat eI_ok v18.Target.To) (.cons (lenO_flat eI_ok v18.Target.Identity) (.cons (lenO_flat (eS_ok eI_ok) v18.Target.Composites) (.cons (lenO_flat eI_ok v18.Objects) (.cons (lenO_flat eI_ok v18.Arrows) .nil)))))))))) (by kernel_rfl)

theorem ok172 : CallOk Try.prog 172 := callOk_of Try.func172 (by kernel_rfl) (by kernel_rfl)
theorem impl_isTable_c (a0 : List (List Int)) (a1 : Int) (r : Bool) (hM : M.impl_isTable a0 a1 = some r) :
    FnC Try.prog 172 [] [.sl a0.length 0 (a0.flatMap (eS eI).b), iv a1] [] (bv r) := by
  refine fnc_startG (N := 28) (np := 500) hT Try.func172 rfl rfl (by kernel_rfl) ?_
  unfold M.impl_isTable at hM
  refine tr_start (ks := [0, 2]) (st' := [(0, .d (.sl a0.length 0 (a0.flatMap (eS eI).b))), (2, .d (iv a1))]) (by kernel_rfl) ?_
  refine tr_sr hT hm [] [0, 2] [(0, .d (.sl a0.length 0 (a0.flatMap (eS eI).b))), (2, .d (iv a1))] .nil (by kernel_rfl) (by kernel_rfl) ?_
  refine tr_seq ?_
  refine tr_sr hT hm [] [0, 2, 20] [(0, .d (.sl a0.length 0 (a0.flatMap (eS eI).b))), (2, .d (iv a1)), (20, .d (bv ((a0.length : Int) != a1)))] .nil (by kernel_rfl) (by kernel_rfl) ?_
  rcases Bool.eq_false_or_eq_true ((a0.length : Int) != a1) with h1 | h1
  · have hM := ite_true' hM h1
    refine tr_condTe (e := (a0.length : Int) != a1) h1 (by kernel_rfl) ?_
    refine tr_sr hT hm [] [8] [(8, .d (bv false))] .nil (by kernel_rfl) (by kernel_rfl) ?_
    refine tr_ret (q_r (rg_r ?_))
    obtain rfl := Option.some.inj hM
    exact retg (names := []) .nil (by kernel_rfl)
  · have hM := ite_false' hM h1
    refine tr_condFe (e := (a0.length : Int) != a1) h1 (by kernel_rfl) ?_
    refine tr_skip (q_n ?_)
    refine tr_seq ?_
    refine tr_sr hT hm [] [2, 22, 24, 26] [(2, .d (iv a1)), (22, .d (.sl a0.length 0 (a0.flatMap (eS eI).b))), (24, .d (iv (a0.length : Int))), (26, .d (iv 0))] .nil (by kernel_rfl) (by kernel_rfl) ?_
    refine tr_block ?_
    refine tr_iterS (fun (s2 : Int) => [(2, .d (iv a1)), (22, .d (.sl a0.length 0 (a0.flatMap (eS eI).b))), (24, .d (iv (a0.length : Int))), (26, .d (iv s2))]) 0 [2, 22, 24, 26] (by kernel_rfl) hM ?_
    intro n5 next3 ih4 s2 hM
    refine tr_sr hT hm [] [2, 22, 24, 26, 28] [(2, .d (iv a1)), (22, .d (.sl a0.length 0 (a0.flatMap (eS eI).b))), (24, .d (iv (a0.length : Int))), (26, .d (iv s2)), (28, .d (bv (decide (s2 < (a0.length : Int)))))] .nil (by kernel_rfl) (by kernel_rfl) ?_
    refine tr_seq ?_
    rcases Bool.eq_false_or_eq_true (decide (s2 < (a0.length : Int))) with h6 | h6
    · have hM := ite_true' hM h6
      refine tr_condTe (e := decide (s2 < (a0.length : Int))) h6 (by kernel_rfl) ?_
      refine tr_skip (q_n ?_)
      refine tr_seq ?_
      refine tr_block ?_
      obtain ⟨y7, hy7, hM⟩ := bind_some' hM
      have hy7' := idx_some hy7
      refine tr_sr hT hm [(1, .val (.sl y7.length 0 (y7.flatMap eI.b)))] [2, 12, 22, 24, 26] [(2, .d (iv a1)), (12, .d (.sl y7.length 0 (y7.flatMap eI.b))), (22, .d (.sl a0.length 0 (a0.flatMap (eS eI).b))), (24, .d (iv (a0.length : Int))), (26, .d (iv s2))] (.cons hy7'.1 (.cons hy7'.2.1 (.cons (at_b0 (eS_ok eI_ok) hy7'.2.2 (d := .sl y7.length 0 (y7.flatMap eI.b)) (by kernel_rfl)) .nil))) (by kernel_rfl) (by kernel_rfl) ?_
      rcases Bool.eq_false_or_eq_true ((y7.length : Int) != a1) with h8 | h8
      · have hM := ite_true' hM h8
        refine tr_sr hT hm [(4, .val (bv true))] [2, 22, 24, 26, 52] [(2, .d (iv a1)), (22, .d (.sl a0.length 0 (a0.flatMap (eS eI).b))), (24, .d (iv (a0.length : Int))), (26, .d (iv s2)), (52, .d (bv true))] (.cons (congrArg (fun b => bv b) h8) .nil) (by kernel_rfl) (by kernel_rfl) ?_
        refine tr_condT (by kernel_rfl) ?_
        refine tr_sr hT hm [] [8] [(8, .d (bv false))] .nil (by kernel_rfl) (by kernel_rfl) ?_
        refine tr_ret (b_r (q_r (l_r (b_r (q_r (rg_r ?_))))))
        obtain rfl := Option.some.inj hM
        exact retg (names := []) .nil (by kernel_rfl)
      · have hM := ite_false' hM h8
        obtain ⟨v9, hv9, hM⟩ := bind_some' hM
        refine tr_sr hT hm [(4, .val (bv false)), (7, .call [] [] [.sl y7.length 0 (y7.flatMap eI.b), iv a1] [] (bv v9))] [2, 22, 24, 26, 44, 46, 48, 50, 52] [(2, .d (iv a1)), (22, .d (.sl a0.length 0 (a0.flatMap (eS eI).b))), (24, .d (iv (a0.length : Int))), (26, .d (iv s2)), (44, .d (.sl y7.length 0 (y7.flatMap eI.b))), (46, .d (iv a1)), (48, .d (bv v9)), (50, .d (bv (!v9))), (52, .d (bv (!v9)))] (.cons (congrArg (fun b => bv b) h8) (cc0 ok181 (impl_within_c y7 a1 _ hv9) (by kernel_rfl) .nil)) (by kernel_rfl) (by kernel_rfl) ?_
        rcases Bool.eq_false_or_eq_true v9 with h10 | h10
        · have hM := ite_true' hM h10
          refine tr_condFe (e := !v9) (congrArg not h10) (by kernel_rfl) ?_
          refine tr_skip (b_n (q_n ?_))
          refine tr_r hT hm [] [2, 22, 24, 26, 44, 46, 48, 50] [(2, .d (iv a1)), (22, .d (.sl a0.length 0 (a0.flatMap (eS eI).b))), (24, .d (iv (a0.length : Int))), (26, .d (iv (IntKind.i64.wrap (s2 + 1)))), (44, .d (.sl y7.length 0 (y7.flatMap eI.b))), (46, .d (iv a1)), (48, .d (bv v9)), (50, .d (bv (!v9)))] .nil (by kernel_rfl) (by kernel_rfl) (l_n ?_)
          exact trl_start (ks := [2, 22, 24, 26]) (by kernel_rfl) (ih4 (IntKind.i64.wrap (s2 + 1)) hM)
        · have hM := ite_false' hM h10
          refine tr_condTe (e := !v9) (congrArg not h10) (by kernel_rfl) ?_
          refine tr_sr hT hm [] [8] [(8, .d (bv false))] .nil (by kernel_rfl) (by kernel_rfl) ?_
          refine tr_ret (b_r (q_r (l_r (b_r (q_r (rg_r ?_))))))
          obtain rfl := Option.some.inj hM
          exact retg (names := []) .nil (by kernel_rfl)
    · have hM := ite_false' hM h6
      refine tr_condFe (e := decide (s2 < (a0.length : Int))) h6 (by kernel_rfl) ?_
      refine tr_exit (q_x (l_x (b_h (q_n ?_))))
      refine tr_sr hT hm [] [8] [(8, .d (bv true))] .nil (by kernel_rfl) (by kernel_rfl) ?_
      refine tr_ret (rg_r ?_)
      obtain rfl := Option.some.inj hM
      exact retg (names := []) .nil (by kernel_rfl)

theorem ok175 : CallOk Try.prog 175 := callOk_of Try.func175 (by kernel_rfl) (by kernel_rfl)
theorem impl_Category_isIdentity_c (a0 : XCategory) (a1 : Int) (r : Bool) (hM : M.impl_Category_isIdentity a0 a1 = some r) :
    FnC Try.prog 175 [] [.pt (eXCategory.b a0) 0, iv a1] [] (bv r) := by
  refine fnc_startG (N := 20) (np := 500) hT Try.func175 rfl rfl (by kernel_rfl) ?_
  unfold M.impl_Category_isIdentity at hM
  refine tr_start (ks := [0, 2]) (st' := [(0, .d (.pt (eXCategory.b a0) 0)), (2, .d (iv a1))]) (by kernel_rfl) ?_
  refine tr_sr hT hm [] [0, 2] [(0, .d (.pt (eXCategory.b a0) 0)), (2, .d (iv a1))] .nil (by kernel_rfl) (by kernel_rfl) ?_
  obtain ⟨y1, hy1, hM⟩ := bind_some' hM
  have hy1' := idx_some hy1
  obtain ⟨y2, hy2, hM⟩ := bind_some' hM
  have hy2' := idx_some hy2
  refine tr_sr hT hm [(10, .val (iv y1)), (12, .val (iv y2))] [8] [(8, .d (bv (y2 == a1)))] (.cons hy1'.1 (.cons hy1'.2.1 (.cons (at_b0 eI_ok hy1'.2.2 (d := iv y1) (by kernel_rfl)) (.cons hy2'.1 (.cons hy2'.2.1 (.cons (at_b0 eI_ok hy2'.2.2 (d := iv y2) (by kernel_rfl)) .nil)))))) (by kernel_rfl) (by kernel_rfl) ?_
  refine tr_ret (rg_r ?_)
  obtain rfl := Option.some.inj hM
  exact retg (names := []) .nil (by kernel_rfl)

theorem ok176 : CallOk Try.prog 176 := callOk_of Try.func176 (by kernel_rfl) (by kernel_rfl)
theorem impl_isAssociative_c (a0 : List (List Int)) (a1 : Int) (r : Bool) (hM : M.impl_isAssociative a0 a1 = some r) :
    FnC Try.prog 176 [] [.sl a0.length 0 (a0.flatMap (eS eI).b), iv a1] [] (bv r) := by
  refine fnc_startG (N := 73) (np := 500) hT Try.func176 rfl rfl (by kernel_rfl) ?_
  unfold M.impl_isAssociative at hM
  refine tr_start (ks := [0, 2]) (st' := [(0, .d (.sl a0.length 0 (a0.flatMap (eS eI).b))), (2, .d (iv a1))]) (by kernel_rfl) ?_
  refine tr_sr hT hm [] [0, 2] [(0, .d (.sl a0.length 0 (a0.flatMap (eS eI).b))), (2, .d (iv a1))] .nil (by kernel_rfl) (by kernel_rfl) ?_
  refine tr_seq ?_
  refine tr_sr hT hm [] [0, 2, 18, 20] [(0, .d (.sl a0.length 0 (a0.flatMap (eS eI).b))), (2, .d (iv a1)), (18, .d (iv (a0.length : Int))), (20, .d (iv 0))] .nil (by kernel_rfl) (by kernel_rfl) ?_
  refine tr_block ?_
  refine tr_iterS (fun (s1 : Int) => [(0, .d (.sl a0.length 0 (a0.flatMap (eS eI).b))), (2, .d (iv a1)), (18, .d (iv (a0.length : Int))), (20, .d (iv s1))]) 0 [0, 2, 18, 20] (by kernel_rfl) hM ?_
  intro n4 next2 ih3 s1 hM
  refine tr_sr hT hm [] [0, 2, 18, 20, 22] [(0, .d (.sl a0.length 0 (a0.flatMap (eS eI).b))), (2, .d (iv a1)), (18, .d (iv (a0.length : Int))), (20, .d (iv s1)), (22, .d (bv (decide (s1 < (a0.length : Int)))))] .nil (by kernel_rfl) (by kernel_rfl) ?_
  refine tr_seq ?_
  rcases Bool.eq_false_or_eq_true (decide (s1 < (a0.length : Int))) with h5 | h5
  · have hM := ite_true' hM h5
    refine tr_condTe (e := decide (s1 < (a0.length : Int))) h5 (by kernel_rfl) ?_
    refine tr_skip (q_n ?_)
    refine tr_seq ?_
    refine tr_block ?_
    refine tr_sr hT hm [] [0, 2, 10, 18, 20] [(0, .d (.sl a0.length 0 (a0.flatMap (eS eI).b))), (2, .d (iv a1)), (10, .d (iv s1)), (18, .d (iv (a0.length : Int))), (20, .d (iv s1))] .nil (by kernel_rfl) (by kernel_rfl) ?_
    refine tr_seq ?_
    obtain ⟨y6, hy6, hM⟩ := bind_some' hM
    have hy6' := idx_some hy6
    obtain ⟨y7, hy7, hM⟩ := bind_some' hM
    have hy7' := idx_some hy7
    rcases Bool.eq_false_or_eq_true (y7 != s1) with h8 | h8
    · have hM := ite_true' hM h8
      refine tr_sr hT hm [(3, .val (.sl y6.length 0 (y6.flatMap eI.b))), (6, .val (iv y7)), (9, .val (bv true))] [0, 2, 10, 18, 20, 64] [(0, .d (.sl a0.length 0 (a0.flatMap (eS eI).b))), (2, .d (iv a1)), (10, .d (iv s1)), (18, .d (iv (a0.length : Int))), (20, .d (iv s1)), (64, .d (bv true))] (.cons hy6'.1 (.cons hy6'.2.1 (.cons (at_b0 (eS_ok eI_ok) hy6'.2.2 (d := .sl y6.length 0 (y6.flatMap eI.b)) (by kernel_rfl)) (.cons hy7'.1 (.cons hy7'.2.1 (.cons (at_b0 eI_ok hy7'.2.2 (d := iv y7) (by kernel_rfl)) (.cons (congrArg (fun b => bv b) h8) .nil))))))) (by kernel_rfl) (by kernel_rfl) ?_
      refine tr_condT (by kernel_rfl) ?_
      refine tr_sr hT hm [] [8] [(8, .d (bv false))] .nil (by kernel_rfl) (by kernel_rfl) ?_
      refine tr_ret (q_r (b_r (q_r (l_r (b_r (q_r (rg_r ?_)))))))
      obtain rfl := Option.some.inj hM
      exact retg (names := []) .nil (by kernel_rfl)
    · have hM := ite_false' hM h8
      obtain ⟨y9, hy9, hM⟩ := bind_some' hM
      have hy9' := idx_some hy9
      obtain ⟨y10, hy10, hM⟩ := bind_some' hM
      have hy10' := idx_some hy10
      refine tr_sr hT hm [(3, .val (.sl y6.length 0 (y6.flatMap eI.b))), (6, .val (iv y7)), (9, .val (bv false)), (13, .val (.sl y9.length 0 (y9.flatMap eI.b))), (16, .val (iv y10))] [0, 2, 10, 18, 20, 46, 48, 50, 52, 54, 56, 58, 60, 62, 64] [(0, .d (.sl a0.length 0 (a0.flatMap (eS eI).b))), (2, .d (iv a1)), (10, .d (iv s1)), (18, .d (iv (a0.length : Int))), (20, .d (iv s1)), (46, .d (.sl a0.length 0 (a0.flatMap (eS eI).b))), (48, .d (iv a1)), (50, .d (.pt (a0.flatMap (eS eI).b) (0 + a1.toNat * 1))), (52, .d (.sl y9.length 0 (y9.flatMap eI.b))), (54, .d (iv s1)), (56, .d (.pt (y9.flatMap eI.b) (0 + s1.toNat * 1))), (58, .d (iv y10)), (60, .d (iv s1)), (62, .d (bv (y10 != s1))), (64, .d (bv (y10 != s1)))] (.cons hy6'.1 (.cons hy6'.2.1 (.cons (at_b0 (eS_ok eI_ok) hy6'.2.2 (d := .sl y6.length 0 (y6.flatMap eI.b)) (by kernel_rfl)) (.cons hy7'.1 (.cons hy7'.2.1 (.cons (at_b0 eI_ok hy7'.2.2 (d := iv y7) (by kernel_rfl)) (.cons (congrArg (fun b => bv b) h8) (.cons hy9'.1 (.cons hy9'.2.1 (.cons (at_b0 (eS_ok eI_ok) hy9'.2.2 (d := .sl y9.length 0 (y9.flatMap eI.b)) (by kernel_rfl)) (.cons hy10'.1 (.cons hy10'.2.1 (.cons (at_b0 eI_ok hy10'.2.2 (d := iv y10) (by kernel_rfl)) .nil))))))))))))) (by kernel_rfl) (by kernel_rfl) ?_
      rcases Bool.eq_false_or_eq_true (y10 != s1) with h11 | h11
      · have hM := ite_true' hM h11
        refine tr_condTe (e := y10 != s1) h11 (by kernel_rfl) ?_
        refine tr_sr hT hm [] [8] [(8, .d (bv false))] .nil (by kernel_rfl) (by kernel_rfl) ?_
        refine tr_ret (q_r (b_r (q_r (l_r (b_r (q_r (rg_r ?_)))))))
        obtain rfl := Option.some.inj hM
        exact retg (names := []) .nil (by kernel_rfl)
      · have hM := ite_false' hM h11
        refine tr_condFe (e := y10 != s1) h11 (by kernel_rfl) ?_
        refine tr_skip (q_n ?_)
        refine tr_sr hT hm [] [0, 2, 10, 18, 20, 46, 48, 50, 52, 54, 56, 58, 60, 62, 68, 70] [(0, .d (.sl a0.length 0 (a0.flatMap (eS eI).b))), (2, .d (iv a1)), (10, .d (iv s1)), (18, .d (iv (a0.length : Int))), (20, .d (iv s1)), (46, .d (.sl a0.length 0 (a0.flatMap (eS eI).b))), (48, .d (iv a1)), (50, .d (.pt (a0.flatMap (eS eI).b) (0 + a1.toNat * 1))), (52, .d (.sl y9.length 0 (y9.flatMap eI.b))), (54, .d (iv s1)), (56, .d (.pt (y9.flatMap eI.b) (0 + s1.toNat * 1))), (58, .d (iv y10)), (60, .d (iv s1)), (62, .d (bv (y10 != s1))), (68, .d (iv (a0.length : Int))), (70, .d (iv 0))] .nil (by kernel_rfl) (by kernel_rfl) ?_
        refine tr_block ?_
        refine tr_iterS (fun (s12 : Int) => [(0, .d (.sl a0.length 0 (a0.flatMap (eS eI).b))), (2, .d (iv a1)), (10, .d (iv s1)), (18, .d (iv (a0.length : Int))), (20, .d (iv s1)), (46, .d (.sl a0.length 0 (a0.flatMap (eS eI).b))), (48, .d (iv a1)), (50, .d (.pt (a0.flatMap (eS eI).b) (0 + a1.toNat * 1))), (52, .d (.sl y9.length 0 (y9.flatMap eI.b))), (54, .d (iv s1)), (56, .d (.pt (y9.flatMap eI.b) (0 + s1.toNat * 1))), (58, .d (iv y10)), (60, .d (iv s1)), (62, .d (bv (y10 != s1))), (68, .d (iv (a0.length : Int))), (70, .d (iv s12))]) 0 [0, 2, 10, 18, 20, 46, 48, 50, 52, 54, 56, 58, 60, 62, 68, 70] (by kernel_rfl) hM ?_
        intro n15 next13 ih14 s12 hM
        refine tr_sr hT hm [] [0, 2, 10, 18, 20, 46, 48, 50, 52, 54, 56, 58, 60, 62, 68, 70, 72] [(0, .d (.sl a0.length 0 (a0.flatMap (eS eI).b))), (2, .d (iv a1)), (10, .d (iv s1)), (18, .d (iv (a0.length : Int))), (20, .d (iv s1)), (46, .d (.sl a0.length 0 (a0.flatMap (eS eI).b))), (48, .d (iv a1)), (50, .d (.pt (a0.flatMap (eS eI).b) (0 + a1.toNat * 1))), (52, .d (.sl y9.length 0 (y9.flatMap eI.b))), (54, .d (iv s1)), (56, .d (.pt (y9.flatMap eI.b) (0 + s1.toNat * 1))), (58, .d (iv y10)), (60, .d (iv s1)), (62, .d (bv (y10 != s1))), (68, .d (iv (a0.length : Int))), (70, .d (iv s12)), (72, .d (bv (decide (s12 < (a0.length : Int)))))] .nil (by kernel_rfl) (by kernel_rfl) ?_
        refine tr_seq ?_
        rcases Bool.eq_false_or_eq_true (decide (s12 < (a0.length : Int))) with h16 | h16
        · have hM := ite_true' hM h16
          refine tr_condTe (e := decide (s12 < (a0.length : Int))) h16 (by kernel_rfl) ?_
          refine tr_skip (q_n ?_)
          refine tr_seq ?_
          refine tr_block ?_
          refine tr_sr hT hm [] [0, 2, 10, 12, 18, 20, 46, 48, 50, 52, 54, 56, 58, 60, 62, 68, 70] [(0, .d (.sl a0.length 0 (a0.flatMap (eS eI).b))), (2, .d (iv a1)), (10, .d (iv s1)), (12, .d (iv s12)), (18, .d (iv (a0.length : Int))), (20, .d (iv s1)), (46, .d (.sl a0.length 0 (a0.flatMap (eS eI).b))), (48, .d (iv a1)), (50, .d (.pt (a0.flatMap (eS eI).b) (0 + a1.toNat * 1))), (52, .d (.sl y9.length 0 (y9.flatMap eI.b))), (54, .d (iv s1)), (56, .d (.pt (y9.flatMap eI.b) (0 + s1.toNat * 1))), (58, .d (iv y10)), (60, .d (iv s1)), (62, .d (bv (y10 != s1))), (68, .d (iv (a0.length : Int))), (70, .d (iv s12))] .nil (by kernel_rfl) (by kernel_rfl) ?_
          refine tr_sr hT hm [] [0, 2, 10, 12, 18, 20, 46, 48, 50, 52, 54, 56, 58, 60, 62, 68, 70, 78, 80] [(0, .d (.sl a0.length 0 (a0.flatMap (eS eI).b))), (2, .d (iv a1)), (10, .d (iv s1)), (12, .d (iv s12)), (18, .d (iv (a0.length : Int))), (20, .d (iv s1)), (46, .d (.sl a0.length 0 (a0.flatMap (eS eI).b))), (48, .d (iv a1)), (50, .d (.pt (a0.flatMap (eS eI).b) (0 + a1.toNat * 1))), (52, .d (.sl y9.length 0 (y9.flatMap eI.b))), (54, .d (iv s1)), (56, .d (.pt (y9.flatMap eI.b) (0 + s1.toNat * 1))), (58, .d (iv y10)), (60, .d (iv s1)), (62, .d (bv (y10 != s1))), (68, .d (iv (a0.length : Int))), (70, .d (iv s12)), (78, .d (iv (a0.length : Int))), (80, .d (iv 0))] .nil (by kernel_rfl) (by kernel_rfl) ?_
          refine tr_block ?_
          refine tr_iterS (fun (s17 : Int) => [(0, .d (.sl a0.length 0 (a0.flatMap (eS eI).b))), (2, .d (iv a1)), (10, .d (iv s1)), (12, .d (iv s12)), (18, .d (iv (a0.length : Int))), (20, .d (iv s1)), (46, .d (.sl a0.length 0 (a0.flatMap (eS eI).b))), (48, .d (iv a1)), (50, .d (.pt (a0.flatMap (eS eI).b) (0 + a1.toNat * 1))), (52, .d (.sl y9.length 0 (y9.flatMap eI.b))), (54, .d (iv s1)), (56, .d (.pt (y9.flatMap eI.b) (0 + s1.toNat * 1))), (58, .d (iv y10)), (60, .d (iv s1)), (62, .d (bv (y10 != s1))), (68, .d (iv (a0.length : Int))), (70, .d (iv s12)), (78, .d (iv (a0.length : Int))), (80, .d (iv s17))]) 0 [0, 2, 10, 12, 18, 20, 46, 48, 50, 52, 54, 56, 58, 60, 62, 68, 70, 78, 80] (by kernel_rfl) hM ?_
          intro n20 next18 ih19 s17 hM
          refine tr_sr hT hm [] [0, 2, 10, 12, 18, 20, 46, 48, 50, 52, 54, 56, 58, 60, 62, 68, 70, 78, 80, 82] [(0, .d (.sl a0.length 0 (a0.flatMap (eS eI).b))), (2, .d (iv a1)), (10, .d (iv s1)), (12, .d (iv s12)), (18, .d (iv (a0.length : Int))), (20, .d (iv s1)), (46, .d (.sl a0.length 0 (a0.flatMap (eS eI).b))), (48, .d (iv a1)), (50, .d (.pt (a0.flatMap (eS eI).b) (0 + a1.toNat * 1))), (52, .d (.sl y9.length 0 (y9.flatMap eI.b))), (54, .d (iv s1)), (56, .d (.pt (y9.flatMap eI.b) (0 + s1.toNat * 1))), (58, .d (iv y10)), (60, .d (iv s1)), (62, .d (bv (y10 != s1))), (68, .d (iv (a0.length : Int))), (70, .d (iv s12)), (78, .d (iv (a0.length : Int))), (80, .d (iv s17)), (82, .d (bv (decide (s17 < (a0.length : Int)))))] .nil (by kernel_rfl) (by kernel_rfl) ?_
          refine tr_seq ?_
          rcases Bool.eq_false_or_eq_true (decide (s17 < (a0.length : Int))) with h21 | h21
          · have hM := ite_true' hM h21
            refine tr_condTe (e := decide (s17 < (a0.length : Int))) h21 (by kernel_rfl) ?_
            refine tr_skip (q_n ?_)
            refine tr_seq ?_
            refine tr_block ?_
            refine tr_sr hT hm [] [0, 2, 10, 12, 14, 18, 20, 46, 48, 50, 52, 54, 56, 58, 60, 62, 68, 70, 78, 80] [(0, .d (.sl a0.length 0 (a0.flatMap (eS eI).b))), (2, .d (iv a1)), (10, .d (iv s1)), (12, .d (iv s12)), (14, .d (iv s17)), (18, .d (iv (a0.length : Int))), (20, .d (iv s1)), (46, .d (.sl a0.length 0 (a0.flatMap (eS eI).b))), (48, .d (iv a1)), (50, .d (.pt (a0.flatMap (eS eI).b) (0 + a1.toNat * 1))), (52, .d (.sl y9.length 0 (y9.flatMap eI.b))), (54, .d (iv s1)), (56, .d (.pt (y9.flatMap eI.b) (0 + s1.toNat * 1))), (58, .d (iv y10)), (60, .d (iv s1)), (62, .d (bv (y10 != s1))), (68, .d (iv (a0.length : Int))), (70, .d (iv s12)), (78, .d (iv (a0.length : Int))), (80, .d (iv s17))] .nil (by kernel_rfl) (by kernel_rfl) ?_
            obtain ⟨y22, hy22, hM⟩ := bind_some' hM
            have hy22' := idx_some hy22
            obtain ⟨y23, hy23, hM⟩ := bind_some' hM
            have hy23' := idx_some hy23
            obtain ⟨y24, hy24, hM⟩ := bind_some' hM
            have hy24' := idx_some hy24
            obtain ⟨y25, hy25, hM⟩ := bind_some' hM
            have hy25' := idx_some hy25
            obtain ⟨y26, hy26, hM⟩ := bind_some' hM
            have hy26' := idx_some hy26
            obtain ⟨y27, hy27, hM⟩ := bind_some' hM
            have hy27' := idx_some hy27
            refine tr_sr hT hm [(4, .val (.sl y6.length 0 (y6.flatMap eI.b))), (7, .val (iv y22)), (9, .val (.sl y23.length 0 (y23.flatMap eI.b))), (12, .val (iv y24)), (16, .val (.sl y6.length 0 (y6.flatMap eI.b))), (20, .val (.sl y25.length 0 (y25.flatMap eI.b))), (23, .val (iv y26)), (25, .val (iv y27))] [0, 2, 10, 12, 18, 20, 46, 48, 50, 52, 54, 56, 58, 60, 62, 68, 70, 78, 80, 138] [(0, .d (.sl a0.length 0 (a0.flatMap (eS eI).b))), (2, .d (iv a1)), (10, .d (iv s1)), (12, .d (iv s12)), (18, .d (iv (a0.length : Int))), (20, .d (iv s1)), (46, .d (.sl a0.length 0 (a0.flatMap (eS eI).b))), (48, .d (iv a1)), (50, .d (.pt (a0.flatMap (eS eI).b) (0 + a1.toNat * 1))), (52, .d (.sl y9.length 0 (y9.flatMap eI.b))), (54, .d (iv s1)), (56, .d (.pt (y9.flatMap eI.b) (0 + s1.toNat * 1))), (58, .d (iv y10)), (60, .d (iv s1)), (62, .d (bv (y10 != s1))), (68, .d (iv (a0.length : Int))), (70, .d (iv s12)), (78, .d (iv (a0.length : Int))), (80, .d (iv s17)), (138, .d (bv (y24 != y27)))] (.cons hy6'.1 (.cons hy6'.2.1 (.cons (at_b0 (eS_ok eI_ok) hy6'.2.2 (d := .sl y6.length 0 (y6.flatMap eI.b)) (by kernel_rfl)) (.cons hy22'.1 (.cons hy22'.2.1 (.cons (at_b0 eI_ok hy22'.2.2 (d := iv y22) (by kernel_rfl)) (.cons hy23'.1 (.cons hy23'.2.1 (.cons (at_b0 (eS_ok eI_ok) hy23'.2.2 (d := .sl y23.length 0 (y23.flatMap eI.b)) (by kernel_rfl)) (.cons hy24'.1 (.cons hy24'.2.1 (.cons (at_b0 eI_ok hy24'.2.2 (d := iv y24) (by kernel_rfl)) (.cons hy6'.1 (.cons hy6'.2.1 (.cons (at_b0 (eS_ok eI_ok) hy6'.2.2 (d := .sl y6.length 0 (y6.flatMap eI.b)) (by kernel_rfl)) (.cons hy25'.1 (.cons hy25'.2.1 (.cons (at_b0 (eS_ok eI_ok) hy25'.2.2 (d := .sl y25.length 0 (y25.flatMap eI.b)) (by kernel_rfl)) (.cons hy26'.1 (.cons hy26'.2.1 (.cons (at_b0 eI_ok hy26'.2.2 (d := iv y26) (by kernel_rfl)) (.cons hy27'.1 (.cons hy27'.2.1 (.cons (at_b0 eI_ok hy27'.2.2 (d := iv y27) (by kernel_rfl)) .nil)))))))))))))))))))))))) (by kernel_rfl) (by kernel_rfl) ?_
            rcases Bool.eq_false_or_eq_true (y24 != y27) with h28 | h28
            · have hM := ite_true' hM h28
              refine tr_condTe (e := y24 != y27) h28 (by kernel_rfl) ?_
              refine tr_sr hT hm [] [8] [(8, .d (bv false))] .nil (by kernel_rfl) (by kernel_rfl) ?_
              refine tr_ret (b_r (q_r (l_r (b_r (b_r (q_r (l_r (b_r (b_r (q_r (l_r (b_r (q_r (rg_r ?_))))))))))))))
              obtain rfl := Option.some.inj hM
              exact retg (names := []) .nil (by kernel_rfl)
            · have hM := ite_false' hM h28
              refine tr_condFe (e := y24 != y27) h28 (by kernel_rfl) ?_
              refine tr_skip (b_n (q_n ?_))
              refine tr_r hT hm [] [0, 2, 10, 12, 18, 20, 46, 48, 50, 52, 54, 56, 58, 60, 62, 68, 70, 78, 80] [(0, .d (.sl a0.length 0 (a0.flatMap (eS eI).b))), (2, .d (iv a1)), (10, .d (iv s1)), (12, .d (iv s12)), (18, .d (iv (a0.length : Int))), (20, .d (iv s1)), (46, .d (.sl a0.length 0 (a0.flatMap (eS eI).b))), (48, .d (iv a1)), (50, .d (.pt (a0.flatMap (eS eI).b) (0 + a1.toNat * 1))), (52, .d (.sl y9.length 0 (y9.flatMap eI.b))), (54, .d (iv s1)), (56, .d (.pt (y9.flatMap eI.b) (0 + s1.toNat * 1))), (58, .d (iv y10)), (60, .d (iv s1)), (62, .d (bv (y10 != s1))), (68, .d (iv (a0.length : Int))), (70, .d (iv s12)), (78, .d (iv (a0.length : Int))), (80, .d (iv (IntKind.i64.wrap (s17 + 1))))] .nil (by kernel_rfl) (by kernel_rfl) (l_n ?_)
              exact trl_start (ks := [0, 2, 10, 12, 18, 20, 46, 48, 50, 52, 54, 56, 58, 60, 62, 68, 70, 78, 80]) (by kernel_rfl) (ih19 (IntKind.i64.wrap (s17 + 1)) hM)
          · have hM := ite_false' hM h21
            refine tr_condFe (e := decide (s17 < (a0.length : Int))) h21 (by kernel_rfl) ?_
            refine tr_exit (q_x (l_x (b_h (b_n (q_n ?_)))))
            refine tr_r hT hm [] [0, 2, 10, 18, 20, 46, 48, 50, 52, 54, 56, 58, 60, 62, 68, 70] [(0, .d (.sl a0.length 0 (a0.flatMap (eS eI).b))), (2, .d (iv a1)), (10, .d (iv s1)), (18, .d (iv (a0.length : Int))), (20, .d (iv s1)), (46, .d (.sl a0.length 0 (a0.flatMap (eS eI).b))), (48, .d (iv a1)), (50, .d (.pt (a0.flatMap (eS eI).b) (0 + a1.toNat * 1))), (52, .d (.sl y9.length 0 (y9.flatMap eI.b))), (54, .d (iv s1)), (56, .d (.pt (y9.flatMap eI.b) (0 + s1.toNat * 1))), (58, .d (iv y10)), (60, .d (iv s1)), (62, .d (bv (y10 != s1))), (68, .d (iv (a0.length : Int))), (70, .d (iv (IntKind.i64.wrap (s12 + 1))))] .nil (by kernel_rfl) (by kernel_rfl) (l_n ?_)
            exact trl_start (ks := [0, 2, 10, 18, 20, 46, 48, 50, 52, 54, 56, 58, 60, 62, 68, 70]) (by kernel_rfl) (ih14 (IntKind.i64.wrap (s12 + 1)) hM)
        · have hM := ite_false' hM h16
          refine tr_condFe (e := decide (s12 < (a0.length : Int))) h16 (by kernel_rfl) ?_
          refine tr_exit (q_x (l_x (b_h (b_n (q_n ?_)))))
          refine tr_r hT hm [] [0, 2, 18, 20, 46, 48, 50, 52, 54, 56, 58, 60, 62] [(0, .d (.sl a0.length 0 (a0.flatMap (eS eI).b))), (2, .d (iv a1)), (18, .d (iv (a0.length : Int))), (20, .d (iv (IntKind.i64.wrap (s1 + 1)))), (46, .d (.sl a0.length 0 (a0.flatMap (eS eI).b))), (48, .d (iv a1)), (50, .d (.pt (a0.flatMap (eS eI).b) (0 + a1.toNat * 1))), (52, .d (.sl y9.length 0 (y9.flatMap eI.b))), (54, .d (iv s1)), (56, .d (.pt (y9.flatMap eI.b) (0 + s1.toNat * 1))), (58, .d (iv y10)), (60, .d (iv s1)), (62, .d (bv (y10 != s1)))] .nil (by kernel_rfl) (by kernel_rfl) (l_n ?_)
          exact trl_start (ks := [0, 2, 18, 20]) (by kernel_rfl) (ih3 (IntKind.i64.wrap (s1 + 1)) hM)
  · have hM := ite_false' hM h5
    refine tr_condFe (e := decide (s1 < (a0.length : Int))) h5 (by kernel_rfl) ?_
    refine tr_exit (q_x (l_x (b_h (q_n ?_))))
    refine tr_sr hT hm [] [8] [(8, .d (bv true))] .nil (by kernel_rfl) (by kernel_rfl) ?_
    refine tr_ret (rg_r ?_)
    obtain rfl := Option.some.inj hM
    exact retg (names := []) .nil (by kernel_rfl)

theorem ok177 : CallOk Try.prog 177 := callOk_of Try.func177 (by kernel_rfl) (by kernel_rfl)
theorem impl_Monoidal_interchanges_c (a0 : XMonoidal) (r : Bool) (hM : M.impl_Monoidal_interchanges a0 = some r) :
    FnC Try.prog 177 [] [.pt (eXMonoidal.b a0) 0] [] (bv r) := by
  refine fnc_startG (N := 100) (np := 500) hT Try.func177 rfl rfl (by kernel_rfl) ?_
  unfold M.impl_Monoidal_interchanges at hM
  refine tr_start (ks := [0]) (st' := [(0, .d (.pt (eXMonoidal.b a0) 0))]) (by kernel_rfl) ?_
  refine tr_sr hT hm [] [0] [(0, .d (.pt (eXMonoidal.b a0) 0))] .nil (by kernel_rfl) (by kernel_rfl) ?_
  refine tr_sr hT hm [] [0, 6] [(0, .d (.pt (eXMonoidal.b a0) 0)), (6, .d (.pt (eXMonoidal.b a0) 0))] .nil (by kernel_rfl) (by kernel_rfl) ?_
  refine tr_seq ?_
  refine tr_sr hT hm [] [0, 6, 34, 36] [(0, .d (.pt (eXMonoidal.b a0) 0)), (6, .d (.pt (eXMonoidal.b a0) 0)), (34, .d (iv (a0.On.From.length : Int))), (36, .d (iv 0))] .nil (by kernel_rfl) (by kernel_rfl) ?_
  refine tr_block ?_
  refine tr_iterS (fun (s1 : Int) => [(0, .d (.pt (eXMonoidal.b a0) 0)), (6, .d (.pt (eXMonoidal.b a0) 0)), (34, .d (iv (a0.On.From.length : Int))), (36, .d (iv s1))]) 0 [0, 6, 34, 36] (by kernel_rfl) hM ?_
  intro n4 next2 ih3 s1 hM
  refine tr_sr hT hm [] [0, 6, 34, 36, 38] [(0, .d (.pt (eXMonoidal.b a0) 0)), (6, .d (.pt (eXMonoidal.b a0) 0)), (34, .d (iv (a0.On.From.length : Int))), (36, .d (iv s1)), (38, .d (bv (decide (s1 < (a0.On.From.length : Int)))))] .nil (by kernel_rfl) (by kernel_rfl) ?_
  refine tr_seq ?_
  rcases Bool.eq_false_or_eq_true (decide (s1 < (a0.On.From.length : Int))) with h5 | h5
  · have hM := ite_true' hM h5
    refine tr_condTe (e := decide (s1 < (a0.On.From.length : Int))) h5 (by kernel_rfl) ?_
    refine tr_skip (q_n ?_)
    refine tr_seq ?_
    refine tr_block ?_
    refine tr_sr hT hm [] [0, 6, 8, 34, 36] [(0, .d (.pt (eXMonoidal.b a0) 0)), (6, .d (.pt (eXMonoidal.b a0) 0)), (8, .d (iv s1)), (34, .d (iv (a0.On.From.length : Int))), (36, .d (iv s1))] .nil (by kernel_rfl) (by kernel_rfl) ?_
    obtain ⟨y6, hy6, hM⟩ := bind_some' hM
    have hy6' := idx_some hy6
    obtain ⟨v7, hv7, hM⟩ := bind_some' hM
    refine tr_sr hT hm [(7, .val (iv y6)), (8, .call [] [] [.pt (eXCategory.b a0.On) 0, iv y6] [] (.fr 1 v7.length (v7.flatMap eI.o)))] [0, 6, 8, 34, 36, 58, 60, 62, 62001] [(0, .d (.pt (eXMonoidal.b a0) 0)), (6, .d (.pt (eXMonoidal.b a0) 0)), (8, .d (iv s1)), (34, .d (iv (a0.On.From.length : Int))), (36, .d (iv s1)), (58, .d (.rs 31000 0 v7.length)), (60, .d (iv (v7.length : Int))), (62, .d (iv 0)), (62001, .r (.arr 1 (v7.flatMap eI.o) []))] (.cons hy6'.1 (.cons hy6'.2.1 (.cons (at_b0 eI_ok hy6'.2.2 (d := iv y6) (by kernel_rfl)) (cc (B := []) (ρ := []) (rB := []) ok187 (impl_Category_outOf_c a0.On y6 _ hv7) (.cons (.pass (.ptk (ds := eXMonoidal.b a0) (ds' := eXCategory.b a0.On) (off := 0) (n := 5) (by kernel_rfl) (by kernel_rfl) (by kernel_rfl))) (.cons (.same rfl) .nil)) (.inl rfl) .nil)))) (by kernel_rfl) (by kernel_rfl) ?_
    refine tr_block ?_
    refine tr_iterS (fun (s8 : Int) => [(0, .d (.pt (eXMonoidal.b a0) 0)), (6, .d (.pt (eXMonoidal.b a0) 0)), (8, .d (iv s1)), (34, .d (iv (a0.On.From.length : Int))), (36, .d (iv s1)), (58, .d (.rs 31000 0 v7.length)), (60, .d (iv (v7.length : Int))), (62, .d (iv s8)), (62001, .r (.arr 1 (v7.flatMap eI.o) []))]) 0 [0, 6, 8, 34, 36, 58, 60, 62, 62001] (by kernel_rfl) hM ?_
    intro n11 next9 ih10 s8 hM
    refine tr_sr hT hm [] [0, 6, 8, 34, 36, 58, 60, 62, 64, 62001] [(0, .d (.pt (eXMonoidal.b a0) 0)), (6, .d (.pt (eXMonoidal.b a0) 0)), (8, .d (iv s1)), (34, .d (iv (a0.On.From.length : Int))), (36, .d (iv s1)), (58, .d (.rs 31000 0 v7.length)), (60, .d (iv (v7.length : Int))), (62, .d (iv s8)), (64, .d (bv (decide (s8 < (v7.length : Int))))), (62001, .r (.arr 1 (v7.flatMap eI.o) []))] .nil (by kernel_rfl) (by kernel_rfl) ?_
    refine tr_seq ?_
    rcases Bool.eq_false_or_eq_true (decide (s8 < (v7.length : Int))) with h12 | h12
    · have hM := ite_true' hM h12
      refine tr_condTe (e := decide (s8 < (v7.length : Int))) h12 (by kernel_rfl) ?_
      refine tr_skip (q_n ?_)
      refine tr_seq ?_
      refine tr_block ?_
      obtain ⟨y13, hy13, hM⟩ := bind_some' hM
      have hy13' := idx_some hy13
      refine tr_sr hT hm [(1, .val (iv y13))] [0, 6, 8, 12, 34, 36, 58, 60, 62, 62001] [(0, .d (.pt (eXMonoidal.b a0) 0)), (6, .d (.pt (eXMonoidal.b a0) 0)), (8, .d (iv s1)), (12, .d (iv y13)), (34, .d (iv (a0.On.From.length : Int))), (36, .d (iv s1)), (58, .d (.rs 31000 0 v7.length)), (60, .d (iv (v7.length : Int))), (62, .d (iv s8)), (62001, .r (.arr 1 (v7.flatMap eI.o) []))] (.cons hy13'.1 (.cons hy13'.2.1 (.cons (at_o0 eI_ok hy13'.2.2 (d := iv y13) (by kernel_rfl)) .nil))) (by kernel_rfl) (by kernel_rfl) ?_
      refine tr_sr hT hm [] [0, 6, 8, 12, 34, 36, 58, 60, 62, 78, 80, 62001] [(0, .d (.pt (eXMonoidal.b a0) 0)), (6, .d (.pt (eXMonoidal.b a0) 0)), (8, .d (iv s1)), (12, .d (iv y13)), (34, .d (iv (a0.On.From.length : Int))), (36, .d (iv s1)), (58, .d (.rs 31000 0 v7.length)), (60, .d (iv (v7.length : Int))), (62, .d (iv s8)), (78, .d (iv (a0.On.From.length : Int))), (80, .d (iv 0)), (62001, .r (.arr 1 (v7.flatMap eI.o) []))] .nil (by kernel_rfl) (by kernel_rfl) ?_
      refine tr_block ?_
      refine tr_iterS (fun (s14 : Int) => [(0, .d (.pt (eXMonoidal.b a0) 0)), (6, .d (.pt (eXMonoidal.b a0) 0)), (8, .d (iv s1)), (12, .d (iv y13)), (34, .d (iv (a0.On.From.length : Int))), (36, .d (iv s1)), (58, .d (.rs 31000 0 v7.length)), (60, .d (iv (v7.length : Int))), (62, .d (iv s8)), (78, .d (iv (a0.On.From.length : Int))), (80, .d (iv s14)), (62001, .r (.arr 1 (v7.flatMap eI.o) []))]) 0 [0, 6, 8, 12, 34, 36, 58, 60, 62, 78, 80, 62001] (by kernel_rfl) hM ?_
      intro n17 next15 ih16 s14 hM
      refine tr_sr hT hm [] [0, 6, 8, 12, 34, 36, 58, 60, 62, 78, 80, 82, 62001] [(0, .d (.pt (eXMonoidal.b a0) 0)), (6, .d (.pt (eXMonoidal.b a0) 0)), (8, .d (iv s1)), (12, .d (iv y13)), (34, .d (iv (a0.On.From.length : Int))), (36, .d (iv s1)), (58, .d (.rs 31000 0 v7.length)), (60, .d (iv (v7.length : Int))), (62, .d (iv s8)), (78, .d (iv (a0.On.From.length : Int))), (80, .d (iv s14)), (82, .d (bv (decide (s14 < (a0.On.From.length : Int))))), (62001, .r (.arr 1 (v7.flatMap eI.o) []))] .nil (by kernel_rfl) (by kernel_rfl) ?_
      refine tr_seq ?_
      rcases Bool.eq_false_or_eq_true (decide (s14 < (a0.On.From.length : Int))) with h18 | h18
      · have hM := ite_true' hM h18
        refine tr_condTe (e := decide (s14 < (a0.On.From.length : Int))) h18 (by kernel_rfl) ?_
        refine tr_skip (q_n ?_)
        refine tr_seq ?_
        refine tr_block ?_
        refine tr_sr hT hm [] [0, 6, 8, 12, 14, 34, 36, 58, 60, 62, 78, 80, 62001] [(0, .d (.pt (eXMonoidal.b a0) 0)), (6, .d (.pt (eXMonoidal.b a0) 0)), (8, .d (iv s1)), (12, .d (iv y13)), (14, .d (iv s14)), (34, .d (iv (a0.On.From.length : Int))), (36, .d (iv s1)), (58, .d (.rs 31000 0 v7.length)), (60, .d (iv (v7.length : Int))), (62, .d (iv s8)), (78, .d (iv (a0.On.From.length : Int))), (80, .d (iv s14)), (62001, .r (.arr 1 (v7.flatMap eI.o) []))] .nil (by kernel_rfl) (by kernel_rfl) ?_
        obtain ⟨y19, hy19, hM⟩ := bind_some' hM
        have hy19' := idx_some hy19
        obtain ⟨v20, hv20, hM⟩ := bind_some' hM
        refine tr_sr hT hm [(7, .val (iv y19)), (8, .call [] [] [.pt (eXCategory.b a0.On) 0, iv y19] [] (.fr 1 v20.length (v20.flatMap eI.o)))] [0, 6, 8, 12, 14, 34, 36, 58, 60, 62, 78, 80, 102, 104, 106, 62001, 106001] [(0, .d (.pt (eXMonoidal.b a0) 0)), (6, .d (.pt (eXMonoidal.b a0) 0)), (8, .d (iv s1)), (12, .d (iv y13)), (14, .d (iv s14)), (34, .d (iv (a0.On.From.length : Int))), (36, .d (iv s1)), (58, .d (.rs 31000 0 v7.length)), (60, .d (iv (v7.length : Int))), (62, .d (iv s8)), (78, .d (iv (a0.On.From.length : Int))), (80, .d (iv s14)), (102, .d (.rs 53000 0 v20.length)), (104, .d (iv (v20.length : Int))), (106, .d (iv 0)), (62001, .r (.arr 1 (v7.flatMap eI.o) [])), (106001, .r (.arr 1 (v20.flatMap eI.o) []))] (.cons hy19'.1 (.cons hy19'.2.1 (.cons (at_b0 eI_ok hy19'.2.2 (d := iv y19) (by kernel_rfl)) (cc (B := []) (ρ := []) (rB := []) ok187 (impl_Category_outOf_c a0.On y19 _ hv20) (.cons (.pass (.ptk (ds := eXMonoidal.b a0) (ds' := eXCategory.b a0.On) (off := 0) (n := 5) (by kernel_rfl) (by kernel_rfl) (by kernel_rfl))) (.cons (.same rfl) .nil)) (.inl rfl) .nil)))) (by kernel_rfl) (by kernel_rfl) ?_
        refine tr_block ?_
        refine tr_iterS (fun (s21 : Int) => [(0, .d (.pt (eXMonoidal.b a0) 0)), (6, .d (.pt (eXMonoidal.b a0) 0)), (8, .d (iv s1)), (12, .d (iv y13)), (14, .d (iv s14)), (34, .d (iv (a0.On.From.length : Int))), (36, .d (iv s1)), (58, .d (.rs 31000 0 v7.length)), (60, .d (iv (v7.length : Int))), (62, .d (iv s8)), (78, .d (iv (a0.On.From.length : Int))), (80, .d (iv s14)), (102, .d (.rs 53000 0 v20.length)), (104, .d (iv (v20.length : Int))), (106, .d (iv s21)), (62001, .r (.arr 1 (v7.flatMap eI.o) [])), (106001, .r (.arr 1 (v20.flatMap eI.o) []))]) 0 [0, 6, 8, 12, 14, 34, 36, 58, 60, 62, 78, 80, 102, 104, 106, 62001, 106001] (by kernel_rfl) hM ?_
        intro n24 next22 ih23 s21 hM
        refine tr_sr hT hm [] [0, 6, 8, 12, 14, 34, 36, 58, 60, 62, 78, 80, 102, 104, 106, 108, 62001, 106001] [(0, .d (.pt (eXMonoidal.b a0) 0)), (6, .d (.pt (eXMonoidal.b a0) 0)), (8, .d (iv s1)), (12, .d (iv y13)), (14, .d (iv s14)), (34, .d (iv (a0.On.From.length : Int))), (36, .d (iv s1)), (58, .d (.rs 31000 0 v7.length)), (60, .d (iv (v7.length : Int))), (62, .d (iv s8)), (78, .d (iv (a0.On.From.length : Int))), (80, .d (iv s14)), (102, .d (.rs 53000 0 v20.length)), (104, .d (iv (v20.length : Int))), (106, .d (iv s21)), (108, .d (bv (decide (s21 < (v20.length : Int))))), (62001, .r (.arr 1 (v7.flatMap eI.o) [])), (106001, .r (.arr 1 (v20.flatMap eI.o) []))] .nil (by kernel_rfl) (by kernel_rfl) ?_
        refine tr_seq ?_
        rcases Bool.eq_false_or_eq_true (decide (s21 < (v20.length : Int))) with h25 | h25
        · have hM := ite_true' hM h25
          refine tr_condTe (e := decide (s21 < (v20.length : Int))) h25 (by kernel_rfl) ?_
          refine tr_skip (q_n ?_)
          refine tr_seq ?_
          refine tr_block ?_
          obtain ⟨y26, hy26, hM⟩ := bind_some' hM
          have hy26' := idx_some hy26
          refine tr_sr hT hm [(1, .val (iv y26))] [0, 6, 8, 12, 14, 18, 34, 36, 58, 60, 62, 78, 80, 102, 104, 106, 62001, 106001] [(0, .d (.pt (eXMonoidal.b a0) 0)), (6, .d (.pt (eXMonoidal.b a0) 0)), (8, .d (iv s1)), (12, .d (iv y13)), (14, .d (iv s14)), (18, .d (iv y26)), (34, .d (iv (a0.On.From.length : Int))), (36, .d (iv s1)), (58, .d (.rs 31000 0 v7.length)), (60, .d (iv (v7.length : Int))), (62, .d (iv s8)), (78, .d (iv (a0.On.From.length : Int))), (80, .d (iv s14)), (102, .d (.rs 53000 0 v20.length)), (104, .d (iv (v20.length : Int))), (106, .d (iv s21)), (62001, .r (.arr 1 (v7.flatMap eI.o) [])), (106001, .r (.arr 1 (v20.flatMap eI.o) []))] (.cons hy26'.1 (.cons hy26'.2.1 (.cons (at_o0 eI_ok hy26'.2.2 (d := iv y26) (by kernel_rfl)) .nil))) (by kernel_rfl) (by kernel_rfl) ?_
          obtain ⟨v27, hv27, hM⟩ := bind_some' hM
          obtain ⟨y28, hy28, hM⟩ := bind_some' hM
          have hy28' := idx_some hy28
          obtain ⟨v29, hv29, hM⟩ := bind_some' hM
          obtain ⟨y30, hy30, hM⟩ := bind_some' hM
          have hy30' := idx_some hy30
          obtain ⟨y31, hy31, hM⟩ := bind_some' hM
          have hy31' := idx_some hy31
          obtain ⟨y32, hy32, hM⟩ := bind_some' hM
          have hy32' := idx_some hy32
          obtain ⟨y33, hy33, hM⟩ := bind_some' hM
          have hy33' := idx_some hy33
          obtain ⟨y34, hy34, hM⟩ := bind_some' hM
          have hy34' := idx_some hy34
          obtain ⟨v35, hv35, hM⟩ := bind_some' hM
          refine tr_sr hT hm [(7, .call [] [] [.pt (eXCategory.b a0.On) 0, iv s1, iv y13] [] (iv v27)), (9, .val (.sl y28.length 0 (y28.flatMap eI.b))), (13, .call [] [] [.pt (eXCategory.b a0.On) 0, iv s14, iv y26] [] (iv v29)), (15, .val (iv y30)), (23, .val (.sl y31.length 0 (y31.flatMap eI.b))), (26, .val (iv y32)), (33, .val (.sl y33.length 0 (y33.flatMap eI.b))), (36, .val (iv y34)), (37, .call [] [] [.pt (eXCategory.b a0.On) 0, iv y32, iv y34] [] (iv v35))] [0, 6, 8, 12, 14, 34, 36, 58, 60, 62, 78, 80, 102, 104, 106, 190, 62001, 106001] [(0, .d (.pt (eXMonoidal.b a0) 0)), (6, .d (.pt (eXMonoidal.b a0) 0)), (8, .d (iv s1)), (12, .d (iv y13)), (14, .d (iv s14)), (34, .d (iv (a0.On.From.length : Int))), (36, .d (iv s1)), (58, .d (.rs 31000 0 v7.length)), (60, .d (iv (v7.length : Int))), (62, .d (iv s8)), (78, .d (iv (a0.On.From.length : Int))), (80, .d (iv s14)), (102, .d (.rs 53000 0 v20.length)), (104, .d (iv (v20.length : Int))), (106, .d (iv s21)), (190, .d (bv (y30 != v35))), (62001, .r (.arr 1 (v7.flatMap eI.o) [])), (106001, .r (.arr 1 (v20.flatMap eI.o) []))] (cc (B := []) (ρ := []) (rB := []) ok132 (impl_Category_then_c a0.On s1 y13 _ hv27) (.cons (.pass (.ptk (ds := eXMonoidal.b a0) (ds' := eXCategory.b a0.On) (off := 0) (n := 5) (by kernel_rfl) (by kernel_rfl) (by kernel_rfl))) (.cons (.same rfl) (.cons (.same rfl) .nil))) (.inl rfl) (.cons hy28'.1 (.cons hy28'.2.1 (.cons (at_b0 (eS_ok eI_ok) hy28'.2.2 (d := .sl y28.length 0 (y28.flatMap eI.b)) (by kernel_rfl)) (cc (B := []) (ρ := []) (rB := []) ok132 (impl_Category_then_c a0.On s14 y26 _ hv29) (.cons (.pass (.ptk (ds := eXMonoidal.b a0) (ds' := eXCategory.b a0.On) (off := 0) (n := 5) (by kernel_rfl) (by kernel_rfl) (by kernel_rfl))) (.cons (.same rfl) (.cons (.same rfl) .nil))) (.inl rfl) (.cons hy30'.1 (.cons hy30'.2.1 (.cons (at_b0 eI_ok hy30'.2.2 (d := iv y30) (by kernel_rfl)) (.cons hy31'.1 (.cons hy31'.2.1 (.cons (at_b0 (eS_ok eI_ok) hy31'.2.2 (d := .sl y31.length 0 (y31.flatMap eI.b)) (by kernel_rfl)) (.cons hy32'.1 (.cons hy32'.2.1 (.cons (at_b0 eI_ok hy32'.2.2 (d := iv y32) (by kernel_rfl)) (.cons hy33'.1 (.cons hy33'.2.1 (.cons (at_b0 (eS_ok eI_ok) hy33'.2.2 (d := .sl y33.length 0 (y33.flatMap eI.b)) (by kernel_rfl)) (.cons hy34'.1 (.cons hy34'.2.1 (.cons (at_b0 eI_ok hy34'.2.2 (d := iv y34) (by kernel_rfl)) (cc (B := []) (ρ := []) (rB := []) ok132 (impl_Category_then_c a0.On y32 y34 _ hv35) (.cons (.pass (.ptk (ds := eXMonoidal.b a0) (ds' := eXCategory.b a0.On) (off := 0) (n := 5) (by kernel_rfl) (by kernel_rfl) (by kernel_rfl))) (.cons (.same rfl) (.cons (.same rfl) .nil))) (.inl rfl) .nil))))))))))))))))))))) (by kernel_rfl) (by kernel_rfl) ?_
          rcases Bool.eq_false_or_eq_true (y30 != v35) with h36 | h36
          · have hM := ite_true' hM h36
            refine tr_condTe (e := y30 != v35) h36 (by kernel_rfl) ?_
            refine tr_sr hT hm [] [4] [(4, .d (bv false))] .nil (by kernel_rfl) (by kernel_rfl) ?_
            refine tr_ret (b_r (q_r (l_r (b_r (b_r (q_r (l_r (b_r (b_r (q_r (l_r (b_r (b_r (q_r (l_r (b_r (q_r (rg_r ?_))))))))))))))))))
            obtain rfl := Option.some.inj hM
            exact retg (names := []) .nil (by kernel_rfl)
          · have hM := ite_false' hM h36
            refine tr_condFe (e := y30 != v35) h36 (by kernel_rfl) ?_
            refine tr_skip (b_n (q_n ?_))
            refine tr_r hT hm [] [0, 6, 8, 12, 14, 34, 36, 58, 60, 62, 78, 80, 102, 104, 106, 62001, 106001] [(0, .d (.pt (eXMonoidal.b a0) 0)), (6, .d (.pt (eXMonoidal.b a0) 0)), (8, .d (iv s1)), (12, .d (iv y13)), (14, .d (iv s14)), (34, .d (iv (a0.On.From.length : Int))), (36, .d (iv s1)), (58, .d (.rs 31000 0 v7.length)), (60, .d (iv (v7.length : Int))), (62, .d (iv s8)), (78, .d (iv (a0.On.From.length : Int))), (80, .d (iv s14)), (102, .d (.rs 53000 0 v20.length)), (104, .d (iv (v20.length : Int))), (106, .d (iv (IntKind.i64.wrap (s21 + 1)))), (62001, .r (.arr 1 (v7.flatMap eI.o) [])), (106001, .r (.arr 1 (v20.flatMap eI.o) []))] .nil (by kernel_rfl) (by kernel_rfl) (l_n ?_)
            exact trl_start (ks := [0, 6, 8, 12, 14, 34, 36, 58, 60, 62, 78, 80, 102, 104, 106, 62001, 106001]) (by kernel_rfl) (ih23 (IntKind.i64.wrap (s21 + 1)) hM)
        · have hM := ite_false' hM h25
          refine tr_condFe (e := decide (s21 < (v20.length : Int))) h25 (by kernel_rfl) ?_
          refine tr_exit (q_x (l_x (b_h (b_n (q_n ?_)))))
          refine tr_r hT hm [] [0, 6, 8, 12, 34, 36, 58, 60, 62, 78, 80, 62001] [(0, .d (.pt (eXMonoidal.b a0) 0)), (6, .d (.pt (eXMonoidal.b a0) 0)), (8, .d (iv s1)), (12, .d (iv y13)), (34, .d (iv (a0.On.From.length : Int))), (36, .d (iv s1)), (58, .d (.rs 31000 0 v7.length)), (60, .d (iv (v7.length : Int))), (62, .d (iv s8)), (78, .d (iv (a0.On.From.length : Int))), (80, .d (iv (IntKind.i64.wrap (s14 + 1)))), (62001, .r (.arr 1 (v7.flatMap eI.o) []))] .nil (by kernel_rfl) (by kernel_rfl) (l_n ?_)
          exact trl_start (ks := [0, 6, 8, 12, 34, 36, 58, 60, 62, 78, 80, 62001]) (by kernel_rfl) (ih16 (IntKind.i64.wrap (s14 + 1)) hM)
      · have hM := ite_false' hM h18
        refine tr_condFe (e := decide (s14 < (a0.On.From.length : Int))) h18 (by kernel_rfl) ?_
        refine tr_exit (q_x (l_x (b_h (b_n (q_n ?_)))))
        refine tr_r hT hm [] [0, 6, 8, 34, 36, 58, 60, 62, 62001] [(0, .d (.pt (eXMonoidal.b a0) 0)), (6, .d (.pt (eXMonoidal.b a0) 0)), (8, .d (iv s1)), (34, .d (iv (a0.On.From.length : Int))), (36, .d (iv s1)), (58, .d (.rs 31000 0 v7.length)), (60, .d (iv (v7.length : Int))), (62, .d (iv (IntKind.i64.wrap (s8 + 1)))), (62001, .r (.arr 1 (v7.flatMap eI.o) []))] .nil (by kernel_rfl) (by kernel_rfl) (l_n ?_)
        exact trl_start (ks := [0, 6, 8, 34, 36, 58, 60, 62, 62001]) (by kernel_rfl) (ih10 (IntKind.i64.wrap (s8 + 1)) hM)
    · have hM := ite_false' hM h12
      refine tr_condFe (e := decide (s8 < (v7.length : Int))) h12 (by kernel_rfl) ?_
      refine tr_exit (q_x (l_x (b_h (b_n (q_n ?_)))))
      refine tr_r hT hm [] [0, 6, 34, 36] [(0, .d (.pt (eXMonoidal.b a0) 0)), (6, .d (.pt (eXMonoidal.b a0) 0)), (34, .d (iv (a0.On.From.length : Int))), (36, .d (iv (IntKind.i64.wrap (s1 + 1))))] .nil (by kernel_rfl) (by kernel_rfl) (l_n ?_)
      exact trl_start (ks := [0, 6, 34, 36]) (by kernel_rfl) (ih3 (IntKind.i64.wrap (s1 + 1)) hM)
  · have hM := ite_false' hM h5
    refine tr_condFe (e := decide (s1 < (a0.On.From.length : Int))) h5 (by kernel_rfl) ?_
    refine tr_exit (q_x (l_x (b_h (q_n ?_))))
    refine tr_sr hT hm [] [4] [(4, .d (bv true))] .nil (by kernel_rfl) (by kernel_rfl) ?_
    refine tr_ret (rg_r ?_)
    obtain rfl := Option.some.inj hM
    exact retg (names := []) .nil (by kernel_rfl)

theorem ok71 : CallOk Try.prog 71 := callOk_of Try.func71 (by kernel_rfl) (by kernel_rfl)
theorem impl_Monoidal_isMonoidal_c (a0 : XMonoidal) (r : Bool) (hM : M.impl_Monoidal_isMonoidal a0 = some r) :
    FnC Try.prog 71 [] [.pt (eXMonoidal.b a0) 0] [] (bv r) := by
  refine fnc_startG (N := 161) (np := 500) hT Try.func71 rfl rfl (by kernel_rfl) ?_
  unfold M.impl_Monoidal_isMonoidal at hM
  refine tr_start (ks := [0]) (st' := [(0, .d (.pt (eXMonoidal.b a0) 0))]) (by kernel_rfl) ?_
  refine tr_sr hT hm [] [0] [(0, .d (.pt (eXMonoidal.b a0) 0))] .nil (by kernel_rfl) (by kernel_rfl) ?_
  refine tr_sr hT hm [] [0, 6] [(0, .d (.pt (eXMonoidal.b a0) 0)), (6, .d (.pt (eXMonoidal.b a0) 0))] .nil (by kernel_rfl) (by kernel_rfl) ?_
  refine tr_seq ?_
  obtain ⟨v1, hv1, hM⟩ := bind_some' hM
  rcases Bool.eq_false_or_eq_true v1 with h2 | h2
  · have hM := ite_true' hM h2
    obtain ⟨v3, hv3, hM⟩ := bind_some' hM
    rcases Bool.eq_false_or_eq_true v3 with h4 | h4
    · have hM := ite_true' hM h4
      obtain ⟨v5, hv5, hM⟩ := bind_some' hM
      rcases Bool.eq_false_or_eq_true v5 with h6 | h6
      · have hM := ite_true' hM h6
        obtain ⟨v7, hv7, hM⟩ := bind_some' hM
        obtain ⟨v8, hv8, hM⟩ := bind_some' hM
        refine tr_sr hT hm [(1, .call [] [] [.pt (eXCategory.b a0.On) 0] [] (bv v1)), (3, .val (bv false)), (13, .call [] [] [iv a0.Unit, iv 0, iv (IntKind.i64.wrap (a0.On.Objects - 1))] [] (bv v3)), (16, .val (bv false)), (25, .call [] [] [.sl a0.Objects.length 0 (a0.Objects.flatMap (eS eI).b), iv a0.On.Objects] [] (bv v5)), (28, .val (bv false)), (34, .call [] [] [.pt (eXCategory.b a0.On) 0] [] (iv v7)), (35, .call [] [] [.sl a0.Arrows.length 0 (a0.Arrows.flatMap (eS eI).b), iv v7] [] (bv v8))] [0, 6, 96] [(0, .d (.pt (eXMonoidal.b a0) 0)), (6, .d (.pt (eXMonoidal.b a0) 0)), (96, .d (bv (!v8)))] (cc (B := []) (ρ := []) (rB := []) ok122 (impl_Category_isCategory_c a0.On _ hv1) (.cons (.pass (.ptk (ds := eXMonoidal.b a0) (ds' := eXCategory.b a0.On) (off := 0) (n := 5) (by kernel_rfl) (by kernel_rfl) (by kernel_rfl))) .nil) (.inl rfl) (.cons (congrArg (fun b => bv b) (congrArg not h2)) (cc0 ok123 (impl_inRange_c a0.Unit 0 (IntKind.i64.wrap (a0.On.Objects - 1)) _ hv3) (by kernel_rfl) (.cons (congrArg (fun b => bv b) (congrArg not h4)) (cc0 ok172 (impl_isTable_c a0.Objects a0.On.Objects _ hv5) (by kernel_rfl) (.cons (congrArg (fun b => bv b) (congrArg not h6)) (cc (B := []) (ρ := []) (rB := []) ok173 (impl_Category_arrows_c a0.On _ hv7) (.cons (.pass (.ptk (ds := eXMonoidal.b a0) (ds' := eXCategory.b a0.On) (off := 0) (n := 5) (by kernel_rfl) (by kernel_rfl) (by kernel_rfl))) .nil) (.inl rfl) (cc0 ok172 (impl_isTable_c a0.Arrows v7 _ hv8) (by kernel_rfl) .nil)))))))) (by kernel_rfl) (by kernel_rfl) ?_
        rcases Bool.eq_false_or_eq_true v8 with h9 | h9
        · have hM := ite_true' hM h9
          refine tr_condFe (e := !v8) (congrArg not h9) (by kernel_rfl) ?_
          refine tr_skip (q_n ?_)
          refine tr_seq ?_
          refine tr_sr hT hm [] [0, 6, 104, 106, 108] [(0, .d (.pt (eXMonoidal.b a0) 0)), (6, .d (.pt (eXMonoidal.b a0) 0)), (104, .d (.sl a0.Arrows.length 0 (a0.Arrows.flatMap (eS eI).b))), (106, .d (iv (a0.Arrows.length : Int))), (108, .d (iv 0))] .nil (by kernel_rfl) (by kernel_rfl) ?_
          refine tr_block ?_
          refine tr_iterS (fun (s10 : Int) => [(0, .d (.pt (eXMonoidal.b a0) 0)), (6, .d (.pt (eXMonoidal.b a0) 0)), (104, .d (.sl a0.Arrows.length 0 (a0.Arrows.flatMap (eS eI).b))), (106, .d (iv (a0.Arrows.length : Int))), (108, .d (iv s10))]) 0 [0, 6, 104, 106, 108] (by kernel_rfl) hM ?_
          intro n13 next11 ih12 s10 hM
          refine tr_sr hT hm [] [0, 6, 104, 106, 108, 110] [(0, .d (.pt (eXMonoidal.b a0) 0)), (6, .d (.pt (eXMonoidal.b a0) 0)), (104, .d (.sl a0.Arrows.length 0 (a0.Arrows.flatMap (eS eI).b))), (106, .d (iv (a0.Arrows.length : Int))), (108, .d (iv s10)), (110, .d (bv (decide (s10 < (a0.Arrows.length : Int)))))] .nil (by kernel_rfl) (by kernel_rfl) ?_
          refine tr_seq ?_
          rcases Bool.eq_false_or_eq_true (decide (s10 < (a0.Arrows.length : Int))) with h14 | h14
          · have hM := ite_true' hM h14
            refine tr_condTe (e := decide (s10 < (a0.Arrows.length : Int))) h14 (by kernel_rfl) ?_
            refine tr_skip (q_n ?_)
            refine tr_seq ?_
            refine tr_block ?_
            obtain ⟨y15, hy15, hM⟩ := bind_some' hM
            have hy15' := idx_some hy15
            refine tr_sr hT hm [(2, .val (.sl y15.length 0 (y15.flatMap eI.b)))] [0, 6, 8, 10, 104, 106, 108] [(0, .d (.pt (eXMonoidal.b a0) 0)), (6, .d (.pt (eXMonoidal.b a0) 0)), (8, .d (iv s10)), (10, .d (.sl y15.length 0 (y15.flatMap eI.b))), (104, .d (.sl a0.Arrows.length 0 (a0.Arrows.flatMap (eS eI).b))), (106, .d (iv (a0.Arrows.length : Int))), (108, .d (iv s10))] (.cons hy15'.1 (.cons hy15'.2.1 (.cons (at_b0 (eS_ok eI_ok) hy15'.2.2 (d := .sl y15.length 0 (y15.flatMap eI.b)) (by kernel_rfl)) .nil))) (by kernel_rfl) (by kernel_rfl) ?_
            refine tr_sr hT hm [] [0, 6, 8, 104, 106, 108, 118, 120, 122] [(0, .d (.pt (eXMonoidal.b a0) 0)), (6, .d (.pt (eXMonoidal.b a0) 0)), (8, .d (iv s10)), (104, .d (.sl a0.Arrows.length 0 (a0.Arrows.flatMap (eS eI).b))), (106, .d (iv (a0.Arrows.length : Int))), (108, .d (iv s10)), (118, .d (.sl y15.length 0 (y15.flatMap eI.b))), (120, .d (iv (y15.length : Int))), (122, .d (iv 0))] .nil (by kernel_rfl) (by kernel_rfl) ?_
            refine tr_block ?_
            refine tr_iterS (fun (s16 : Int) => [(0, .d (.pt (eXMonoidal.b a0) 0)), (6, .d (.pt (eXMonoidal.b a0) 0)), (8, .d (iv s10)), (104, .d (.sl a0.Arrows.length 0 (a0.Arrows.flatMap (eS eI).b))), (106, .d (iv (a0.Arrows.length : Int))), (108, .d (iv s10)), (118, .d (.sl y15.length 0 (y15.flatMap eI.b))), (120, .d (iv (y15.length : Int))), (122, .d (iv s16))]) 0 [0, 6, 8, 104, 106, 108, 118, 120, 122] (by kernel_rfl) hM ?_
            intro n19 next17 ih18 s16 hM
            refine tr_sr hT hm [] [0, 6, 8, 104, 106, 108, 118, 120, 122, 124] [(0, .d (.pt (eXMonoidal.b a0) 0)), (6, .d (.pt (eXMonoidal.b a0) 0)), (8, .d (iv s10)), (104, .d (.sl a0.Arrows.length 0 (a0.Arrows.flatMap (eS eI).b))), (106, .d (iv (a0.Arrows.length : Int))), (108, .d (iv s10)), (118, .d (.sl y15.length 0 (y15.flatMap eI.b))), (120, .d (iv (y15.length : Int))), (122, .d (iv s16)), (124, .d (bv (decide (s16 < (y15.length : Int)))))] .nil (by kernel_rfl) (by kernel_rfl) ?_
            refine tr_seq ?_
            rcases Bool.eq_false_or_eq_true (decide (s16 < (y15.length : Int))) with h20 | h20
            · have hM := ite_true' hM h20
              refine tr_condTe (e := decide (s16 < (y15.length : Int))) h20 (by kernel_rfl) ?_
              refine tr_skip (q_n ?_)
              refine tr_seq ?_
              refine tr_block ?_
              obtain ⟨y21, hy21, hM⟩ := bind_some' hM
              have hy21' := idx_some hy21
              refine tr_sr hT hm [(2, .val (iv y21))] [0, 6, 8, 12, 14, 104, 106, 108, 118, 120, 122] [(0, .d (.pt (eXMonoidal.b a0) 0)), (6, .d (.pt (eXMonoidal.b a0) 0)), (8, .d (iv s10)), (12, .d (iv s16)), (14, .d (iv y21)), (104, .d (.sl a0.Arrows.length 0 (a0.Arrows.flatMap (eS eI).b))), (106, .d (iv (a0.Arrows.length : Int))), (108, .d (iv s10)), (118, .d (.sl y15.length 0 (y15.flatMap eI.b))), (120, .d (iv (y15.length : Int))), (122, .d (iv s16))] (.cons hy21'.1 (.cons hy21'.2.1 (.cons (at_b0 eI_ok hy21'.2.2 (d := iv y21) (by kernel_rfl)) .nil))) (by kernel_rfl) (by kernel_rfl) ?_
              refine tr_seq ?_
              obtain ⟨v22, hv22, hM⟩ := bind_some' hM
              obtain ⟨y23, hy23, hM⟩ := bind_some' hM
              have hy23' := idx_some hy23
              obtain ⟨y24, hy24, hM⟩ := bind_some' hM
              have hy24' := idx_some hy24
              obtain ⟨y25, hy25, hM⟩ := bind_some' hM
              have hy25' := idx_some hy25
              obtain ⟨y26, hy26, hM⟩ := bind_some' hM
              have hy26' := idx_some hy26
              obtain ⟨y27, hy27, hM⟩ := bind_some' hM
              have hy27' := idx_some hy27
              obtain ⟨y28, hy28, hM⟩ := bind_some' hM
              have hy28' := idx_some hy28
              obtain ⟨y29, hy29, hM⟩ := bind_some' hM
              have hy29' := idx_some hy29
              obtain ⟨y30, hy30, hM⟩ := bind_some' hM
              have hy30' := idx_some hy30
              refine tr_sr hT hm [(2, .call [] [] [.pt (eXCategory.b a0.On) 0, iv y21] [] (.agg (eXends.o v22))), (13, .val (iv y23)), (15, .val (.sl y24.length 0 (y24.flatMap eI.b))), (22, .val (iv y25)), (24, .val (iv y26)), (35, .val (iv y27)), (37, .val (.sl y28.length 0 (y28.flatMap eI.b))), (44, .val (iv y29)), (46, .val (iv y30))] [0, 6, 8, 12, 14, 104, 106, 108, 118, 120, 122, 228] [(0, .d (.pt (eXMonoidal.b a0) 0)), (6, .d (.pt (eXMonoidal.b a0) 0)), (8, .d (iv s10)), (12, .d (iv s16)), (14, .d (iv y21)), (104, .d (.sl a0.Arrows.length 0 (a0.Arrows.flatMap (eS eI).b))), (106, .d (iv (a0.Arrows.length : Int))), (108, .d (iv s10)), (118, .d (.sl y15.length 0 (y15.flatMap eI.b))), (120, .d (iv (y15.length : Int))), (122, .d (iv s16)), (228, .d (bv (((v22.from_ == y26) && (v22.to_ == y30)) == false)))] (cc (B := []) (ρ := []) (rB := []) ok174 (impl_Category_ends_c a0.On y21 _ hv22) (.cons (.pass (.ptk (ds := eXMonoidal.b a0) (ds' := eXCategory.b a0.On) (off := 0) (n := 5) (by kernel_rfl) (by kernel_rfl) (by kernel_rfl))) (.cons (.same rfl) .nil)) (.inl rfl) (.cons hy23'.1 (.cons hy23'.2.1 (.cons (at_b0 eI_ok hy23'.2.2 (d := iv y23) (by kernel_rfl)) (.cons hy24'.1 (.cons hy24'.2.1 (.cons (at_b0 (eS_ok eI_ok) hy24'.2.2 (d := .sl y24.length 0 (y24.flatMap eI.b)) (by kernel_rfl)) (.cons hy25'.1 (.cons hy25'.2.1 (.cons (at_b0 eI_ok hy25'.2.2 (d := iv y25) (by kernel_rfl)) (.cons hy26'.1 (.cons hy26'.2.1 (.cons (at_b0 eI_ok hy26'.2.2 (d := iv y26) (by kernel_rfl)) (.cons hy27'.1 (.cons hy27'.2.1 (.cons (at_b0 eI_ok hy27'.2.2 (d := iv y27) (by kernel_rfl)) (.cons hy28'.1 (.cons hy28'.2.1 (.cons (at_b0 (eS_ok eI_ok) hy28'.2.2 (d := .sl y28.length 0 (y28.flatMap eI.b)) (by kernel_rfl)) (.cons hy29'.1 (.cons hy29'.2.1 (.cons (at_b0 eI_ok hy29'.2.2 (d := iv y29) (by kernel_rfl)) (.cons hy30'.1 (.cons hy30'.2.1 (.cons (at_b0 eI_ok hy30'.2.2 (d := iv y30) (by kernel_rfl)) (.cons (by kernel_rfl : Try.prog.stoodInHeld 181 = false) (.cons (by kernel_rfl : Try.prog.eqGuardType Try.prog.depth 181 = false) .nil))))))))))))))))))))))))))) (by kernel_rfl) (by kernel_rfl) ?_
              rcases Bool.eq_false_or_eq_true (((v22.from_ == y26) && (v22.to_ == y30)) == false) with h31 | h31
              · have hM := ite_true' hM h31
                refine tr_condTe (e := ((v22.from_ == y26) && (v22.to_ == y30)) == false) h31 (by kernel_rfl) ?_
                refine tr_sr hT hm [] [4] [(4, .d (bv false))] .nil (by kernel_rfl) (by kernel_rfl) ?_
                refine tr_ret (q_r (b_r (q_r (l_r (b_r (b_r (q_r (l_r (b_r (q_r (rg_r ?_)))))))))))
                obtain rfl := Option.some.inj hM
                exact retg (names := []) .nil (by kernel_rfl)
              · have hM := ite_false' hM h31
                refine tr_condFe (e := ((v22.from_ == y26) && (v22.to_ == y30)) == false) h31 (by kernel_rfl) ?_
                refine tr_skip (q_n ?_)
                obtain ⟨v32, hv32, hM⟩ := bind_some' hM
                rcases Bool.eq_false_or_eq_true v32 with h33 | h33
                · have hM := ite_true' hM h33
                  obtain ⟨v34, hv34, hM⟩ := bind_some' hM
                  rcases Bool.eq_false_or_eq_true v34 with h35 | h35
                  · have hM := ite_true' hM h35
                    obtain ⟨v36, hv36, hM⟩ := bind_some' hM
                    refine tr_sr hT hm [(2, .call [] [] [.pt (eXCategory.b a0.On) 0, iv s10] [] (bv v32)), (3, .val (bv true)), (6, .call [] [] [.pt (eXCategory.b a0.On) 0, iv s16] [] (bv v34)), (8, .val (bv true)), (11, .call [] [] [.pt (eXCategory.b a0.On) 0, iv y21] [] (bv v36))] [0, 6, 8, 104, 106, 108, 118, 120, 122, 238, 240, 242, 248, 250, 252, 254, 256] [(0, .d (.pt (eXMonoidal.b a0) 0)), (6, .d (.pt (eXMonoidal.b a0) 0)), (8, .d (iv s10)), (104, .d (.sl a0.Arrows.length 0 (a0.Arrows.flatMap (eS eI).b))), (106, .d (iv (a0.Arrows.length : Int))), (108, .d (iv s10)), (118, .d (.sl y15.length 0 (y15.flatMap eI.b))), (120, .d (iv (y15.length : Int))), (122, .d (iv s16)), (238, .d (.pt (eXMonoidal.b a0) 0)), (240, .d (iv s16)), (242, .d (bv v34)), (248, .d (.pt (eXMonoidal.b a0) 0)), (250, .d (iv y21)), (252, .d (bv v36)), (254, .d (bv (!v36))), (256, .d (bv (!v36)))] (cc (B := []) (ρ := []) (rB := []) ok175 (impl_Category_isIdentity_c a0.On s10 _ hv32) (.cons (.pass (.ptk (ds := eXMonoidal.b a0) (ds' := eXCategory.b a0.On) (off := 0) (n := 5) (by kernel_rfl) (by kernel_rfl) (by kernel_rfl))) (.cons (.same rfl) .nil)) (.inl rfl) (.cons (congrArg (fun b => bv b) h33) (cc (B := []) (ρ := []) (rB := []) ok175 (impl_Category_isIdentity_c a0.On s16 _ hv34) (.cons (.pass (.ptk (ds := eXMonoidal.b a0) (ds' := eXCategory.b a0.On) (off := 0) (n := 5) (by kernel_rfl) (by kernel_rfl) (by kernel_rfl))) (.cons (.same rfl) .nil)) (.inl rfl) (.cons (congrArg (fun b => bv b) h35) (cc (B := []) (ρ := []) (rB := []) ok175 (impl_Category_isIdentity_c a0.On y21 _ hv36) (.cons (.pass (.ptk (ds := eXMonoidal.b a0) (ds' := eXCategory.b a0.On) (off := 0) (n := 5) (by kernel_rfl) (by kernel_rfl) (by kernel_rfl))) (.cons (.same rfl) .nil)) (.inl rfl) .nil))))) (by kernel_rfl) (by kernel_rfl) ?_
                    rcases Bool.eq_false_or_eq_true v36 with h37 | h37
                    · have hM := ite_true' hM h37
                      refine tr_condFe (e := !v36) (congrArg not h37) (by kernel_rfl) ?_
                      refine tr_skip (b_n (q_n ?_))
                      refine tr_r hT hm [] [0, 6, 8, 104, 106, 108, 118, 120, 122, 238, 240, 242, 248, 250, 252, 254] [(0, .d (.pt (eXMonoidal.b a0) 0)), (6, .d (.pt (eXMonoidal.b a0) 0)), (8, .d (iv s10)), (104, .d (.sl a0.Arrows.length 0 (a0.Arrows.flatMap (eS eI).b))), (106, .d (iv (a0.Arrows.length : Int))), (108, .d (iv s10)), (118, .d (.sl y15.length 0 (y15.flatMap eI.b))), (120, .d (iv (y15.length : Int))), (122, .d (iv (IntKind.i64.wrap (s16 + 1)))), (238, .d (.pt (eXMonoidal.b a0) 0)), (240, .d (iv s16)), (242, .d (bv v34)), (248, .d (.pt (eXMonoidal.b a0) 0)), (250, .d (iv y21)), (252, .d (bv v36)), (254, .d (bv (!v36)))] .nil (by kernel_rfl) (by kernel_rfl) (l_n ?_)
                      exact trl_start (ks := [0, 6, 8, 104, 106, 108, 118, 120, 122]) (by kernel_rfl) (ih18 (IntKind.i64.wrap (s16 + 1)) hM)
                    · have hM := ite_false' hM h37
                      refine tr_condTe (e := !v36) (congrArg not h37) (by kernel_rfl) ?_
                      refine tr_sr hT hm [] [4] [(4, .d (bv false))] .nil (by kernel_rfl) (by kernel_rfl) ?_
                      refine tr_ret (b_r (q_r (l_r (b_r (b_r (q_r (l_r (b_r (q_r (rg_r ?_))))))))))
                      obtain rfl := Option.some.inj hM
                      exact retg (names := []) .nil (by kernel_rfl)
                  · have hM := ite_false' hM h35
                    refine tr_sr hT hm [(2, .call [] [] [.pt (eXCategory.b a0.On) 0, iv s10] [] (bv v32)), (3, .val (bv true)), (6, .call [] [] [.pt (eXCategory.b a0.On) 0, iv s16] [] (bv v34)), (8, .val (bv false))] [0, 6, 8, 104, 106, 108, 118, 120, 122, 238, 240, 242, 256] [(0, .d (.pt (eXMonoidal.b a0) 0)), (6, .d (.pt (eXMonoidal.b a0) 0)), (8, .d (iv s10)), (104, .d (.sl a0.Arrows.length 0 (a0.Arrows.flatMap (eS eI).b))), (106, .d (iv (a0.Arrows.length : Int))), (108, .d (iv s10)), (118, .d (.sl y15.length 0 (y15.flatMap eI.b))), (120, .d (iv (y15.length : Int))), (122, .d (iv s16)), (238, .d (.pt (eXMonoidal.b a0) 0)), (240, .d (iv s16)), (242, .d (bv v34)), (256, .d (bv false))] (cc (B := []) (ρ := []) (rB := []) ok175 (impl_Category_isIdentity_c a0.On s10 _ hv32) (.cons (.pass (.ptk (ds := eXMonoidal.b a0) (ds' := eXCategory.b a0.On) (off := 0) (n := 5) (by kernel_rfl) (by kernel_rfl) (by kernel_rfl))) (.cons (.same rfl) .nil)) (.inl rfl) (.cons (congrArg (fun b => bv b) h33) (cc (B := []) (ρ := []) (rB := []) ok175 (impl_Category_isIdentity_c a0.On s16 _ hv34) (.cons (.pass (.ptk (ds := eXMonoidal.b a0) (ds' := eXCategory.b a0.On) (off := 0) (n := 5) (by kernel_rfl) (by kernel_rfl) (by kernel_rfl))) (.cons (.same rfl) .nil)) (.inl rfl) (.cons (congrArg (fun b => bv b) h35) .nil)))) (by kernel_rfl) (by kernel_rfl) ?_
                    refine tr_condF (by kernel_rfl) ?_
                    refine tr_skip (b_n (q_n ?_))
                    refine tr_r hT hm [] [0, 6, 8, 104, 106, 108, 118, 120, 122, 238, 240, 242] [(0, .d (.pt (eXMonoidal.b a0) 0)), (6, .d (.pt (eXMonoidal.b a0) 0)), (8, .d (iv s10)), (104, .d (.sl a0.Arrows.length 0 (a0.Arrows.flatMap (eS eI).b))), (106, .d (iv (a0.Arrows.length : Int))), (108, .d (iv s10)), (118, .d (.sl y15.length 0 (y15.flatMap eI.b))), (120, .d (iv (y15.length : Int))), (122, .d (iv (IntKind.i64.wrap (s16 + 1)))), (238, .d (.pt (eXMonoidal.b a0) 0)), (240, .d (iv s16)), (242, .d (bv v34))] .nil (by kernel_rfl) (by kernel_rfl) (l_n ?_)
                    exact trl_start (ks := [0, 6, 8, 104, 106, 108, 118, 120, 122]) (by kernel_rfl) (ih18 (IntKind.i64.wrap (s16 + 1)) hM)
                · have hM := ite_false' hM h33
                  refine tr_sr hT hm [(2, .call [] [] [.pt (eXCategory.b a0.On) 0, iv s10] [] (bv v32)), (3, .val (bv false))] [0, 6, 8, 104, 106, 108, 118, 120, 122, 256] [(0, .d (.pt (eXMonoidal.b a0) 0)), (6, .d (.pt (eXMonoidal.b a0) 0)), (8, .d (iv s10)), (104, .d (.sl a0.Arrows.length 0 (a0.Arrows.flatMap (eS eI).b))), (106, .d (iv (a0.Arrows.length : Int))), (108, .d (iv s10)), (118, .d (.sl y15.length 0 (y15.flatMap eI.b))), (120, .d (iv (y15.length : Int))), (122, .d (iv s16)), (256, .d (bv false))] (cc (B := []) (ρ := []) (rB := []) ok175 (impl_Category_isIdentity_c a0.On s10 _ hv32) (.cons (.pass (.ptk (ds := eXMonoidal.b a0) (ds' := eXCategory.b a0.On) (off := 0) (n := 5) (by kernel_rfl) (by kernel_rfl) (by kernel_rfl))) (.cons (.same rfl) .nil)) (.inl rfl) (.cons (congrArg (fun b => bv b) h33) .nil)) (by kernel_rfl) (by kernel_rfl) ?_
                  refine tr_condF (by kernel_rfl) ?_
                  refine tr_skip (b_n (q_n ?_))
                  refine tr_r hT hm [] [0, 6, 8, 104, 106, 108, 118, 120, 122] [(0, .d (.pt (eXMonoidal.b a0) 0)), (6, .d (.pt (eXMonoidal.b a0) 0)), (8, .d (iv s10)), (104, .d (.sl a0.Arrows.length 0 (a0.Arrows.flatMap (eS eI).b))), (106, .d (iv (a0.Arrows.length : Int))), (108, .d (iv s10)), (118, .d (.sl y15.length 0 (y15.flatMap eI.b))), (120, .d (iv (y15.length : Int))), (122, .d (iv (IntKind.i64.wrap (s16 + 1))))] .nil (by kernel_rfl) (by kernel_rfl) (l_n ?_)
                  exact trl_start (ks := [0, 6, 8, 104, 106, 108, 118, 120, 122]) (by kernel_rfl) (ih18 (IntKind.i64.wrap (s16 + 1)) hM)
            · have hM := ite_false' hM h20
              refine tr_condFe (e := decide (s16 < (y15.length : Int))) h20 (by kernel_rfl) ?_
              refine tr_exit (q_x (l_x (b_h (b_n (q_n ?_)))))
              refine tr_r hT hm [] [0, 6, 104, 106, 108] [(0, .d (.pt (eXMonoidal.b a0) 0)), (6, .d (.pt (eXMonoidal.b a0) 0)), (104, .d (.sl a0.Arrows.length 0 (a0.Arrows.flatMap (eS eI).b))), (106, .d (iv (a0.Arrows.length : Int))), (108, .d (iv (IntKind.i64.wrap (s10 + 1))))] .nil (by kernel_rfl) (by kernel_rfl) (l_n ?_)
              exact trl_start (ks := [0, 6, 104, 106, 108]) (by kernel_rfl) (ih12 (IntKind.i64.wrap (s10 + 1)) hM)
          · have hM := ite_false' hM h14
            refine tr_condFe (e := decide (s10 < (a0.Arrows.length : Int))) h14 (by kernel_rfl) ?_
            refine tr_exit (q_x (l_x (b_h (q_n ?_))))
            obtain ⟨v38, hv38, hM⟩ := bind_some' hM
            rcases Bool.eq_false_or_eq_true v38 with h39 | h39
            · have hM := ite_true' hM h39
              obtain ⟨y40, hy40, hM⟩ := bind_some' hM
              have hy40' := idx_some hy40
              obtain ⟨v41, hv41, hM⟩ := bind_some' hM
              rcases Bool.eq_false_or_eq_true v41 with h42 | h42
              · have hM := ite_true' hM h42
                obtain ⟨v43, hv43, hM⟩ := bind_some' hM
                refine tr_sr hT hm [(8, .call [] [] [.sl a0.Objects.length 0 (a0.Objects.flatMap (eS eI).b), iv a0.Unit] [] (bv v38)), (9, .val (bv true)), (23, .val (iv y40)), (24, .call [] [] [.sl a0.Arrows.length 0 (a0.Arrows.flatMap (eS eI).b), iv y40] [] (bv v41)), (26, .val (bv true)), (28, .call [] [] [.pt (eXMonoidal.b a0) 0] [] (bv v43))] [4] [(4, .d (bv v43))] (cc0 ok176 (impl_isAssociative_c a0.Objects a0.Unit _ hv38) (by kernel_rfl) (.cons (congrArg (fun b => bv b) h39) (.cons hy40'.1 (.cons hy40'.2.1 (.cons (at_b0 eI_ok hy40'.2.2 (d := iv y40) (by kernel_rfl)) (cc0 ok176 (impl_isAssociative_c a0.Arrows y40 _ hv41) (by kernel_rfl) (.cons (congrArg (fun b => bv b) h42) (cc0 ok177 (impl_Monoidal_interchanges_c a0 _ hv43) (by kernel_rfl) .nil)))))))) (by kernel_rfl) (by kernel_rfl) ?_
                refine tr_ret (rg_r ?_)
                obtain rfl := Option.some.inj hM
                exact retg (names := []) .nil (by kernel_rfl)
              · have hM := ite_false' hM h42
                refine tr_sr hT hm [(8, .call [] [] [.sl a0.Objects.length 0 (a0.Objects.flatMap (eS eI).b), iv a0.Unit] [] (bv v38)), (9, .val (bv true)), (23, .val (iv y40)), (24, .call [] [] [.sl a0.Arrows.length 0 (a0.Arrows.flatMap (eS eI).b), iv y40] [] (bv v41)), (26, .val (bv false))] [4] [(4, .d (bv false))] (cc0 ok176 (impl_isAssociative_c a0.Objects a0.Unit _ hv38) (by kernel_rfl) (.cons (congrArg (fun b => bv b) h39) (.cons hy40'.1 (.cons hy40'.2.1 (.cons (at_b0 eI_ok hy40'.2.2 (d := iv y40) (by kernel_rfl)) (cc0 ok176 (impl_isAssociative_c a0.Arrows y40 _ hv41) (by kernel_rfl) (.cons (congrArg (fun b => bv b) h42) .nil))))))) (by kernel_rfl) (by kernel_rfl) ?_
                refine tr_ret (rg_r ?_)
                obtain rfl := Option.some.inj hM
                exact retg (names := []) .nil (by kernel_rfl)
            · have hM := ite_false' hM h39
              refine tr_sr hT hm [(8, .call [] [] [.sl a0.Objects.length 0 (a0.Objects.flatMap (eS eI).b), iv a0.Unit] [] (bv v38)), (9, .val (bv false))] [4] [(4, .d (bv false))] (cc0 ok176 (impl_isAssociative_c a0.Objects a0.Unit _ hv38) (by kernel_rfl) (.cons (congrArg (fun b => bv b) h39) .nil)) (by kernel_rfl) (by kernel_rfl) ?_
              refine tr_ret (rg_r ?_)
              obtain rfl := Option.some.inj hM
              exact retg (names := []) .nil (by kernel_rfl)
        · have hM := ite_false' hM h9
          refine tr_condTe (e := !v8) (congrArg not h9) (by kernel_rfl) ?_
          refine tr_sr hT hm [] [4] [(4, .d (bv false))] .nil (by kernel_rfl) (by kernel_rfl) ?_
          refine tr_ret (q_r (rg_r ?_))
          obtain rfl := Option.some.inj hM
          exact retg (names := []) .nil (by kernel_rfl)
      · have hM := ite_false' hM h6
        refine tr_sr hT hm [(1, .call [] [] [.pt (eXCategory.b a0.On) 0] [] (bv v1)), (3, .val (bv false)), (13, .call [] [] [iv a0.Unit, iv 0, iv (IntKind.i64.wrap (a0.On.Objects - 1))] [] (bv v3)), (16, .val (bv false)), (25, .call [] [] [.sl a0.Objects.length 0 (a0.Objects.flatMap (eS eI).b), iv a0.On.Objects] [] (bv v5)), (28, .val (bv true))] [0, 6, 96] [(0, .d (.pt (eXMonoidal.b a0) 0)), (6, .d (.pt (eXMonoidal.b a0) 0)), (96, .d (bv true))] (cc (B := []) (ρ := []) (rB := []) ok122 (impl_Category_isCategory_c a0.On _ hv1) (.cons (.pass (.ptk (ds := eXMonoidal.b a0) (ds' := eXCategory.b a0.On) (off := 0) (n := 5) (by kernel_rfl) (by kernel_rfl) (by kernel_rfl))) .nil) (.inl rfl) (.cons (congrArg (fun b => bv b) (congrArg not h2)) (cc0 ok123 (impl_inRange_c a0.Unit 0 (IntKind.i64.wrap (a0.On.Objects - 1)) _ hv3) (by kernel_rfl) (.cons (congrArg (fun b => bv b) (congrArg not h4)) (cc0 ok172 (impl_isTable_c a0.Objects a0.On.Objects _ hv5) (by kernel_rfl) (.cons (congrArg (fun b => bv b) (congrArg not h6)) .nil)))))) (by kernel_rfl) (by kernel_rfl) ?_
        refine tr_condT (by kernel_rfl) ?_
        refine tr_sr hT hm [] [4] [(4, .d (bv false))] .nil (by kernel_rfl) (by kernel_rfl) ?_
        refine tr_ret (q_r (rg_r ?_))
        obtain rfl := Option.some.inj hM
        exact retg (names := []) .nil (by kernel_rfl)
    · have hM := ite_false' hM h4
      refine tr_sr hT hm [(1, .call [] [] [.pt (eXCategory.b a0.On) 0] [] (bv v1)), (3, .val (bv false)), (13, .call [] [] [iv a0.Unit, iv 0, iv (IntKind.i64.wrap (a0.On.Objects - 1))] [] (bv v3)), (16, .val (bv true))] [0, 6, 96] [(0, .d (.pt (eXMonoidal.b a0) 0)), (6, .d (.pt (eXMonoidal.b a0) 0)), (96, .d (bv true))] (cc (B := []) (ρ := []) (rB := []) ok122 (impl_Category_isCategory_c a0.On _ hv1) (.cons (.pass (.ptk (ds := eXMonoidal.b a0) (ds' := eXCategory.b a0.On) (off := 0) (n := 5) (by kernel_rfl) (by kernel_rfl) (by kernel_rfl))) .nil) (.inl rfl) (.cons (congrArg (fun b => bv b) (congrArg not h2)) (cc0 ok123 (impl_inRange_c a0.Unit 0 (IntKind.i64.wrap (a0.On.Objects - 1)) _ hv3) (by kernel_rfl) (.cons (congrArg (fun b => bv b) (congrArg not h4)) .nil)))) (by kernel_rfl) (by kernel_rfl) ?_
      refine tr_condT (by kernel_rfl) ?_
      refine tr_sr hT hm [] [4] [(4, .d (bv false))] .nil (by kernel_rfl) (by kernel_rfl) ?_
      refine tr_ret (q_r (rg_r ?_))
      obtain rfl := Option.some.inj hM
      exact retg (names := []) .nil (by kernel_rfl)
  · have hM := ite_false' hM h2
    refine tr_sr hT hm [(1, .call [] [] [.pt (eXCategory.b a0.On) 0] [] (bv v1)), (3, .val (bv true))] [0, 6, 96] [(0, .d (.pt (eXMonoidal.b a0) 0)), (6, .d (.pt (eXMonoidal.b a0) 0)), (96, .d (bv true))] (cc (B := []) (ρ := []) (rB := []) ok122 (impl_Category_isCategory_c a0.On _ hv1) (.cons (.pass (.ptk (ds := eXMonoidal.b a0) (ds' := eXCategory.b a0.On) (off := 0) (n := 5) (by kernel_rfl) (by kernel_rfl) (by kernel_rfl))) .nil) (.inl rfl) (.cons (congrArg (fun b => bv b) (congrArg not h2)) .nil)) (by kernel_rfl) (by kernel_rfl) ?_
    refine tr_condT (by kernel_rfl) ?_
    refine tr_sr hT hm [] [4] [(4, .d (bv false))] .nil (by kernel_rfl) (by kernel_rfl) ?_
    refine tr_ret (q_r (rg_r ?_))
    obtain rfl := Option.some.inj hM
    exact retg (names := []) .nil (by kernel_rfl)

theorem ok178 : CallOk Try.prog 178 := callOk_of Try.func178 (by kernel_rfl) (by kernel_rfl)
theorem impl_column_c (a0 : List (List Int)) (a1 : Int) (r : (List Int)) (hM : M.impl_column a0 a1 = some r) :
    FnC Try.prog 178 [] [.sl a0.length 0 (a0.flatMap (eS eI).b), iv a1] [] (.fr 1 r.length (r.flatMap eI.o)) := by
  refine fnc_startG (N := 24) (np := 500) hT Try.func178 rfl rfl (by kernel_rfl) ?_
  unfold M.impl_column at hM
  refine tr_start (ks := [0, 2]) (st' := [(0, .d (.sl a0.length 0 (a0.flatMap (eS eI).b))), (2, .d (iv a1))]) (by kernel_rfl) ?_
  refine tr_sr hT hm [] [0, 2] [(0, .d (.sl a0.length 0 (a0.flatMap (eS eI).b))), (2, .d (iv a1))] .nil (by kernel_rfl) (by kernel_rfl) ?_
  refine tr_sr hT hm [] [0, 2, 10, 2017] [(0, .d (.sl a0.length 0 (a0.flatMap (eS eI).b))), (2, .d (iv a1)), (10, .d (.rs 1008 0 (([] : List Int).length))), (2017, .r (.arr 1 (([] : List Int).flatMap eI.o) []))] .nil (by kernel_rfl) (by kernel_rfl) ?_
  refine tr_seq ?_
  refine tr_sr hT hm [] [2, 10, 18, 20, 22, 2017] [(2, .d (iv a1)), (10, .d (.rs 1008 0 (([] : List Int).length))), (18, .d (.sl a0.length 0 (a0.flatMap (eS eI).b))), (20, .d (iv (a0.length : Int))), (22, .d (iv 0)), (2017, .r (.arr 1 (([] : List Int).flatMap eI.o) []))] .nil (by kernel_rfl) (by kernel_rfl) ?_
  refine tr_block ?_
  refine tr_iterS (fun (s1 : (List Int) × Int) => [(2, .d (iv a1)), (10, .d (.rs 1008 0 s1.1.length)), (18, .d (.sl a0.length 0 (a0.flatMap (eS eI).b))), (20, .d (iv (a0.length : Int))), (22, .d (iv s1.2)), (2017, .r (.arr 1 (s1.1.flatMap eI.o) []))]) (([] : List Int), 0) [2, 10, 18, 20, 22, 2017] (by kernel_rfl) hM ?_
  intro n4 next2 ih3 s1 hM
  refine tr_sr hT hm [] [2, 10, 18, 20, 22, 24, 2017] [(2, .d (iv a1)), (10, .d (.rs 1008 0 s1.1.length)), (18, .d (.sl a0.length 0 (a0.flatMap (eS eI).b))), (20, .d (iv (a0.length : Int))), (22, .d (iv s1.2)), (24, .d (bv (decide (s1.2 < (a0.length : Int))))), (2017, .r (.arr 1 (s1.1.flatMap eI.o) []))] .nil (by kernel_rfl) (by kernel_rfl) ?_
  refine tr_seq ?_
  rcases Bool.eq_false_or_eq_true (decide (s1.2 < (a0.length : Int))) with h5 | h5
  · have hM := ite_true' hM h5
    refine tr_condTe (e := decide (s1.2 < (a0.length : Int))) h5 (by kernel_rfl) ?_
    refine tr_skip (q_n ?_)
    refine tr_seq ?_
    refine tr_block ?_
    obtain ⟨y6, hy6, hM⟩ := bind_some' hM
    have hy6' := idx_some hy6
    refine tr_sr hT hm [(1, .val (.sl y6.length 0 (y6.flatMap eI.b)))] [2, 10, 14, 18, 20, 22, 2017] [(2, .d (iv a1)), (10, .d (.rs 1008 0 s1.1.length)), (14, .d (.sl y6.length 0 (y6.flatMap eI.b))), (18, .d (.sl a0.length 0 (a0.flatMap (eS eI).b))), (20, .d (iv (a0.length : Int))), (22, .d (iv s1.2)), (2017, .r (.arr 1 (s1.1.flatMap eI.o) []))] (.cons hy6'.1 (.cons hy6'.2.1 (.cons (at_b0 (eS_ok eI_ok) hy6'.2.2 (d := .sl y6.length 0 (y6.flatMap eI.b)) (by kernel_rfl)) .nil))) (by kernel_rfl) (by kernel_rfl) ?_
    obtain ⟨y7, hy7, hM⟩ := bind_some' hM
    have hy7' := idx_some hy7
    obtain ⟨h8, hM⟩ := chk_some hM
    refine tr_r hT hm [(4, .val (iv y7)), (6, .app true)] [2, 10, 18, 20, 22, 2043] [(2, .d (iv a1)), (10, .d (.rs 1021 0 (s1.1.length + (([y7] : List Int).length)))), (18, .d (.sl a0.length 0 (a0.flatMap (eS eI).b))), (20, .d (iv (a0.length : Int))), (22, .d (iv s1.2)), (2043, .r (.arr 1 (s1.1.flatMap eI.o ++ ([y7] : List Int).flatMap eI.o) []))] (.cons hy7'.1 (.cons hy7'.2.1 (.cons (at_b0 eI_ok hy7'.2.2 (d := iv y7) (by kernel_rfl)) (.cons (lenO_flat eI_ok s1.1) (.cons (lenO_flat eI_ok ([y7] : List Int)) (.cons h8 .nil)))))) (by kernel_rfl) (by kernel_rfl) (b_n (q_n ?_))
    refine Tr.by (imp_cvE (r := 1021) (sz := 1) (refs := []) (flat_app eI.o s1.1 ([y7] : List Int)) (menO_flat eI_ok _) (by kernel_rfl)) ?_
    refine Tr.by (imp_cvD (k := 10) (congrArg (D.rs 1021 0) ((len_app s1.1 ([y7] : List Int)) : s1.1.length + (([y7] : List Int).length) = (s1.1 ++ ([y7] : List Int)).length)) (by kernel_rfl)) ?_
    refine tr_r hT hm [] [2, 10, 18, 20, 22, 2043] [(2, .d (iv a1)), (10, .d (.rs 1021 0 ((s1.1 ++ ([y7] : List Int)).length))), (18, .d (.sl a0.length 0 (a0.flatMap (eS eI).b))), (20, .d (iv (a0.length : Int))), (22, .d (iv (IntKind.i64.wrap (s1.2 + 1)))), (2043, .r (.arr 1 ((s1.1 ++ ([y7] : List Int)).flatMap eI.o) []))] .nil (by kernel_rfl) (by kernel_rfl) (l_n ?_)
    refine TrL.by (imp_sel (ks := [2, 10, 18, 20, 22, 2043]) (st' := [(2, .d (iv a1)), (10, .d (.rs 1021 0 ((s1.1 ++ ([y7] : List Int)).length))), (18, .d (.sl a0.length 0 (a0.flatMap (eS eI).b))), (20, .d (iv (a0.length : Int))), (22, .d (iv (IntKind.i64.wrap (s1.2 + 1)))), (2043, .r (.arr 1 ((s1.1 ++ ([y7] : List Int)).flatMap eI.o) []))]) (by kernel_rfl)) ?_
    refine TrL.by (imp_rename (r := 1021) (q := 1008) (by kernel_rfl) (Nat.le_of_ble_eq_true rfl)) ?_
    exact trl_start (ks := [2, 10, 18, 20, 22, 2017]) (by kernel_rfl) (ih3 (s1.1 ++ ([y7] : List Int), IntKind.i64.wrap (s1.2 + 1)) hM)
  · have hM := ite_false' hM h5
    refine tr_condFe (e := decide (s1.2 < (a0.length : Int))) h5 (by kernel_rfl) ?_
    refine tr_exit (q_x (l_x (b_h (q_n ?_))))
    refine tr_sr hT hm [] [8, 2017] [(8, .d (.rs 1008 0 s1.1.length)), (2017, .r (.arr 1 (s1.1.flatMap eI.o) []))] .nil (by kernel_rfl) (by kernel_rfl) ?_
    refine tr_ret (rg_r ?_)
    obtain rfl := Option.some.inj hM
    exact retg (names := []) (.cons (lenO_flat eI_ok s1.1) .nil) (by kernel_rfl)

theorem ok72 : CallOk Try.prog 72 := callOk_of Try.func72 (by kernel_rfl) (by kernel_rfl)
theorem impl_Monoidal_behind_c (a0 : XMonoidal) (a1 : Int) (r : XFunctor) (hM : M.impl_Monoidal_behind a0 a1 = some r) :
    FnC Try.prog 72 [] [.pt (eXMonoidal.b a0) 0, iv a1] [] (.agg (eXFunctor.o r)) := by
  refine fnc_startG (N := 31) (np := 500) hT Try.func72 rfl rfl (by kernel_rfl) ?_
  unfold M.impl_Monoidal_behind at hM
  refine tr_start (ks := [0, 2]) (st' := [(0, .d (.pt (eXMonoidal.b a0) 0)), (2, .d (iv a1))]) (by kernel_rfl) ?_
  refine tr_sr hT hm [] [0, 2, 8, 2009] [(0, .d (.pt (eXMonoidal.b a0) 0)), (2, .d (iv a1)), (8, .d (.rp 1004 0)), (2009, .r (.arr 1 [iv 0, nilv, nilv, nilv, nilv, iv 0, nilv, nilv, nilv, nilv, nilv, nilv] []))] .nil (by kernel_rfl) (by kernel_rfl) ?_
  obtain ⟨v1, hv1, hM⟩ := bind_some' hM
  obtain ⟨y2, hy2, hM⟩ := bind_some' hM
  have hy2' := idx_some hy2
  obtain ⟨v3, hv3, hM⟩ := bind_some' hM
  obtain ⟨v4, hv4, hM⟩ := bind_some' hM
  refine tr_sr hT hm [(11, .call [] [] [.sl a0.Objects.length 0 (a0.Objects.flatMap (eS eI).b), iv a1] [] (.fr 1 v1.length (v1.flatMap eI.o))), (23, .val (iv y2)), (24, .call [] [] [.sl a0.Arrows.length 0 (a0.Arrows.flatMap (eS eI).b), iv y2] [] (.fr 1 v3.length (v3.flatMap eI.o))), (25, .call [18000, 31000] [] [.pt (eXCategory.b a0.On) 0, .pt (eXCategory.b a0.On) 0, .sl v1.length 0 (v1.flatMap eI.b), .sl v3.length 0 (v3.flatMap eI.b)] [] (.agg (eXFunctor.o v4)))] [8, 2009, 64003, 64005, 64007, 64009, 64013, 64015, 64017, 64019, 64021, 64023] ([(8, .d (.rp 1004 0)), bxO 2009 32000 (eXFunctor.o v4)] ++ rsS 32000 (eXFunctor.o v4)) (cc0 ok178 (impl_column_c a0.Objects a1 _ hv1) (by kernel_rfl) (.cons hy2'.1 (.cons hy2'.2.1 (.cons (at_b0 eI_ok hy2'.2.2 (d := iv y2) (by kernel_rfl)) (cc0 ok178 (impl_column_c a0.Arrows y2 _ hv3) (by kernel_rfl) (cc (B := [18000, 31000]) (ρ := []) (rB := [(18000, .arr 1 (v1.flatMap eI.o) []), (31000, .arr 1 (v3.flatMap eI.o) [])]) ok103 (impl_functor_c a0.On a0.On v1 v3 _ hv4) (.cons (.pass (.ptk (ds := eXMonoidal.b a0) (ds' := eXCategory.b a0.On) (off := 0) (n := 5) (by kernel_rfl) (by kernel_rfl) (by kernel_rfl))) (.cons (.pass (.ptk (ds := eXMonoidal.b a0) (ds' := eXCategory.b a0.On) (off := 0) (n := 5) (by kernel_rfl) (by kernel_rfl) (by kernel_rfl))) (.cons (.of1 (.rs (r := 18000) (sz := 1) (refs := []) (memB (by kernel_rfl)) (by kernel_rfl) (bor_flat eI_ok _ _ _))) (.cons (.of1 (.rs (r := 31000) (sz := 1) (refs := []) (memB (by kernel_rfl)) (by kernel_rfl) (bor_flat eI_ok _ _ _))) .nil)))) (.inr ⟨(.agg (eXFunctor_nb _)), trivial⟩) (.cons (Nat.le_of_ble_eq_true (n := 12) (m := 12) rfl) .nil))))))) (by kernel_rfl) (by kernel_rfl) ?_
  refine tr_ret (rg_r ?_)
  obtain rfl := Option.some.inj hM
  exact retg (names := []) (.cons (lenO_flat eI_ok v4.Source.From) (.cons (lenO_flat eI_ok v4.Source.To) (.cons (lenO_flat eI_ok v4.Source.Identity) (.cons (lenO_flat (eS_ok eI_ok) v4.Source.Composites) (.cons (lenO_flat eI_ok v4.Target.From) (.cons (lenO_flat eI_ok v4.Target.To) (.cons (lenO_flat eI_ok v4.Target.Identity) (.cons (lenO_flat (eS_ok eI_ok) v4.Target.Composites) (.cons (lenO_flat eI_ok v4.Objects) (.cons (lenO_flat eI_ok v4.Arrows) .nil)))))))))) (by kernel_rfl)

end Go.Proofs.Ytjmjhhhglbeacaa.WyM
