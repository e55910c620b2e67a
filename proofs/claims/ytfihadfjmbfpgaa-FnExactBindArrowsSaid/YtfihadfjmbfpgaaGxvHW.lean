/- Walks. Printed by wip/gen. -/
import Derived.Test.YtfihadfjmbfpgaaGxEM0
import Derived.Test.YtfihadfjmbfpgaaGxEO0
import Derived.Test.YtfihadfjmbfpgaaGxvBW3
import Derived.KernelRfl
namespace Go.Proofs.Ytfihadfjmbfpgaa.WvH
open Go.Gx Go.Proofs.Ytfihadfjmbfpgaa.WvB

theorem eXCategory_r : EncR eXCategory := (eA_r (eC_r eI_r _) (eA_r (eC_r (eS_r eI_ok) _) (eA_r (eC_r (eS_r eI_ok) _) (eA_r (eC_r (eS_r eI_ok) _) (eC_r (eS_r (eS_ok eI_ok)) _)))))
theorem eXFunctor_r : EncR eXFunctor := (eA_r (eC_r eXCategory_r _) (eA_r (eC_r eXCategory_r _) (eA_r (eC_r (eS_r eI_ok) _) (eC_r (eS_r eI_ok) _))))
def T : Tab := [(2, ⟨.int .i64, 1, 8, [.int .i64 0]⟩),
  (3, ⟨.int .i64, 1, 8, [.int .i64 0]⟩),
  (22, ⟨.slice 2, 1, 24, [.slice .none 0 0]⟩),
  (23, ⟨.slice 22, 1, 24, [.slice .none 0 0]⟩),
  (33, ⟨.struct #[⟨"Objects", 2, 0, false, "", "", 0⟩, ⟨"From", 22, 1, false, "", "", 8⟩, ⟨"To", 22, 2, false, "", "", 32⟩, ⟨"Identity", 22, 3, false, "", "", 56⟩, ⟨"Composites", 23, 4, false, "", "", 80⟩], 5, 104, [.int .i64 0, .slice .none 0 0, .slice .none 0 0, .slice .none 0 0, .slice .none 0 0]⟩),
  (35, ⟨.struct #[⟨"Source", 33, 0, false, "", "", 0⟩, ⟨"Target", 33, 5, false, "", "", 104⟩, ⟨"Objects", 22, 10, false, "", "", 208⟩, ⟨"Arrows", 22, 11, false, "", "", 232⟩], 12, 256, [.int .i64 0, .slice .none 0 0, .slice .none 0 0, .slice .none 0 0, .slice .none 0 0, .int .i64 0, .slice .none 0 0, .slice .none 0 0, .slice .none 0 0, .slice .none 0 0, .slice .none 0 0, .slice .none 0 0]⟩)]
theorem hT : TabOk Try.prog T := ⟨tiok (by kernel_rfl) (by kernel_rfl), tiok (by kernel_rfl) (by kernel_rfl), tiok (by kernel_rfl) (by kernel_rfl), tiok (by kernel_rfl) (by kernel_rfl), tiok (by kernel_rfl) (by kernel_rfl), tiok (by kernel_rfl) (by kernel_rfl), trivial⟩
theorem hm : Try.prog.follows .mixedOrders = true := by kernel_rfl

theorem ok111 : CallOk Try.prog 111 := callOk_of Try.func111 (by kernel_rfl) (by kernel_rfl)
theorem spec_l01Then_c (a0 : List Int) (a1 : List Int) (r : (List Int)) (hM : M.spec_l01Then a0 a1 = some r) :
    FnC Try.prog 111 [] [.sl a0.length 0 (a0.flatMap eI.b), .sl a1.length 0 (a1.flatMap eI.b)] [] (.fr 1 r.length (r.flatMap eI.o)) := by
  refine fnc_startG (N := 25) (np := 500) hT Try.func111 rfl rfl (by kernel_rfl) ?_
  unfold M.spec_l01Then at hM
  refine tr_start (ks := [0, 2]) (st' := [(0, .d (.sl a0.length 0 (a0.flatMap eI.b))), (2, .d (.sl a1.length 0 (a1.flatMap eI.b)))]) (by kernel_rfl) ?_
  refine tr_sr hT hm [] [0, 2] [(0, .d (.sl a0.length 0 (a0.flatMap eI.b))), (2, .d (.sl a1.length 0 (a1.flatMap eI.b)))] .nil (by kernel_rfl) (by kernel_rfl) ?_
  refine tr_sr hT hm [] [0, 2, 10, 2015] [(0, .d (.sl a0.length 0 (a0.flatMap eI.b))), (2, .d (.sl a1.length 0 (a1.flatMap eI.b))), (10, .d (.rs 1007 0 (([] : List Int).length))), (2015, .r (.arr 1 (([] : List Int).flatMap eI.o) []))] .nil (by kernel_rfl) (by kernel_rfl) ?_
  refine tr_seq ?_
  refine tr_sr hT hm [] [0, 2, 10, 12, 2015] [(0, .d (.sl a0.length 0 (a0.flatMap eI.b))), (2, .d (.sl a1.length 0 (a1.flatMap eI.b))), (10, .d (.rs 1007 0 (([] : List Int).length))), (12, .d (iv 0)), (2015, .r (.arr 1 (([] : List Int).flatMap eI.o) []))] .nil (by kernel_rfl) (by kernel_rfl) ?_
  refine tr_block ?_
  refine tr_iterS (fun (s1 : (List Int) × Int) => [(0, .d (.sl a0.length 0 (a0.flatMap eI.b))), (2, .d (.sl a1.length 0 (a1.flatMap eI.b))), (10, .d (.rs 1007 0 s1.1.length)), (12, .d (iv s1.2)), (2015, .r (.arr 1 (s1.1.flatMap eI.o) []))]) (([] : List Int), 0) [0, 2, 10, 12, 2015] (by kernel_rfl) hM ?_
  intro n4 next2 ih3 s1 hM
  refine tr_seq ?_
  refine tr_sr hT hm [] [0, 2, 10, 12, 22, 2015] [(0, .d (.sl a0.length 0 (a0.flatMap eI.b))), (2, .d (.sl a1.length 0 (a1.flatMap eI.b))), (10, .d (.rs 1007 0 s1.1.length)), (12, .d (iv s1.2)), (22, .d (bv (decide (s1.2 < (a0.length : Int))))), (2015, .r (.arr 1 (s1.1.flatMap eI.o) []))] .nil (by kernel_rfl) (by kernel_rfl) ?_
  rcases Bool.eq_false_or_eq_true (decide (s1.2 < (a0.length : Int))) with h5 | h5
  · have hM := ite_true' hM h5
    refine tr_condTe (e := decide (s1.2 < (a0.length : Int))) h5 (by kernel_rfl) ?_
    refine tr_skip (q_n ?_)
    refine tr_seq ?_
    refine tr_block ?_
    obtain ⟨y6, hy6, hM⟩ := bind_some' hM
    have hy6' := idx_some hy6
    obtain ⟨y7, hy7, hM⟩ := bind_some' hM
    have hy7' := idx_some hy7
    obtain ⟨h8, hM⟩ := chk_some hM
    refine tr_r hT hm [(5, .val (iv y6)), (7, .val (iv y7)), (9, .app true)] [0, 2, 10, 12, 2047] [(0, .d (.sl a0.length 0 (a0.flatMap eI.b))), (2, .d (.sl a1.length 0 (a1.flatMap eI.b))), (10, .d (.rs 1023 0 (s1.1.length + (([y7] : List Int).length)))), (12, .d (iv s1.2)), (2047, .r (.arr 1 (s1.1.flatMap eI.o ++ ([y7] : List Int).flatMap eI.o) []))] (.cons hy6'.1 (.cons hy6'.2.1 (.cons (at_b0 eI_ok hy6'.2.2 (d := iv y6) (by kernel_rfl)) (.cons hy7'.1 (.cons hy7'.2.1 (.cons (at_b0 eI_ok hy7'.2.2 (d := iv y7) (by kernel_rfl)) (.cons (lenO_flat eI_ok s1.1) (.cons (lenO_flat eI_ok ([y7] : List Int)) (.cons h8 .nil))))))))) (by kernel_rfl) (by kernel_rfl) (b_n (q_n ?_))
    refine Tr.by (imp_cvE (r := 1023) (sz := 1) (refs := []) (flat_app eI.o s1.1 ([y7] : List Int)) (menO_flat eI_ok _) (by kernel_rfl)) ?_
    refine Tr.by (imp_cvD (k := 10) (congrArg (D.rs 1023 0) ((len_app s1.1 ([y7] : List Int)) : s1.1.length + (([y7] : List Int).length) = (s1.1 ++ ([y7] : List Int)).length)) (by kernel_rfl)) ?_
    refine tr_r hT hm [] [0, 2, 10, 12, 2047] [(0, .d (.sl a0.length 0 (a0.flatMap eI.b))), (2, .d (.sl a1.length 0 (a1.flatMap eI.b))), (10, .d (.rs 1023 0 ((s1.1 ++ ([y7] : List Int)).length))), (12, .d (iv (IntKind.i64.wrap (s1.2 + 1)))), (2047, .r (.arr 1 ((s1.1 ++ ([y7] : List Int)).flatMap eI.o) []))] .nil (by kernel_rfl) (by kernel_rfl) (l_n ?_)
    refine TrL.by (imp_sel (ks := [0, 2, 10, 12, 2047]) (st' := [(0, .d (.sl a0.length 0 (a0.flatMap eI.b))), (2, .d (.sl a1.length 0 (a1.flatMap eI.b))), (10, .d (.rs 1023 0 ((s1.1 ++ ([y7] : List Int)).length))), (12, .d (iv (IntKind.i64.wrap (s1.2 + 1)))), (2047, .r (.arr 1 ((s1.1 ++ ([y7] : List Int)).flatMap eI.o) []))]) (by kernel_rfl)) ?_
    refine TrL.by (imp_rename (r := 1023) (q := 1007) (by kernel_rfl) (Nat.le_of_ble_eq_true rfl)) ?_
    exact trl_start (ks := [0, 2, 10, 12, 2015]) (by kernel_rfl) (ih3 (s1.1 ++ ([y7] : List Int), IntKind.i64.wrap (s1.2 + 1)) hM)
  · have hM := ite_false' hM h5
    refine tr_condFe (e := decide (s1.2 < (a0.length : Int))) h5 (by kernel_rfl) ?_
    refine tr_exit (q_x (l_x (b_h (q_n ?_))))
    refine tr_sr hT hm [] [8, 2015] [(8, .d (.rs 1007 0 s1.1.length)), (2015, .r (.arr 1 (s1.1.flatMap eI.o) []))] .nil (by kernel_rfl) (by kernel_rfl) ?_
    refine tr_ret (rg_r ?_)
    obtain rfl := Option.some.inj hM
    exact retg (names := []) (.cons (lenO_flat eI_ok s1.1) .nil) (by kernel_rfl)

theorem ok83 : CallOk Try.prog 83 := callOk_of Try.func83 (by kernel_rfl) (by kernel_rfl)
theorem spec_l06Then_c (a0 : XFunctor) (a1 : XFunctor) (r : XFunctor) (hM : M.spec_l06Then a0 a1 = some r) :
    FnC Try.prog 83 [] [.agg (eXFunctor.b a0), .agg (eXFunctor.b a1)] [] (.agg (eXFunctor.o r)) := by
  refine fnc_startG (N := 20) (np := 500) hT Try.func83 rfl rfl (by kernel_rfl) ?_
  unfold M.spec_l06Then at hM
  refine tr_start (ks := [0, 2]) (st' := [(0, .d (.agg (eXFunctor.b a0))), (2, .d (.agg (eXFunctor.b a1)))]) (by kernel_rfl) ?_
  refine tr_sr hT hm [] [4, 6, 8, 2005, 2007, 2009] [(4, .d (.rp 1002 0)), (6, .d (.rp 1003 0)), (8, .d (.rp 1004 0)), bxB 2005 (eXFunctor.b a0), bxB 2007 (eXFunctor.b a1), (2009, .r (.arr 1 [iv 0, nilv, nilv, nilv, nilv, iv 0, nilv, nilv, nilv, nilv, nilv, nilv] []))] .nil (by kernel_rfl) (by kernel_rfl) ?_
  obtain ⟨v1, hv1, hM⟩ := bind_some' hM
  obtain ⟨v2, hv2, hM⟩ := bind_some' hM
  obtain ⟨v3, hv3, hM⟩ := bind_some' hM
  refine tr_sr hT hm [(8, .call [] [] [.sl a0.Objects.length 0 (a0.Objects.flatMap eI.b), .sl a1.Objects.length 0 (a1.Objects.flatMap eI.b)] [] (.fr 1 v1.length (v1.flatMap eI.o))), (13, .call [] [] [.sl a0.Arrows.length 0 (a0.Arrows.flatMap eI.b), .sl a1.Arrows.length 0 (a1.Arrows.flatMap eI.b)] [] (.fr 1 v2.length (v2.flatMap eI.o))), (14, .call [15000, 20000] [] [.agg (eXCategory.b a0.Source), .agg (eXCategory.b a1.Target), .sl v1.length 0 (v1.flatMap eI.b), .sl v2.length 0 (v2.flatMap eI.b)] [] (.agg (eXFunctor.o v3)))] [8, 2009, 42003, 42005, 42007, 42009, 42013, 42015, 42017, 42019, 42021, 42023] ([(8, .d (.rp 1004 0)), bxO 2009 21000 (eXFunctor.o v3)] ++ rsS 21000 (eXFunctor.o v3)) (cc0 ok111 (spec_l01Then_c a0.Objects a1.Objects _ hv1) (by kernel_rfl) (cc0 ok111 (spec_l01Then_c a0.Arrows a1.Arrows _ hv2) (by kernel_rfl) (cc (B := [15000, 20000]) (ρ := []) (rB := [(15000, .arr 1 (v1.flatMap eI.o) []), (20000, .arr 1 (v2.flatMap eI.o) [])]) ok82 (spec_l06Make_c a0.Source a1.Target v1 v2 _ hv3) (.cons (.same rfl) (.cons (.same rfl) (.cons (.of1 (.rs (r := 15000) (sz := 1) (refs := []) (memB (by kernel_rfl)) (by kernel_rfl) (bor_flat eI_ok _ _ _))) (.cons (.of1 (.rs (r := 20000) (sz := 1) (refs := []) (memB (by kernel_rfl)) (by kernel_rfl) (bor_flat eI_ok _ _ _))) .nil)))) (.inr ⟨(.agg (eXFunctor_nb _)), trivial⟩) (.cons (Nat.le_of_ble_eq_true (n := 12) (m := 12) rfl) .nil)))) (by kernel_rfl) (by kernel_rfl) ?_
  refine tr_ret (rg_r ?_)
  obtain rfl := Option.some.inj hM
  exact retg (names := []) (.cons (lenO_flat eI_ok v3.Source.From) (.cons (lenO_flat eI_ok v3.Source.To) (.cons (lenO_flat eI_ok v3.Source.Identity) (.cons (lenO_flat (eS_ok eI_ok) v3.Source.Composites) (.cons (lenO_flat eI_ok v3.Target.From) (.cons (lenO_flat eI_ok v3.Target.To) (.cons (lenO_flat eI_ok v3.Target.Identity) (.cons (lenO_flat (eS_ok eI_ok) v3.Target.Composites) (.cons (lenO_flat eI_ok v3.Objects) (.cons (lenO_flat eI_ok v3.Arrows) .nil)))))))))) (by kernel_rfl)

theorem ok90 : CallOk Try.prog 90 := callOk_of Try.func90 (by kernel_rfl) (by kernel_rfl)
theorem impl_then_c (a0 : List Int) (a1 : List Int) (r : (List Int)) (hM : M.impl_then a0 a1 = some r) :
    FnC Try.prog 90 [] [.sl a0.length 0 (a0.flatMap eI.b), .sl a1.length 0 (a1.flatMap eI.b)] [] (.fr 1 r.length (r.flatMap eI.o)) := by
  refine fnc_startG (N := 27) (np := 500) hT Try.func90 rfl rfl (by kernel_rfl) ?_
  unfold M.impl_then at hM
  refine tr_start (ks := [0, 2]) (st' := [(0, .d (.sl a0.length 0 (a0.flatMap eI.b))), (2, .d (.sl a1.length 0 (a1.flatMap eI.b)))]) (by kernel_rfl) ?_
  refine tr_sr hT hm [] [0, 2] [(0, .d (.sl a0.length 0 (a0.flatMap eI.b))), (2, .d (.sl a1.length 0 (a1.flatMap eI.b)))] .nil (by kernel_rfl) (by kernel_rfl) ?_
  obtain ⟨h1, hM⟩ := chk_some hM
  refine tr_sr hT hm [] [0, 2, 10, 2021] [(0, .d (.sl a0.length 0 (a0.flatMap eI.b))), (2, .d (.sl a1.length 0 (a1.flatMap eI.b))), (10, .d (.rs 1010 0 ((a0.length : Int).toNat))), (2021, .r (.arr 1 (repl (a0.length : Int).toNat [.int .i64 0]) []))] (.cons h1.1 (.cons (Int.le_refl (a0.length : Int)) (.cons h1.2 .nil))) (by kernel_rfl) (by kernel_rfl) ?_
  refine Tr.by (imp_cvE (r := 1010) (sz := 1) (refs := []) (repl_flat (f := eI.o) (zs := [.int .i64 0]) (z := (0 : Int)) rfl (a0.length : Int).toNat) (menO_flat eI_ok _) (by kernel_rfl)) ?_
  refine Tr.by (imp_cvD (k := 10) (congrArg (D.rs 1010 0) (List.length_replicate.symm : (a0.length : Int).toNat = (List.replicate (a0.length : Int).toNat (0 : Int)).length)) (by kernel_rfl)) ?_
  refine tr_seq ?_
  refine tr_sr hT hm [] [2, 10, 22, 24, 26, 2021] [(2, .d (.sl a1.length 0 (a1.flatMap eI.b))), (10, .d (.rs 1010 0 ((List.replicate (a0.length : Int).toNat (0 : Int)).length))), (22, .d (.sl a0.length 0 (a0.flatMap eI.b))), (24, .d (iv (a0.length : Int))), (26, .d (iv 0)), (2021, .r (.arr 1 ((List.replicate (a0.length : Int).toNat (0 : Int)).flatMap eI.o) []))] .nil (by kernel_rfl) (by kernel_rfl) ?_
  refine tr_block ?_
  refine tr_iterS (fun (s2 : (List Int) × Int) => [(2, .d (.sl a1.length 0 (a1.flatMap eI.b))), (10, .d (.rs 1010 0 s2.1.length)), (22, .d (.sl a0.length 0 (a0.flatMap eI.b))), (24, .d (iv (a0.length : Int))), (26, .d (iv s2.2)), (2021, .r (.arr 1 (s2.1.flatMap eI.o) []))]) ((List.replicate (a0.length : Int).toNat (0 : Int)), 0) [2, 10, 22, 24, 26, 2021] (by kernel_rfl) hM ?_
  intro n5 next3 ih4 s2 hM
  refine tr_sr hT hm [] [2, 10, 22, 24, 26, 28, 2021] [(2, .d (.sl a1.length 0 (a1.flatMap eI.b))), (10, .d (.rs 1010 0 s2.1.length)), (22, .d (.sl a0.length 0 (a0.flatMap eI.b))), (24, .d (iv (a0.length : Int))), (26, .d (iv s2.2)), (28, .d (bv (decide (s2.2 < (a0.length : Int))))), (2021, .r (.arr 1 (s2.1.flatMap eI.o) []))] .nil (by kernel_rfl) (by kernel_rfl) ?_
  refine tr_seq ?_
  rcases Bool.eq_false_or_eq_true (decide (s2.2 < (a0.length : Int))) with h6 | h6
  · have hM := ite_true' hM h6
    refine tr_condTe (e := decide (s2.2 < (a0.length : Int))) h6 (by kernel_rfl) ?_
    refine tr_skip (q_n ?_)
    refine tr_seq ?_
    refine tr_block ?_
    obtain ⟨y7, hy7, hM⟩ := bind_some' hM
    have hy7' := idx_some hy7
    refine tr_sr hT hm [(2, .val (iv y7))] [2, 10, 12, 14, 22, 24, 26, 2021] [(2, .d (.sl a1.length 0 (a1.flatMap eI.b))), (10, .d (.rs 1010 0 s2.1.length)), (12, .d (iv s2.2)), (14, .d (iv y7)), (22, .d (.sl a0.length 0 (a0.flatMap eI.b))), (24, .d (iv (a0.length : Int))), (26, .d (iv s2.2)), (2021, .r (.arr 1 (s2.1.flatMap eI.o) []))] (.cons hy7'.1 (.cons hy7'.2.1 (.cons (at_b0 eI_ok hy7'.2.2 (d := iv y7) (by kernel_rfl)) .nil))) (by kernel_rfl) (by kernel_rfl) ?_
    obtain ⟨y8, hy8, hM⟩ := bind_some' hM
    have hy8' := idx_some hy8
    obtain ⟨y9, hy9, hM⟩ := bind_some' hM
    have hy9' := idx_some hy9
    refine tr_r hT hm [(5, .val (iv y8))] [2, 10, 22, 24, 26, 2021] [(2, .d (.sl a1.length 0 (a1.flatMap eI.b))), (10, .d (.rs 1010 0 s2.1.length)), (22, .d (.sl a0.length 0 (a0.flatMap eI.b))), (24, .d (iv (a0.length : Int))), (26, .d (iv s2.2)), (2021, .r (.arr 1 ((s2.1.flatMap eI.o).take (0 + s2.2.toNat * 1) ++ [iv y8] ++ (s2.1.flatMap eI.o).drop (0 + s2.2.toNat * 1 + 1)) []))] (.cons hy8'.1 (.cons hy8'.2.1 (.cons (at_b0 eI_ok hy8'.2.2 (d := iv y8) (by kernel_rfl)) (.cons hy9'.1 (.cons hy9'.2.1 (.cons (store_le eI_ok hy9'.2.2) .nil)))))) (by kernel_rfl) (by kernel_rfl) (b_n (q_n ?_))
    refine Tr.by (imp_cvE (r := 1010) (sz := 1) (refs := []) (set_flat eI_ok.lenO (y := y8) hy9'.2.2) (menO_flat eI_ok _) (by kernel_rfl)) ?_
    refine Tr.by (imp_cvD (k := 10) (congrArg (D.rs 1010 0) (List.length_set.symm : s2.1.length = (s2.1.set s2.2.toNat y8).length)) (by kernel_rfl)) ?_
    refine tr_r hT hm [] [2, 10, 22, 24, 26, 2021] [(2, .d (.sl a1.length 0 (a1.flatMap eI.b))), (10, .d (.rs 1010 0 ((s2.1.set s2.2.toNat y8).length))), (22, .d (.sl a0.length 0 (a0.flatMap eI.b))), (24, .d (iv (a0.length : Int))), (26, .d (iv (IntKind.i64.wrap (s2.2 + 1)))), (2021, .r (.arr 1 ((s2.1.set s2.2.toNat y8).flatMap eI.o) []))] .nil (by kernel_rfl) (by kernel_rfl) (l_n ?_)
    exact trl_start (ks := [2, 10, 22, 24, 26, 2021]) (by kernel_rfl) (ih4 (s2.1.set s2.2.toNat y8, IntKind.i64.wrap (s2.2 + 1)) hM)
  · have hM := ite_false' hM h6
    refine tr_condFe (e := decide (s2.2 < (a0.length : Int))) h6 (by kernel_rfl) ?_
    refine tr_exit (q_x (l_x (b_h (q_n ?_))))
    refine tr_sr hT hm [] [8, 2021] [(8, .d (.rs 1010 0 s2.1.length)), (2021, .r (.arr 1 (s2.1.flatMap eI.o) []))] .nil (by kernel_rfl) (by kernel_rfl) ?_
    refine tr_ret (rg_r ?_)
    obtain rfl := Option.some.inj hM
    exact retg (names := []) (.cons (lenO_flat eI_ok s2.1) .nil) (by kernel_rfl)

theorem ok55 : CallOk Try.prog 55 := callOk_of Try.func55 (by kernel_rfl) (by kernel_rfl)
theorem impl_Functor_then_c (a0 : XFunctor) (a1 : XFunctor) (r : XFunctor) (hM : M.impl_Functor_then a0 a1 = some r) :
    FnC Try.prog 55 [] [.pt (eXFunctor.b a0) 0, .pt (eXFunctor.b a1) 0] [] (.agg (eXFunctor.o r)) := by
  refine fnc_startG (N := 30) (np := 500) hT Try.func55 rfl rfl (by kernel_rfl) ?_
  unfold M.impl_Functor_then at hM
  refine tr_start (ks := [0, 2]) (st' := [(0, .d (.pt (eXFunctor.b a0) 0)), (2, .d (.pt (eXFunctor.b a1) 0))]) (by kernel_rfl) ?_
  refine tr_sr hT hm [] [0, 2, 8, 2009] [(0, .d (.pt (eXFunctor.b a0) 0)), (2, .d (.pt (eXFunctor.b a1) 0)), (8, .d (.rp 1004 0)), (2009, .r (.arr 1 [iv 0, nilv, nilv, nilv, nilv, iv 0, nilv, nilv, nilv, nilv, nilv, nilv] []))] .nil (by kernel_rfl) (by kernel_rfl) ?_
  obtain ⟨v1, hv1, hM⟩ := bind_some' hM
  obtain ⟨v2, hv2, hM⟩ := bind_some' hM
  obtain ⟨v3, hv3, hM⟩ := bind_some' hM
  refine tr_sr hT hm [(14, .call [] [] [.sl a0.Objects.length 0 (a0.Objects.flatMap eI.b), .sl a1.Objects.length 0 (a1.Objects.flatMap eI.b)] [] (.fr 1 v1.length (v1.flatMap eI.o))), (23, .call [] [] [.sl a0.Arrows.length 0 (a0.Arrows.flatMap eI.b), .sl a1.Arrows.length 0 (a1.Arrows.flatMap eI.b)] [] (.fr 1 v2.length (v2.flatMap eI.o))), (24, .call [21000, 30000] [] [.pt (eXCategory.b a0.Source) 0, .pt (eXCategory.b a1.Target) 0, .sl v1.length 0 (v1.flatMap eI.b), .sl v2.length 0 (v2.flatMap eI.b)] [] (.agg (eXFunctor.o v3)))] [8, 2009, 62003, 62005, 62007, 62009, 62013, 62015, 62017, 62019, 62021, 62023] ([(8, .d (.rp 1004 0)), bxO 2009 31000 (eXFunctor.o v3)] ++ rsS 31000 (eXFunctor.o v3)) (cc0 ok90 (impl_then_c a0.Objects a1.Objects _ hv1) (by kernel_rfl) (cc0 ok90 (impl_then_c a0.Arrows a1.Arrows _ hv2) (by kernel_rfl) (cc (B := [21000, 30000]) (ρ := []) (rB := [(21000, .arr 1 (v1.flatMap eI.o) []), (30000, .arr 1 (v2.flatMap eI.o) [])]) ok88 (impl_functor_c a0.Source a1.Target v1 v2 _ hv3) (.cons (.pass (.ptk (ds := eXFunctor.b a0) (ds' := eXCategory.b a0.Source) (off := 0) (n := 5) (by kernel_rfl) (by kernel_rfl) (by kernel_rfl))) (.cons (.pass (.ptk (ds := eXFunctor.b a1) (ds' := eXCategory.b a1.Target) (off := 5) (n := 5) (by kernel_rfl) (by kernel_rfl) (by kernel_rfl))) (.cons (.of1 (.rs (r := 21000) (sz := 1) (refs := []) (memB (by kernel_rfl)) (by kernel_rfl) (bor_flat eI_ok _ _ _))) (.cons (.of1 (.rs (r := 30000) (sz := 1) (refs := []) (memB (by kernel_rfl)) (by kernel_rfl) (bor_flat eI_ok _ _ _))) .nil)))) (.inr ⟨(.agg (eXFunctor_nb _)), trivial⟩) (.cons (Nat.le_of_ble_eq_true (n := 12) (m := 12) rfl) .nil)))) (by kernel_rfl) (by kernel_rfl) ?_
  refine tr_ret (rg_r ?_)
  obtain rfl := Option.some.inj hM
  exact retg (names := []) (.cons (lenO_flat eI_ok v3.Source.From) (.cons (lenO_flat eI_ok v3.Source.To) (.cons (lenO_flat eI_ok v3.Source.Identity) (.cons (lenO_flat (eS_ok eI_ok) v3.Source.Composites) (.cons (lenO_flat eI_ok v3.Target.From) (.cons (lenO_flat eI_ok v3.Target.To) (.cons (lenO_flat eI_ok v3.Target.Identity) (.cons (lenO_flat (eS_ok eI_ok) v3.Target.Composites) (.cons (lenO_flat eI_ok v3.Objects) (.cons (lenO_flat eI_ok v3.Arrows) .nil)))))))))) (by kernel_rfl)

end Go.Proofs.Ytfihadfjmbfpgaa.WvH
