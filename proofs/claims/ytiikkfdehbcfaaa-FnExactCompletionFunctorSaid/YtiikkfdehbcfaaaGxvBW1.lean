/- Walks. Printed by wip/gen. -/
import Derived.Test.YtiikkfdehbcfaaaGxvBW0
namespace Go.Proofs.Ytiikkfdehbcfaaa.WvB
open Go.Gx

theorem ok87 : CallOk Try.prog 87 := callOk_of Try.func87 (by kernel_rfl) (by kernel_rfl)
theorem spec_l01Own_c (a0 : List Int) (r : (List Int)) (hM : M.spec_l01Own a0 = some r) :
    FnC Try.prog 87 [] [.sl a0.length 0 (a0.flatMap eI.b)] [] (.fr 1 r.length (r.flatMap eI.o)) := by
  refine fnc_startG (N := 6) (np := 500) hT Try.func87 rfl rfl (by kernel_rfl) ?_
  unfold M.spec_l01Own at hM
  refine tr_start (ks := [0]) (st' := [(0, .d (.sl a0.length 0 (a0.flatMap eI.b)))]) (by kernel_rfl) ?_
  refine tr_sr hT hm [] [0] [(0, .d (.sl a0.length 0 (a0.flatMap eI.b)))] .nil (by kernel_rfl) (by kernel_rfl) ?_
  obtain ⟨h1, hM⟩ := chk_some hM
  refine tr_sr hT hm [(2, .app false)] [4, 2011] [(4, .d (.rs 1005 0 (([] : List Int).length + a0.length))), (2011, .r (.arr 1 (([] : List Int).flatMap eI.o ++ ((a0.flatMap eI.b).drop 0).take (a0.length * 1)) []))] (.cons (lenO_flat eI_ok ([] : List Int)) (.cons (len_take eI_ok.lenB a0) (.cons h1 .nil))) (by kernel_rfl) (by kernel_rfl) ?_
  refine Tr.by (imp_cvE (r := 1005) (sz := 1) (refs := []) (app_take eI_ok.lenB (fun _ => rfl) ([] : List Int) a0) (menO_flat eI_ok _) (by kernel_rfl)) ?_
  refine Tr.by (imp_cvD (k := 4) (congrArg (D.rs 1005 0) ((len_app ([] : List Int) a0) : ([] : List Int).length + a0.length = (([] : List Int) ++ a0).length)) (by kernel_rfl)) ?_
  refine tr_ret (rg_r ?_)
  obtain rfl := Option.some.inj hM
  exact retg (names := []) (.cons (lenO_flat eI_ok (([] : List Int) ++ a0)) .nil) (by kernel_rfl)

theorem ok88 : CallOk Try.prog 88 := callOk_of Try.func88 (by kernel_rfl) (by kernel_rfl)
theorem spec_l01Own2_c (a0 : List (List Int)) (r : (List (List Int))) (hM : M.spec_l01Own2 a0 = some r) :
    FnC Try.prog 88 [] [.sl a0.length 0 (a0.flatMap (eS eI).b)] [] (.fr 1 r.length (r.flatMap (eS eI).o)) := by
  refine fnc_startG (N := 21) (np := 500) hT Try.func88 rfl rfl (by kernel_rfl) ?_
  unfold M.spec_l01Own2 at hM
  refine tr_start (ks := [0]) (st' := [(0, .d (.sl a0.length 0 (a0.flatMap (eS eI).b)))]) (by kernel_rfl) ?_
  refine tr_sr hT hm [] [0] [(0, .d (.sl a0.length 0 (a0.flatMap (eS eI).b)))] .nil (by kernel_rfl) (by kernel_rfl) ?_
  refine tr_sr hT hm [] [0, 6, 2011] [(0, .d (.sl a0.length 0 (a0.flatMap (eS eI).b))), (6, .d (.rs 1005 0 (([] : List (List Int)).length))), (2011, .r (.arr 1 (([] : List (List Int)).flatMap (eS eI).o) []))] .nil (by kernel_rfl) (by kernel_rfl) ?_
  refine tr_seq ?_
  refine tr_sr hT hm [] [0, 6, 8, 2011] [(0, .d (.sl a0.length 0 (a0.flatMap (eS eI).b))), (6, .d (.rs 1005 0 (([] : List (List Int)).length))), (8, .d (iv 0)), (2011, .r (.arr 1 (([] : List (List Int)).flatMap (eS eI).o) []))] .nil (by kernel_rfl) (by kernel_rfl) ?_
  refine tr_block ?_
  refine tr_iterS (fun (s1 : (List (List Int)) × Int) => [(0, .d (.sl a0.length 0 (a0.flatMap (eS eI).b))), (6, .d (.rs 1005 0 s1.1.length)), (8, .d (iv s1.2)), (2011, .r (.arr 1 (s1.1.flatMap (eS eI).o) []))]) (([] : List (List Int)), 0) [0, 6, 8, 2011] (by kernel_rfl) hM ?_
  intro n4 next2 ih3 s1 hM
  refine tr_seq ?_
  refine tr_sr hT hm [] [0, 6, 8, 18, 2011] [(0, .d (.sl a0.length 0 (a0.flatMap (eS eI).b))), (6, .d (.rs 1005 0 s1.1.length)), (8, .d (iv s1.2)), (18, .d (bv (decide (s1.2 < (a0.length : Int))))), (2011, .r (.arr 1 (s1.1.flatMap (eS eI).o) []))] .nil (by kernel_rfl) (by kernel_rfl) ?_
  rcases Bool.eq_false_or_eq_true (decide (s1.2 < (a0.length : Int))) with h5 | h5
  · have hM := ite_true' hM h5
    refine tr_condTe (e := decide (s1.2 < (a0.length : Int))) h5 (by kernel_rfl) ?_
    refine tr_skip (q_n ?_)
    refine tr_seq ?_
    refine tr_block ?_
    obtain ⟨y6, hy6, hM⟩ := bind_some' hM
    have hy6' := idx_some hy6
    obtain ⟨v7, hv7, hM⟩ := bind_some' hM
    obtain ⟨h8, hM⟩ := chk_some hM
    refine tr_r hT hm [(4, .val (.sl y6.length 0 (y6.flatMap eI.b))), (5, .call [] [] [.sl y6.length 0 (y6.flatMap eI.b)] [] (.fr 1 v7.length (v7.flatMap eI.o))), (7, .app true)] [0, 6, 8, 2039, 38001] [(0, .d (.sl a0.length 0 (a0.flatMap (eS eI).b))), (6, .d (.rs 1019 0 (s1.1.length + 1))), (8, .d (iv s1.2)), (2039, .r (.arr 1 (s1.1.flatMap (eS eI).o ++ [.rs 19000 0 v7.length]) [19000])), (38001, .r (.arr 1 (v7.flatMap eI.o) []))] (.cons hy6'.1 (.cons hy6'.2.1 (.cons (at_b0 (eS_ok eI_ok) hy6'.2.2 (d := .sl y6.length 0 (y6.flatMap eI.b)) (by kernel_rfl)) (cc0 ok87 (spec_l01Own_c y6 _ hv7) (by kernel_rfl) (.cons (lenO_flat (eS_ok eI_ok) s1.1) (.cons (by kernel_rfl : ([.rs 19000 0 v7.length] : List D).length = 1 * 1) (.cons h8 .nil))))))) (by kernel_rfl) (by kernel_rfl) (b_n (q_n ?_))
    refine Tr.by (imp_demE (r := 1019) (q := 19000) (sz := 1) (n := v7.length) (j := 0) (pre := s1.1.flatMap (eS eI).o) (l := [.rs 19000 0 v7.length]) (refs := [19000]) (refs' := []) (menO_flat (eS_ok eI_ok) _) (lenO_flat eI_ok v7) (by kernel_rfl) (by kernel_rfl) (by kernel_rfl) (by kernel_rfl) (by kernel_rfl)) ?_
    refine Tr.by (imp_cvE (r := 1019) (sz := 1) (refs := []) (flat_snoc (eS eI).o s1.1 v7) (menO_flat (eS_ok eI_ok) _) (by kernel_rfl)) ?_
    refine Tr.by (imp_cvD (k := 6) (congrArg (D.rs 1019 0) ((len_snoc s1.1 v7) : s1.1.length + 1 = (s1.1 ++ [v7]).length)) (by kernel_rfl)) ?_
    refine tr_r hT hm [] [0, 6, 8, 2039] [(0, .d (.sl a0.length 0 (a0.flatMap (eS eI).b))), (6, .d (.rs 1019 0 ((s1.1 ++ [v7]).length))), (8, .d (iv (IntKind.i64.wrap (s1.2 + 1)))), (2039, .r (.arr 1 ((s1.1 ++ [v7]).flatMap (eS eI).o) []))] .nil (by kernel_rfl) (by kernel_rfl) (l_n ?_)
    refine TrL.by (imp_sel (ks := [0, 6, 8, 2039]) (st' := [(0, .d (.sl a0.length 0 (a0.flatMap (eS eI).b))), (6, .d (.rs 1019 0 ((s1.1 ++ [v7]).length))), (8, .d (iv (IntKind.i64.wrap (s1.2 + 1)))), (2039, .r (.arr 1 ((s1.1 ++ [v7]).flatMap (eS eI).o) []))]) (by kernel_rfl)) ?_
    refine TrL.by (imp_rename (r := 1019) (q := 1005) (by kernel_rfl) (Nat.le_of_ble_eq_true rfl)) ?_
    exact trl_start (ks := [0, 6, 8, 2011]) (by kernel_rfl) (ih3 (s1.1 ++ [v7], IntKind.i64.wrap (s1.2 + 1)) hM)
  · have hM := ite_false' hM h5
    refine tr_condFe (e := decide (s1.2 < (a0.length : Int))) h5 (by kernel_rfl) ?_
    refine tr_exit (q_x (l_x (b_h (q_n ?_))))
    refine tr_sr hT hm [] [4, 2011] [(4, .d (.rs 1005 0 s1.1.length)), (2011, .r (.arr 1 (s1.1.flatMap (eS eI).o) []))] .nil (by kernel_rfl) (by kernel_rfl) ?_
    refine tr_ret (rg_r ?_)
    obtain rfl := Option.some.inj hM
    exact retg (names := []) (.cons (lenO_flat (eS_ok eI_ok) s1.1) .nil) (by kernel_rfl)

theorem ok182 : CallOk Try.prog 182 := callOk_of Try.func182 (by kernel_rfl) (by kernel_rfl)
theorem spec_l02Own_c (a0 : XCategory) (r : XCategory) (hM : M.spec_l02Own a0 = some r) :
    FnC Try.prog 182 [] [.agg (eXCategory.b a0)] [] (.agg (eXCategory.o r)) := by
  refine fnc_startG (N := 18) (np := 500) hT Try.func182 rfl rfl (by kernel_rfl) ?_
  unfold M.spec_l02Own at hM
  refine tr_start (ks := [0]) (st' := [(0, .d (.agg (eXCategory.b a0)))]) (by kernel_rfl) ?_
  refine tr_sr hT hm [] [2, 4, 2003, 2005] [(2, .d (.rp 1001 0)), (4, .d (.rp 1002 0)), bxB 2003 (eXCategory.b a0), (2005, .r (.arr 1 [iv 0, nilv, nilv, nilv, nilv] []))] .nil (by kernel_rfl) (by kernel_rfl) ?_
  obtain ⟨v1, hv1, hM⟩ := bind_some' hM
  obtain ⟨v2, hv2, hM⟩ := bind_some' hM
  obtain ⟨v3, hv3, hM⟩ := bind_some' hM
  obtain ⟨v4, hv4, hM⟩ := bind_some' hM
  refine tr_sr hT hm [(4, .call [] [] [.sl a0.From.length 0 (a0.From.flatMap eI.b)] [] (.fr 1 v1.length (v1.flatMap eI.o))), (7, .call [] [] [.sl a0.To.length 0 (a0.To.flatMap eI.b)] [] (.fr 1 v2.length (v2.flatMap eI.o))), (10, .call [] [] [.sl a0.Identity.length 0 (a0.Identity.flatMap eI.b)] [] (.fr 1 v3.length (v3.flatMap eI.o))), (13, .call [] [] [.sl a0.Composites.length 0 (a0.Composites.flatMap (eS eI).b)] [] (.fr 1 v4.length (v4.flatMap (eS eI).o)))] [4, 2005, 18001, 24001, 30001, 36001] [(4, .d (.rp 1002 0)), (2005, .r (.arr 1 [iv a0.Objects, .rs 9000 0 v1.length, .rs 12000 0 v2.length, .rs 15000 0 v3.length, .rs 18000 0 v4.length] [9000, 12000, 15000, 18000])), (18001, .r (.arr 1 (v1.flatMap eI.o) [])), (24001, .r (.arr 1 (v2.flatMap eI.o) [])), (30001, .r (.arr 1 (v3.flatMap eI.o) [])), (36001, .r (.arr 1 (v4.flatMap (eS eI).o) []))] (cc0 ok87 (spec_l01Own_c a0.From _ hv1) (by kernel_rfl) (cc0 ok87 (spec_l01Own_c a0.To _ hv2) (by kernel_rfl) (cc0 ok87 (spec_l01Own_c a0.Identity _ hv3) (by kernel_rfl) (cc0 ok88 (spec_l01Own2_c a0.Composites _ hv4) (by kernel_rfl) (.cons (Nat.le_of_ble_eq_true (n := 5) (m := 5) rfl) .nil))))) (by kernel_rfl) (by kernel_rfl) ?_
  refine tr_ret (rg_r ?_)
  obtain rfl := Option.some.inj hM
  exact retg (names := []) (.cons (lenO_flat eI_ok v1) (.cons (lenO_flat eI_ok v2) (.cons (lenO_flat eI_ok v3) (.cons (lenO_flat (eS_ok eI_ok) v4) .nil)))) (by kernel_rfl)

theorem ok102 : CallOk Try.prog 102 := callOk_of Try.func102 (by kernel_rfl) (by kernel_rfl)
theorem spec_l06Make_c (a0 : XCategory) (a1 : XCategory) (a2 : List Int) (a3 : List Int) (r : XFunctor) (hM : M.spec_l06Make a0 a1 a2 a3 = some r) :
    FnC Try.prog 102 [] [.agg (eXCategory.b a0), .agg (eXCategory.b a1), .sl a2.length 0 (a2.flatMap eI.b), .sl a3.length 0 (a3.flatMap eI.b)] [] (.agg (eXFunctor.o r)) := by
  refine fnc_startG (N := 18) (np := 500) hT Try.func102 rfl rfl (by kernel_rfl) ?_
  unfold M.spec_l06Make at hM
  refine tr_start (ks := [0, 2, 4, 6]) (st' := [(0, .d (.agg (eXCategory.b a0))), (2, .d (.agg (eXCategory.b a1))), (4, .d (.sl a2.length 0 (a2.flatMap eI.b))), (6, .d (.sl a3.length 0 (a3.flatMap eI.b)))]) (by kernel_rfl) ?_
  refine tr_sr hT hm [] [4, 6, 8, 10, 16, 2009, 2011, 2017] [(4, .d (.sl a2.length 0 (a2.flatMap eI.b))), (6, .d (.sl a3.length 0 (a3.flatMap eI.b))), (8, .d (.rp 1004 0)), (10, .d (.rp 1005 0)), (16, .d (.rp 1008 0)), bxB 2009 (eXCategory.b a0), bxB 2011 (eXCategory.b a1), (2017, .r (.arr 1 [iv 0, nilv, nilv, nilv, nilv, iv 0, nilv, nilv, nilv, nilv, nilv, nilv] []))] .nil (by kernel_rfl) (by kernel_rfl) ?_
  obtain ⟨v1, hv1, hM⟩ := bind_some' hM
  obtain ⟨v2, hv2, hM⟩ := bind_some' hM
  obtain ⟨v3, hv3, hM⟩ := bind_some' hM
  obtain ⟨v4, hv4, hM⟩ := bind_some' hM
  refine tr_sr hT hm [(1, .call [] [] [.agg (eXCategory.b a0)] [] (.agg (eXCategory.o v1))), (3, .call [] [] [.agg (eXCategory.b a1)] [] (.agg (eXCategory.o v2))), (5, .call [] [] [.sl a2.length 0 (a2.flatMap eI.b)] [] (.fr 1 v3.length (v3.flatMap eI.o))), (7, .call [] [] [.sl a3.length 0 (a3.flatMap eI.b)] [] (.fr 1 v4.length (v4.flatMap eI.o)))] [16, 2017, 24003, 24005, 24007, 24009, 28003, 28005, 28007, 28009, 32001, 36001] ([(16, .d (.rp 1008 0)), (2017, .r (.arr 1 [iv v1.Objects, .rs 12001 0 v1.From.length, .rs 12002 0 v1.To.length, .rs 12003 0 v1.Identity.length, .rs 12004 0 v1.Composites.length, iv v2.Objects, .rs 14001 0 v2.From.length, .rs 14002 0 v2.To.length, .rs 14003 0 v2.Identity.length, .rs 14004 0 v2.Composites.length, .rs 16000 0 v3.length, .rs 18000 0 v4.length] [12001, 12002, 12003, 12004, 14001, 14002, 14003, 14004, 16000, 18000]))] ++ rsS 12000 (eXCategory.o v1) ++ rsS 14000 (eXCategory.o v2) ++ [(32001, .r (.arr 1 (v3.flatMap eI.o) [])), (36001, .r (.arr 1 (v4.flatMap eI.o) []))]) (cc0 ok182 (spec_l02Own_c a0 _ hv1) (by kernel_rfl) (cc0 ok182 (spec_l02Own_c a1 _ hv2) (by kernel_rfl) (cc0 ok87 (spec_l01Own_c a2 _ hv3) (by kernel_rfl) (cc0 ok87 (spec_l01Own_c a3 _ hv4) (by kernel_rfl) (.cons (Nat.le_of_ble_eq_true (n := 12) (m := 12) rfl) .nil))))) (by kernel_rfl) (by kernel_rfl) ?_
  refine tr_ret (rg_r ?_)
  obtain rfl := Option.some.inj hM
  exact retg (names := []) (.cons (lenO_flat eI_ok v1.From) (.cons (lenO_flat eI_ok v1.To) (.cons (lenO_flat eI_ok v1.Identity) (.cons (lenO_flat (eS_ok eI_ok) v1.Composites) (.cons (lenO_flat eI_ok v2.From) (.cons (lenO_flat eI_ok v2.To) (.cons (lenO_flat eI_ok v2.Identity) (.cons (lenO_flat (eS_ok eI_ok) v2.Composites) (.cons (lenO_flat eI_ok v3) (.cons (lenO_flat eI_ok v4) .nil)))))))))) (by kernel_rfl)

theorem ok28 : CallOk Try.prog 28 := callOk_of Try.func28 (by kernel_rfl) (by kernel_rfl)
theorem laws_toInt64S_c (a0 : List Int) (r : (List Int)) (hM : M.laws_toInt64S a0 = some r) :
    FnC Try.prog 28 [] [.sl a0.length 0 (a0.flatMap eI.b)] [] (.fr 1 r.length (r.flatMap eI.o)) := by
  refine fnc_startG (N := 22) (np := 500) hT Try.func28 rfl rfl (by kernel_rfl) ?_
  unfold M.laws_toInt64S at hM
  refine tr_start (ks := [0]) (st' := [(0, .d (.sl a0.length 0 (a0.flatMap eI.b)))]) (by kernel_rfl) ?_
  refine tr_sr hT hm [] [0] [(0, .d (.sl a0.length 0 (a0.flatMap eI.b)))] .nil (by kernel_rfl) (by kernel_rfl) ?_
  obtain ⟨h1, hM⟩ := chk_some hM
  refine tr_sr hT hm [] [0, 6, 2015] [(0, .d (.sl a0.length 0 (a0.flatMap eI.b))), (6, .d (.rs 1007 0 ((a0.length : Int).toNat))), (2015, .r (.arr 1 (repl (a0.length : Int).toNat [.int .i64 0]) []))] (.cons h1.1 (.cons (Int.le_refl (a0.length : Int)) (.cons h1.2 .nil))) (by kernel_rfl) (by kernel_rfl) ?_
  refine Tr.by (imp_cvE (r := 1007) (sz := 1) (refs := []) (repl_flat (f := eI.o) (zs := [.int .i64 0]) (z := (0 : Int)) rfl (a0.length : Int).toNat) (menO_flat eI_ok _) (by kernel_rfl)) ?_
  refine Tr.by (imp_cvD (k := 6) (congrArg (D.rs 1007 0) (List.length_replicate.symm : (a0.length : Int).toNat = (List.replicate (a0.length : Int).toNat (0 : Int)).length)) (by kernel_rfl)) ?_
  refine tr_seq ?_
  refine tr_sr hT hm [] [0, 6, 8, 2015] [(0, .d (.sl a0.length 0 (a0.flatMap eI.b))), (6, .d (.rs 1007 0 ((List.replicate (a0.length : Int).toNat (0 : Int)).length))), (8, .d (iv 0)), (2015, .r (.arr 1 ((List.replicate (a0.length : Int).toNat (0 : Int)).flatMap eI.o) []))] .nil (by kernel_rfl) (by kernel_rfl) ?_
  refine tr_block ?_
  refine tr_iterS (fun (s2 : (List Int) × Int) => [(0, .d (.sl a0.length 0 (a0.flatMap eI.b))), (6, .d (.rs 1007 0 s2.1.length)), (8, .d (iv s2.2)), (2015, .r (.arr 1 (s2.1.flatMap eI.o) []))]) ((List.replicate (a0.length : Int).toNat (0 : Int)), 0) [0, 6, 8, 2015] (by kernel_rfl) hM ?_
  intro n5 next3 ih4 s2 hM
  refine tr_seq ?_
  refine tr_sr hT hm [] [0, 6, 8, 22, 2015] [(0, .d (.sl a0.length 0 (a0.flatMap eI.b))), (6, .d (.rs 1007 0 s2.1.length)), (8, .d (iv s2.2)), (22, .d (bv (decide (s2.2 < (a0.length : Int))))), (2015, .r (.arr 1 (s2.1.flatMap eI.o) []))] .nil (by kernel_rfl) (by kernel_rfl) ?_
  rcases Bool.eq_false_or_eq_true (decide (s2.2 < (a0.length : Int))) with h6 | h6
  · have hM := ite_true' hM h6
    refine tr_condTe (e := decide (s2.2 < (a0.length : Int))) h6 (by kernel_rfl) ?_
    refine tr_skip (q_n ?_)
    refine tr_seq ?_
    refine tr_block ?_
    obtain ⟨y7, hy7, hM⟩ := bind_some' hM
    have hy7' := idx_some hy7
    obtain ⟨y8, hy8, hM⟩ := bind_some' hM
    have hy8' := idx_some hy8
    refine tr_r hT hm [(5, .val (iv y7))] [0, 6, 8, 2015] [(0, .d (.sl a0.length 0 (a0.flatMap eI.b))), (6, .d (.rs 1007 0 s2.1.length)), (8, .d (iv s2.2)), (2015, .r (.arr 1 ((s2.1.flatMap eI.o).take (0 + s2.2.toNat * 1) ++ [iv y7] ++ (s2.1.flatMap eI.o).drop (0 + s2.2.toNat * 1 + 1)) []))] (.cons hy7'.1 (.cons hy7'.2.1 (.cons (at_b0 eI_ok hy7'.2.2 (d := iv y7) (by kernel_rfl)) (.cons hy8'.1 (.cons hy8'.2.1 (.cons (store_le eI_ok hy8'.2.2) .nil)))))) (by kernel_rfl) (by kernel_rfl) (b_n (q_n ?_))
    refine Tr.by (imp_cvE (r := 1007) (sz := 1) (refs := []) (set_flat eI_ok.lenO (y := y7) hy8'.2.2) (menO_flat eI_ok _) (by kernel_rfl)) ?_
    refine Tr.by (imp_cvD (k := 6) (congrArg (D.rs 1007 0) (List.length_set.symm : s2.1.length = (s2.1.set s2.2.toNat y7).length)) (by kernel_rfl)) ?_
    refine tr_r hT hm [] [0, 6, 8, 2015] [(0, .d (.sl a0.length 0 (a0.flatMap eI.b))), (6, .d (.rs 1007 0 ((s2.1.set s2.2.toNat y7).length))), (8, .d (iv (IntKind.i64.wrap (s2.2 + 1)))), (2015, .r (.arr 1 ((s2.1.set s2.2.toNat y7).flatMap eI.o) []))] .nil (by kernel_rfl) (by kernel_rfl) (l_n ?_)
    exact trl_start (ks := [0, 6, 8, 2015]) (by kernel_rfl) (ih4 (s2.1.set s2.2.toNat y7, IntKind.i64.wrap (s2.2 + 1)) hM)
  · have hM := ite_false' hM h6
    refine tr_condFe (e := decide (s2.2 < (a0.length : Int))) h6 (by kernel_rfl) ?_
    refine tr_exit (q_x (l_x (b_h (q_n ?_))))
    refine tr_sr hT hm [] [4, 2015] [(4, .d (.rs 1007 0 s2.1.length)), (2015, .r (.arr 1 (s2.1.flatMap eI.o) []))] .nil (by kernel_rfl) (by kernel_rfl) ?_
    refine tr_ret (rg_r ?_)
    obtain rfl := Option.some.inj hM
    exact retg (names := []) (.cons (lenO_flat eI_ok s2.1) .nil) (by kernel_rfl)

theorem ok29 : CallOk Try.prog 29 := callOk_of Try.func29 (by kernel_rfl) (by kernel_rfl)
theorem laws_toInt64SS_c (a0 : List (List Int)) (r : (List (List Int))) (hM : M.laws_toInt64SS a0 = some r) :
    FnC Try.prog 29 [] [.sl a0.length 0 (a0.flatMap (eS eI).b)] [] (.fr 1 r.length (r.flatMap (eS eI).o)) := by
  refine fnc_startG (N := 23) (np := 500) hT Try.func29 rfl rfl (by kernel_rfl) ?_
  unfold M.laws_toInt64SS at hM
  refine tr_start (ks := [0]) (st' := [(0, .d (.sl a0.length 0 (a0.flatMap (eS eI).b)))]) (by kernel_rfl) ?_
  refine tr_sr hT hm [] [0] [(0, .d (.sl a0.length 0 (a0.flatMap (eS eI).b)))] .nil (by kernel_rfl) (by kernel_rfl) ?_
  obtain ⟨h1, hM⟩ := chk_some hM
  refine tr_sr hT hm [] [0, 6, 2015] [(0, .d (.sl a0.length 0 (a0.flatMap (eS eI).b))), (6, .d (.rs 1007 0 ((a0.length : Int).toNat))), (2015, .r (.arr 1 (repl (a0.length : Int).toNat [.slice .none 0 0]) []))] (.cons h1.1 (.cons (Int.le_refl (a0.length : Int)) (.cons h1.2 .nil))) (by kernel_rfl) (by kernel_rfl) ?_
  refine Tr.by (imp_cvL (r := 1007) (sz := 1) (refs := []) (subl_repl (f := (eS eI).o) (zs := [.slice .none 0 0]) (z := ([] : List Int)) (.cons Sub.nil_fr .nil) (a0.length : Int).toNat) (repl_hl (by kernel_rfl)) (menO_flat (eS_ok eI_ok) _) (by kernel_rfl)) ?_
  refine Tr.by (imp_cvD (k := 6) (congrArg (D.rs 1007 0) (List.length_replicate.symm : (a0.length : Int).toNat = (List.replicate (a0.length : Int).toNat ([] : List Int)).length)) (by kernel_rfl)) ?_
  refine tr_seq ?_
  refine tr_sr hT hm [] [0, 6, 8, 2015] [(0, .d (.sl a0.length 0 (a0.flatMap (eS eI).b))), (6, .d (.rs 1007 0 ((List.replicate (a0.length : Int).toNat ([] : List Int)).length))), (8, .d (iv 0)), (2015, .r (.arr 1 ((List.replicate (a0.length : Int).toNat ([] : List Int)).flatMap (eS eI).o) []))] .nil (by kernel_rfl) (by kernel_rfl) ?_
  refine tr_block ?_
  refine tr_iterS (fun (s2 : (List (List Int)) × Int) => [(0, .d (.sl a0.length 0 (a0.flatMap (eS eI).b))), (6, .d (.rs 1007 0 s2.1.length)), (8, .d (iv s2.2)), (2015, .r (.arr 1 (s2.1.flatMap (eS eI).o) []))]) ((List.replicate (a0.length : Int).toNat ([] : List Int)), 0) [0, 6, 8, 2015] (by kernel_rfl) hM ?_
  intro n5 next3 ih4 s2 hM
  refine tr_seq ?_
  refine tr_sr hT hm [] [0, 6, 8, 22, 2015] [(0, .d (.sl a0.length 0 (a0.flatMap (eS eI).b))), (6, .d (.rs 1007 0 s2.1.length)), (8, .d (iv s2.2)), (22, .d (bv (decide (s2.2 < (a0.length : Int))))), (2015, .r (.arr 1 (s2.1.flatMap (eS eI).o) []))] .nil (by kernel_rfl) (by kernel_rfl) ?_
  rcases Bool.eq_false_or_eq_true (decide (s2.2 < (a0.length : Int))) with h6 | h6
  · have hM := ite_true' hM h6
    refine tr_condTe (e := decide (s2.2 < (a0.length : Int))) h6 (by kernel_rfl) ?_
    refine tr_skip (q_n ?_)
    refine tr_seq ?_
    refine tr_block ?_
    obtain ⟨y7, hy7, hM⟩ := bind_some' hM
    have hy7' := idx_some hy7
    obtain ⟨v8, hv8, hM⟩ := bind_some' hM
    obtain ⟨y9, hy9, hM⟩ := bind_some' hM
    have hy9' := idx_some hy9
    refine tr_r hT hm [(5, .val (.sl y7.length 0 (y7.flatMap eI.b))), (6, .call [] [] [.sl y7.length 0 (y7.flatMap eI.b)] [] (.fr 1 v8.length (v8.flatMap eI.o)))] [0, 6, 8, 2015, 44001] [(0, .d (.sl a0.length 0 (a0.flatMap (eS eI).b))), (6, .d (.rs 1007 0 s2.1.length)), (8, .d (iv s2.2)), (2015, .r (.arr 1 ((s2.1.flatMap (eS eI).o).take (0 + s2.2.toNat * 1) ++ [.rs 22000 0 v8.length] ++ (s2.1.flatMap (eS eI).o).drop (0 + s2.2.toNat * 1 + 1)) [22000])), (44001, .r (.arr 1 (v8.flatMap eI.o) []))] (.cons hy7'.1 (.cons hy7'.2.1 (.cons (at_b0 (eS_ok eI_ok) hy7'.2.2 (d := .sl y7.length 0 (y7.flatMap eI.b)) (by kernel_rfl)) (cc0 ok28 (laws_toInt64S_c y7 _ hv8) (by kernel_rfl) (.cons hy9'.1 (.cons hy9'.2.1 (.cons (store_le (eS_ok eI_ok) hy9'.2.2) .nil))))))) (by kernel_rfl) (by kernel_rfl) (b_n (q_n ?_))
    refine Tr.by (imp_dem (r := 1007) (q := 22000) (sz := 1) (n := v8.length) (j := 0) (pre := (s2.1.flatMap (eS eI).o).take (0 + s2.2.toNat * 1)) (l := [.rs 22000 0 v8.length]) (post := (s2.1.flatMap (eS eI).o).drop (0 + s2.2.toNat * 1 + 1)) (refs := [22000]) (refs' := []) (menO_take (eS_ok eI_ok) _ _) (menO_drop (eS_ok eI_ok) _ _) (lenO_of eI_ok v8 rfl) (by kernel_rfl) (by kernel_rfl) (by kernel_rfl) (by kernel_rfl) (by kernel_rfl)) ?_
    refine Tr.by (imp_cvE (r := 1007) (sz := 1) (refs := []) (set_flatF eI_ok (y := v8) hy9'.2.2 rfl) (menO_flat (eS_ok eI_ok) _) (by kernel_rfl)) ?_
    refine Tr.by (imp_cvD (k := 6) (congrArg (D.rs 1007 0) (List.length_set.symm : s2.1.length = (s2.1.set s2.2.toNat v8).length)) (by kernel_rfl)) ?_
    refine tr_r hT hm [] [0, 6, 8, 2015] [(0, .d (.sl a0.length 0 (a0.flatMap (eS eI).b))), (6, .d (.rs 1007 0 ((s2.1.set s2.2.toNat v8).length))), (8, .d (iv (IntKind.i64.wrap (s2.2 + 1)))), (2015, .r (.arr 1 ((s2.1.set s2.2.toNat v8).flatMap (eS eI).o) []))] .nil (by kernel_rfl) (by kernel_rfl) (l_n ?_)
    exact trl_start (ks := [0, 6, 8, 2015]) (by kernel_rfl) (ih4 (s2.1.set s2.2.toNat v8, IntKind.i64.wrap (s2.2 + 1)) hM)
  · have hM := ite_false' hM h6
    refine tr_condFe (e := decide (s2.2 < (a0.length : Int))) h6 (by kernel_rfl) ?_
    refine tr_exit (q_x (l_x (b_h (q_n ?_))))
    refine tr_sr hT hm [] [4, 2015] [(4, .d (.rs 1007 0 s2.1.length)), (2015, .r (.arr 1 (s2.1.flatMap (eS eI).o) []))] .nil (by kernel_rfl) (by kernel_rfl) ?_
    refine tr_ret (rg_r ?_)
    obtain rfl := Option.some.inj hM
    exact retg (names := []) (.cons (lenO_flat (eS_ok eI_ok) s2.1) .nil) (by kernel_rfl)

theorem ok44 : CallOk Try.prog 44 := callOk_of Try.func44 (by kernel_rfl) (by kernel_rfl)
theorem laws_toCategory_c (a0 : XCategory) (r : XCategory) (hM : M.laws_toCategory a0 = some r) :
    FnC Try.prog 44 [] [.agg (eXCategory.b a0)] [] (.agg (eXCategory.o r)) := by
  refine fnc_startG (N := 24) (np := 500) hT Try.func44 rfl rfl (by kernel_rfl) ?_
  unfold M.laws_toCategory at hM
  refine tr_start (ks := [0]) (st' := [(0, .d (.agg (eXCategory.b a0)))]) (by kernel_rfl) ?_
  refine tr_sr hT hm [] [2, 4, 2003, 2005] [(2, .d (.rp 1001 0)), (4, .d (.rp 1002 0)), bxB 2003 (eXCategory.b a0), (2005, .r (.arr 1 [iv 0, nilv, nilv, nilv, nilv] []))] .nil (by kernel_rfl) (by kernel_rfl) ?_
  refine tr_sr hT hm [] [2, 4, 6, 2003, 2005, 2007] [(2, .d (.rp 1001 0)), (4, .d (.rp 1002 0)), (6, .d (.rp 1003 0)), bxB 2003 (eXCategory.b a0), (2005, .r (.arr 1 [iv 0, nilv, nilv, nilv, nilv] [])), (2007, .r (.arr 1 [iv 0, nilv, nilv, nilv, nilv] []))] .nil (by kernel_rfl) (by kernel_rfl) ?_
  refine tr_sr hT hm [] [2, 4, 6, 2003, 2005, 2007] [(2, .d (.rp 1001 0)), (4, .d (.rp 1002 0)), (6, .d (.rp 1003 0)), bxB 2003 (eXCategory.b a0), (2005, .r (.arr 1 [iv 0, nilv, nilv, nilv, nilv] [])), (2007, .r (.arr 1 [iv a0.Objects, nilv, nilv, nilv, nilv] []))] (.cons (Nat.le_of_ble_eq_true (n := 1) (m := 5) rfl) .nil) (by kernel_rfl) (by kernel_rfl) ?_
  obtain ⟨v1, hv1, hM⟩ := bind_some' hM
  refine tr_sr hT hm [(2, .call [] [] [.sl a0.From.length 0 (a0.From.flatMap eI.b)] [] (.fr 1 v1.length (v1.flatMap eI.o)))] [2, 4, 6, 2003, 2005, 2007, 22001] [(2, .d (.rp 1001 0)), (4, .d (.rp 1002 0)), (6, .d (.rp 1003 0)), bxB 2003 (eXCategory.b a0), (2005, .r (.arr 1 [iv 0, nilv, nilv, nilv, nilv] [])), (2007, .r (.arr 1 [iv a0.Objects, .rs 11000 0 v1.length, nilv, nilv, nilv] [11000])), (22001, .r (.arr 1 (v1.flatMap eI.o) []))] (cc0 ok28 (laws_toInt64S_c a0.From _ hv1) (by kernel_rfl) (.cons (Nat.le_of_ble_eq_true (n := 2) (m := 5) rfl) .nil)) (by kernel_rfl) (by kernel_rfl) ?_
  obtain ⟨v2, hv2, hM⟩ := bind_some' hM
  refine tr_sr hT hm [(2, .call [] [] [.sl a0.To.length 0 (a0.To.flatMap eI.b)] [] (.fr 1 v2.length (v2.flatMap eI.o)))] [2, 4, 6, 2003, 2005, 2007, 22001, 30001] [(2, .d (.rp 1001 0)), (4, .d (.rp 1002 0)), (6, .d (.rp 1003 0)), bxB 2003 (eXCategory.b a0), (2005, .r (.arr 1 [iv 0, nilv, nilv, nilv, nilv] [])), (2007, .r (.arr 1 [iv a0.Objects, .rs 11000 0 v1.length, .rs 15000 0 v2.length, nilv, nilv] [11000, 15000])), (22001, .r (.arr 1 (v1.flatMap eI.o) [])), (30001, .r (.arr 1 (v2.flatMap eI.o) []))] (cc0 ok28 (laws_toInt64S_c a0.To _ hv2) (by kernel_rfl) (.cons (Nat.le_of_ble_eq_true (n := 3) (m := 5) rfl) .nil)) (by kernel_rfl) (by kernel_rfl) ?_
  obtain ⟨v3, hv3, hM⟩ := bind_some' hM
  refine tr_sr hT hm [(2, .call [] [] [.sl a0.Identity.length 0 (a0.Identity.flatMap eI.b)] [] (.fr 1 v3.length (v3.flatMap eI.o)))] [2, 4, 6, 2003, 2005, 2007, 22001, 30001, 38001] [(2, .d (.rp 1001 0)), (4, .d (.rp 1002 0)), (6, .d (.rp 1003 0)), bxB 2003 (eXCategory.b a0), (2005, .r (.arr 1 [iv 0, nilv, nilv, nilv, nilv] [])), (2007, .r (.arr 1 [iv a0.Objects, .rs 11000 0 v1.length, .rs 15000 0 v2.length, .rs 19000 0 v3.length, nilv] [11000, 15000, 19000])), (22001, .r (.arr 1 (v1.flatMap eI.o) [])), (30001, .r (.arr 1 (v2.flatMap eI.o) [])), (38001, .r (.arr 1 (v3.flatMap eI.o) []))] (cc0 ok28 (laws_toInt64S_c a0.Identity _ hv3) (by kernel_rfl) (.cons (Nat.le_of_ble_eq_true (n := 4) (m := 5) rfl) .nil)) (by kernel_rfl) (by kernel_rfl) ?_
  obtain ⟨v4, hv4, hM⟩ := bind_some' hM
  refine tr_sr hT hm [(2, .call [] [] [.sl a0.Composites.length 0 (a0.Composites.flatMap (eS eI).b)] [] (.fr 1 v4.length (v4.flatMap (eS eI).o)))] [4, 6, 2005, 2007, 22001, 30001, 38001, 46001] [(4, .d (.rp 1002 0)), (6, .d (.rp 1003 0)), (2005, .r (.arr 1 [iv 0, nilv, nilv, nilv, nilv] [])), (2007, .r (.arr 1 [iv a0.Objects, .rs 11000 0 v1.length, .rs 15000 0 v2.length, .rs 19000 0 v3.length, .rs 23000 0 v4.length] [11000, 15000, 19000, 23000])), (22001, .r (.arr 1 (v1.flatMap eI.o) [])), (30001, .r (.arr 1 (v2.flatMap eI.o) [])), (38001, .r (.arr 1 (v3.flatMap eI.o) [])), (46001, .r (.arr 1 (v4.flatMap (eS eI).o) []))] (cc0 ok29 (laws_toInt64SS_c a0.Composites _ hv4) (by kernel_rfl) (.cons (Nat.le_of_ble_eq_true (n := 5) (m := 5) rfl) .nil)) (by kernel_rfl) (by kernel_rfl) ?_
  refine tr_sr hT hm [] [4, 2005, 22001, 30001, 38001, 46001] [(4, .d (.rp 1002 0)), (2005, .r (.arr 1 [iv a0.Objects, .rs 11000 0 v1.length, .rs 15000 0 v2.length, .rs 19000 0 v3.length, .rs 23000 0 v4.length] [11000, 15000, 19000, 23000])), (22001, .r (.arr 1 (v1.flatMap eI.o) [])), (30001, .r (.arr 1 (v2.flatMap eI.o) [])), (38001, .r (.arr 1 (v3.flatMap eI.o) [])), (46001, .r (.arr 1 (v4.flatMap (eS eI).o) []))] (.cons (Nat.le_of_ble_eq_true (n := 5) (m := 5) rfl) .nil) (by kernel_rfl) (by kernel_rfl) ?_
  refine tr_ret (rg_r ?_)
  obtain rfl := Option.some.inj hM
  exact retg (names := []) (.cons (lenO_flat eI_ok v1) (.cons (lenO_flat eI_ok v2) (.cons (lenO_flat eI_ok v3) (.cons (lenO_flat (eS_ok eI_ok) v4) .nil)))) (by kernel_rfl)

theorem ok161 : CallOk Try.prog 161 := callOk_of Try.func161 (by kernel_rfl) (by kernel_rfl)
theorem impl_Category_arrows_c (a0 : XCategory) (r : Int) (hM : M.impl_Category_arrows a0 = some r) :
    FnC Try.prog 161 [] [.pt (eXCategory.b a0) 0] [] (iv r) := by
  refine fnc_startG (N := 8) (np := 500) hT Try.func161 rfl rfl (by kernel_rfl) ?_
  unfold M.impl_Category_arrows at hM
  refine tr_start (ks := [0]) (st' := [(0, .d (.pt (eXCategory.b a0) 0))]) (by kernel_rfl) ?_
  refine tr_sr hT hm [] [0] [(0, .d (.pt (eXCategory.b a0) 0))] .nil (by kernel_rfl) (by kernel_rfl) ?_
  refine tr_sr hT hm [] [4] [(4, .d (iv (a0.From.length : Int)))] .nil (by kernel_rfl) (by kernel_rfl) ?_
  refine tr_ret (rg_r ?_)
  obtain rfl := Option.some.inj hM
  exact retg (names := []) .nil (by kernel_rfl)

theorem ok159 : CallOk Try.prog 159 := callOk_of Try.func159 (by kernel_rfl) (by kernel_rfl)
theorem impl_inRange_c (a0 : Int) (a1 : Int) (a2 : Int) (r : Bool) (hM : M.impl_inRange a0 a1 a2 = some r) :
    FnC Try.prog 159 [] [iv a0, iv a1, iv a2] [] (bv r) := by
  refine fnc_startG (N := 15) (np := 500) hT Try.func159 rfl rfl (by kernel_rfl) ?_
  unfold M.impl_inRange at hM
  refine tr_start (ks := [0, 2, 4]) (st' := [(0, .d (iv a0)), (2, .d (iv a1)), (4, .d (iv a2))]) (by kernel_rfl) ?_
  refine tr_sr hT hm [] [0, 2, 4] [(0, .d (iv a0)), (2, .d (iv a1)), (4, .d (iv a2))] .nil (by kernel_rfl) (by kernel_rfl) ?_
  rcases Bool.eq_false_or_eq_true (decide (a0 ≥ a1)) with h1 | h1
  · have hM := ite_true' hM h1
    refine tr_sr hT hm [(3, .val (bv true))] [12] [(12, .d (bv (decide (a0 ≤ a2))))] (.cons (congrArg (fun b => bv b) h1) .nil) (by kernel_rfl) (by kernel_rfl) ?_
    refine tr_ret (rg_r ?_)
    obtain rfl := Option.some.inj hM
    exact retg (names := []) .nil (by kernel_rfl)
  · have hM := ite_false' hM h1
    refine tr_sr hT hm [(3, .val (bv false))] [12] [(12, .d (bv false))] (.cons (congrArg (fun b => bv b) h1) .nil) (by kernel_rfl) (by kernel_rfl) ?_
    refine tr_ret (rg_r ?_)
    obtain rfl := Option.some.inj hM
    exact retg (names := []) .nil (by kernel_rfl)

theorem ok160 : CallOk Try.prog 160 := callOk_of Try.func160 (by kernel_rfl) (by kernel_rfl)
theorem impl_within_c (a0 : List Int) (a1 : Int) (r : Bool) (hM : M.impl_within a0 a1 = some r) :
    FnC Try.prog 160 [] [.sl a0.length 0 (a0.flatMap eI.b), iv a1] [] (bv r) := by
  refine fnc_startG (N := 19) (np := 500) hT Try.func160 rfl rfl (by kernel_rfl) ?_
  unfold M.impl_within at hM
  refine tr_start (ks := [0, 2]) (st' := [(0, .d (.sl a0.length 0 (a0.flatMap eI.b))), (2, .d (iv a1))]) (by kernel_rfl) ?_
  refine tr_sr hT hm [] [0, 2] [(0, .d (.sl a0.length 0 (a0.flatMap eI.b))), (2, .d (iv a1))] .nil (by kernel_rfl) (by kernel_rfl) ?_
  refine tr_seq ?_
  refine tr_sr hT hm [] [2, 14, 16, 18] [(2, .d (iv a1)), (14, .d (.sl a0.length 0 (a0.flatMap eI.b))), (16, .d (iv (a0.length : Int))), (18, .d (iv 0))] .nil (by kernel_rfl) (by kernel_rfl) ?_
  refine tr_block ?_
  refine tr_iterS (fun (s1 : Int) => [(2, .d (iv a1)), (14, .d (.sl a0.length 0 (a0.flatMap eI.b))), (16, .d (iv (a0.length : Int))), (18, .d (iv s1))]) 0 [2, 14, 16, 18] (by kernel_rfl) hM ?_
  intro n4 next2 ih3 s1 hM
  refine tr_sr hT hm [] [2, 14, 16, 18, 20] [(2, .d (iv a1)), (14, .d (.sl a0.length 0 (a0.flatMap eI.b))), (16, .d (iv (a0.length : Int))), (18, .d (iv s1)), (20, .d (bv (decide (s1 < (a0.length : Int)))))] .nil (by kernel_rfl) (by kernel_rfl) ?_
  refine tr_seq ?_
  rcases Bool.eq_false_or_eq_true (decide (s1 < (a0.length : Int))) with h5 | h5
  · have hM := ite_true' hM h5
    refine tr_condTe (e := decide (s1 < (a0.length : Int))) h5 (by kernel_rfl) ?_
    refine tr_skip (q_n ?_)
    refine tr_seq ?_
    refine tr_block ?_
    obtain ⟨y6, hy6, hM⟩ := bind_some' hM
    have hy6' := idx_some hy6
    refine tr_sr hT hm [(1, .val (iv y6))] [2, 12, 14, 16, 18] [(2, .d (iv a1)), (12, .d (iv y6)), (14, .d (.sl a0.length 0 (a0.flatMap eI.b))), (16, .d (iv (a0.length : Int))), (18, .d (iv s1))] (.cons hy6'.1 (.cons hy6'.2.1 (.cons (at_b0 eI_ok hy6'.2.2 (d := iv y6) (by kernel_rfl)) .nil))) (by kernel_rfl) (by kernel_rfl) ?_
    obtain ⟨v7, hv7, hM⟩ := bind_some' hM
    refine tr_sr hT hm [(3, .call [] [] [iv y6, iv 0, iv (IntKind.i64.wrap (a1 - 1))] [] (bv v7))] [2, 14, 16, 18, 34] [(2, .d (iv a1)), (14, .d (.sl a0.length 0 (a0.flatMap eI.b))), (16, .d (iv (a0.length : Int))), (18, .d (iv s1)), (34, .d (bv (!v7)))] (cc0 ok159 (impl_inRange_c y6 0 (IntKind.i64.wrap (a1 - 1)) _ hv7) (by kernel_rfl) .nil) (by kernel_rfl) (by kernel_rfl) ?_
    rcases Bool.eq_false_or_eq_true v7 with h8 | h8
    · have hM := ite_true' hM h8
      refine tr_condFe (e := !v7) (congrArg not h8) (by kernel_rfl) ?_
      refine tr_skip (b_n (q_n ?_))
      refine tr_r hT hm [] [2, 14, 16, 18] [(2, .d (iv a1)), (14, .d (.sl a0.length 0 (a0.flatMap eI.b))), (16, .d (iv (a0.length : Int))), (18, .d (iv (IntKind.i64.wrap (s1 + 1))))] .nil (by kernel_rfl) (by kernel_rfl) (l_n ?_)
      exact trl_start (ks := [2, 14, 16, 18]) (by kernel_rfl) (ih3 (IntKind.i64.wrap (s1 + 1)) hM)
    · have hM := ite_false' hM h8
      refine tr_condTe (e := !v7) (congrArg not h8) (by kernel_rfl) ?_
      refine tr_sr hT hm [] [8] [(8, .d (bv false))] .nil (by kernel_rfl) (by kernel_rfl) ?_
      refine tr_ret (b_r (q_r (l_r (b_r (q_r (rg_r ?_))))))
      obtain rfl := Option.some.inj hM
      exact retg (names := []) .nil (by kernel_rfl)
  · have hM := ite_false' hM h5
    refine tr_condFe (e := decide (s1 < (a0.length : Int))) h5 (by kernel_rfl) ?_
    refine tr_exit (q_x (l_x (b_h (q_n ?_))))
    refine tr_sr hT hm [] [8] [(8, .d (bv true))] .nil (by kernel_rfl) (by kernel_rfl) ?_
    refine tr_ret (rg_r ?_)
    obtain rfl := Option.some.inj hM
    exact retg (names := []) .nil (by kernel_rfl)

theorem ok162 : CallOk Try.prog 162 := callOk_of Try.func162 (by kernel_rfl) (by kernel_rfl)
theorem impl_Category_ends_c (a0 : XCategory) (a1 : Int) (r : Xends) (hM : M.impl_Category_ends a0 a1 = some r) :
    FnC Try.prog 162 [] [.pt (eXCategory.b a0) 0, iv a1] [] (.agg (eXends.o r)) := by
  refine fnc_startG (N := 20) (np := 500) hT Try.func162 rfl rfl (by kernel_rfl) ?_
  unfold M.impl_Category_ends at hM
  refine tr_start (ks := [0, 2]) (st' := [(0, .d (.pt (eXCategory.b a0) 0)), (2, .d (iv a1))]) (by kernel_rfl) ?_
  refine tr_sr hT hm [] [0, 2, 8, 2009] [(0, .d (.pt (eXCategory.b a0) 0)), (2, .d (iv a1)), (8, .d (.rp 1004 0)), (2009, .r (.arr 1 [iv 0, iv 0] []))] .nil (by kernel_rfl) (by kernel_rfl) ?_
  obtain ⟨y1, hy1, hM⟩ := bind_some' hM
  have hy1' := idx_some hy1
  obtain ⟨y2, hy2, hM⟩ := bind_some' hM
  have hy2' := idx_some hy2
  refine tr_sr hT hm [(6, .val (iv y1)), (13, .val (iv y2))] [8, 2009] [(8, .d (.rp 1004 0)), (2009, .r (.arr 1 [iv y1, iv y2] []))] (.cons hy1'.1 (.cons hy1'.2.1 (.cons (at_b0 eI_ok hy1'.2.2 (d := iv y1) (by kernel_rfl)) (.cons hy2'.1 (.cons hy2'.2.1 (.cons (at_b0 eI_ok hy2'.2.2 (d := iv y2) (by kernel_rfl)) (.cons (Nat.le_of_ble_eq_true (n := 2) (m := 2) rfl) .nil))))))) (by kernel_rfl) (by kernel_rfl) ?_
  refine tr_ret (rg_r ?_)
  obtain rfl := Option.some.inj hM
  exact retg (names := []) .nil (by kernel_rfl)

end Go.Proofs.Ytiikkfdehbcfaaa.WvB
