/- Walks. Printed by wip/gen. -/
import Derived.Test.YtiikkfdehbcfaaaGxvBW1
namespace Go.Proofs.Ytiikkfdehbcfaaa.WvB
open Go.Gx

theorem ok187 : CallOk Try.prog 187 := callOk_of Try.func187 (by kernel_rfl) (by kernel_rfl)
theorem impl_clone_c (a0 : List Int) (r : (List Int)) (hM : M.impl_clone a0 = some r) :
    FnC Try.prog 187 [] [.sl a0.length 0 (a0.flatMap eI.b)] [] (.fr 1 r.length (r.flatMap eI.o)) := by
  refine fnc_startG (N := 6) (np := 500) hT Try.func187 rfl rfl (by kernel_rfl) ?_
  unfold M.impl_clone at hM
  refine tr_start (ks := [0]) (st' := [(0, .d (.sl a0.length 0 (a0.flatMap eI.b)))]) (by kernel_rfl) ?_
  refine tr_sr hT hm [] [0] [(0, .d (.sl a0.length 0 (a0.flatMap eI.b)))] .nil (by kernel_rfl) (by kernel_rfl) ?_
  obtain ⟨h1, hM⟩ := chk_some hM
  refine tr_sr hT hm [(2, .app false)] [4, 2011] [(4, .d (.rs 1005 0 (([] : List Int).length + a0.length))), (2011, .r (.arr 1 (([] : List Int).flatMap eI.o ++ ((a0.flatMap eI.b).drop 0).take (a0.length * 1)) []))] (.cons (lenO_flat eI_ok ([] : List Int)) (.cons (len_take eI_ok.lenB a0) (.cons h1 .nil))) (by kernel_rfl) (by kernel_rfl) ?_
  refine Tr.by (imp_cvE (r := 1005) (sz := 1) (refs := []) (app_take eI_ok.lenB (fun _ => rfl) ([] : List Int) a0) (menO_flat eI_ok _) (by kernel_rfl)) ?_
  refine Tr.by (imp_cvD (k := 4) (congrArg (D.rs 1005 0) ((len_app ([] : List Int) a0) : ([] : List Int).length + a0.length = (([] : List Int) ++ a0).length)) (by kernel_rfl)) ?_
  refine tr_ret (rg_r ?_)
  obtain rfl := Option.some.inj hM
  exact retg (names := []) (.cons (lenO_flat eI_ok (([] : List Int) ++ a0)) .nil) (by kernel_rfl)

theorem ok252 : CallOk Try.prog 252 := callOk_of Try.func252 (by kernel_rfl) (by kernel_rfl)
theorem impl_clones_c (a0 : List (List Int)) (r : (List (List Int))) (hM : M.impl_clones a0 = some r) :
    FnC Try.prog 252 [] [.sl a0.length 0 (a0.flatMap (eS eI).b)] [] (.fr 1 r.length (r.flatMap (eS eI).o)) := by
  refine fnc_startG (N := 22) (np := 500) hT Try.func252 rfl rfl (by kernel_rfl) ?_
  unfold M.impl_clones at hM
  refine tr_start (ks := [0]) (st' := [(0, .d (.sl a0.length 0 (a0.flatMap (eS eI).b)))]) (by kernel_rfl) ?_
  refine tr_sr hT hm [] [0] [(0, .d (.sl a0.length 0 (a0.flatMap (eS eI).b)))] .nil (by kernel_rfl) (by kernel_rfl) ?_
  obtain ⟨h1, hM⟩ := chk_some hM
  refine tr_sr hT hm [] [0, 6, 2017] [(0, .d (.sl a0.length 0 (a0.flatMap (eS eI).b))), (6, .d (.rs 1008 0 (([] : List (List Int)).length))), (2017, .r (.arr 1 (([] : List (List Int)).flatMap (eS eI).o) []))] (.cons (Int.le_refl 0) (.cons h1.1 (.cons h1.2 .nil))) (by kernel_rfl) (by kernel_rfl) ?_
  refine tr_seq ?_
  refine tr_sr hT hm [] [6, 18, 20, 22, 2017] [(6, .d (.rs 1008 0 (([] : List (List Int)).length))), (18, .d (.sl a0.length 0 (a0.flatMap (eS eI).b))), (20, .d (iv (a0.length : Int))), (22, .d (iv 0)), (2017, .r (.arr 1 (([] : List (List Int)).flatMap (eS eI).o) []))] .nil (by kernel_rfl) (by kernel_rfl) ?_
  refine tr_block ?_
  refine tr_iterS (fun (s2 : (List (List Int)) × Int) => [(6, .d (.rs 1008 0 s2.1.length)), (18, .d (.sl a0.length 0 (a0.flatMap (eS eI).b))), (20, .d (iv (a0.length : Int))), (22, .d (iv s2.2)), (2017, .r (.arr 1 (s2.1.flatMap (eS eI).o) []))]) (([] : List (List Int)), 0) [6, 18, 20, 22, 2017] (by kernel_rfl) hM ?_
  intro n5 next3 ih4 s2 hM
  refine tr_sr hT hm [] [6, 18, 20, 22, 24, 2017] [(6, .d (.rs 1008 0 s2.1.length)), (18, .d (.sl a0.length 0 (a0.flatMap (eS eI).b))), (20, .d (iv (a0.length : Int))), (22, .d (iv s2.2)), (24, .d (bv (decide (s2.2 < (a0.length : Int))))), (2017, .r (.arr 1 (s2.1.flatMap (eS eI).o) []))] .nil (by kernel_rfl) (by kernel_rfl) ?_
  refine tr_seq ?_
  rcases Bool.eq_false_or_eq_true (decide (s2.2 < (a0.length : Int))) with h6 | h6
  · have hM := ite_true' hM h6
    refine tr_condTe (e := decide (s2.2 < (a0.length : Int))) h6 (by kernel_rfl) ?_
    refine tr_skip (q_n ?_)
    refine tr_seq ?_
    refine tr_block ?_
    obtain ⟨y7, hy7, hM⟩ := bind_some' hM
    have hy7' := idx_some hy7
    refine tr_sr hT hm [(1, .val (.sl y7.length 0 (y7.flatMap eI.b)))] [6, 10, 18, 20, 22, 2017] [(6, .d (.rs 1008 0 s2.1.length)), (10, .d (.sl y7.length 0 (y7.flatMap eI.b))), (18, .d (.sl a0.length 0 (a0.flatMap (eS eI).b))), (20, .d (iv (a0.length : Int))), (22, .d (iv s2.2)), (2017, .r (.arr 1 (s2.1.flatMap (eS eI).o) []))] (.cons hy7'.1 (.cons hy7'.2.1 (.cons (at_b0 (eS_ok eI_ok) hy7'.2.2 (d := .sl y7.length 0 (y7.flatMap eI.b)) (by kernel_rfl)) .nil))) (by kernel_rfl) (by kernel_rfl) ?_
    obtain ⟨v8, hv8, hM⟩ := bind_some' hM
    obtain ⟨h9, hM⟩ := chk_some hM
    refine tr_r hT hm [(2, .call [] [] [.sl y7.length 0 (y7.flatMap eI.b)] [] (.fr 1 v8.length (v8.flatMap eI.o))), (4, .app true)] [6, 18, 20, 22, 2039, 38001] [(6, .d (.rs 1019 0 (s2.1.length + 1))), (18, .d (.sl a0.length 0 (a0.flatMap (eS eI).b))), (20, .d (iv (a0.length : Int))), (22, .d (iv s2.2)), (2039, .r (.arr 1 (s2.1.flatMap (eS eI).o ++ [.rs 19000 0 v8.length]) [19000])), (38001, .r (.arr 1 (v8.flatMap eI.o) []))] (cc0 ok187 (impl_clone_c y7 _ hv8) (by kernel_rfl) (.cons (lenO_flat (eS_ok eI_ok) s2.1) (.cons (by kernel_rfl : ([.rs 19000 0 v8.length] : List D).length = 1 * 1) (.cons h9 .nil)))) (by kernel_rfl) (by kernel_rfl) (b_n (q_n ?_))
    refine Tr.by (imp_demE (r := 1019) (q := 19000) (sz := 1) (n := v8.length) (j := 0) (pre := s2.1.flatMap (eS eI).o) (l := [.rs 19000 0 v8.length]) (refs := [19000]) (refs' := []) (menO_flat (eS_ok eI_ok) _) (lenO_flat eI_ok v8) (by kernel_rfl) (by kernel_rfl) (by kernel_rfl) (by kernel_rfl) (by kernel_rfl)) ?_
    refine Tr.by (imp_cvE (r := 1019) (sz := 1) (refs := []) (flat_snoc (eS eI).o s2.1 v8) (menO_flat (eS_ok eI_ok) _) (by kernel_rfl)) ?_
    refine Tr.by (imp_cvD (k := 6) (congrArg (D.rs 1019 0) ((len_snoc s2.1 v8) : s2.1.length + 1 = (s2.1 ++ [v8]).length)) (by kernel_rfl)) ?_
    refine tr_r hT hm [] [6, 18, 20, 22, 2039] [(6, .d (.rs 1019 0 ((s2.1 ++ [v8]).length))), (18, .d (.sl a0.length 0 (a0.flatMap (eS eI).b))), (20, .d (iv (a0.length : Int))), (22, .d (iv (IntKind.i64.wrap (s2.2 + 1)))), (2039, .r (.arr 1 ((s2.1 ++ [v8]).flatMap (eS eI).o) []))] .nil (by kernel_rfl) (by kernel_rfl) (l_n ?_)
    refine TrL.by (imp_sel (ks := [6, 18, 20, 22, 2039]) (st' := [(6, .d (.rs 1019 0 ((s2.1 ++ [v8]).length))), (18, .d (.sl a0.length 0 (a0.flatMap (eS eI).b))), (20, .d (iv (a0.length : Int))), (22, .d (iv (IntKind.i64.wrap (s2.2 + 1)))), (2039, .r (.arr 1 ((s2.1 ++ [v8]).flatMap (eS eI).o) []))]) (by kernel_rfl)) ?_
    refine TrL.by (imp_rename (r := 1019) (q := 1008) (by kernel_rfl) (Nat.le_of_ble_eq_true rfl)) ?_
    exact trl_start (ks := [6, 18, 20, 22, 2017]) (by kernel_rfl) (ih4 (s2.1 ++ [v8], IntKind.i64.wrap (s2.2 + 1)) hM)
  · have hM := ite_false' hM h6
    refine tr_condFe (e := decide (s2.2 < (a0.length : Int))) h6 (by kernel_rfl) ?_
    refine tr_exit (q_x (l_x (b_h (q_n ?_))))
    refine tr_sr hT hm [] [4, 2017] [(4, .d (.rs 1008 0 s2.1.length)), (2017, .r (.arr 1 (s2.1.flatMap (eS eI).o) []))] .nil (by kernel_rfl) (by kernel_rfl) ?_
    refine tr_ret (rg_r ?_)
    obtain rfl := Option.some.inj hM
    exact retg (names := []) (.cons (lenO_flat (eS_ok eI_ok) s2.1) .nil) (by kernel_rfl)

end Go.Proofs.Ytiikkfdehbcfaaa.WvB
