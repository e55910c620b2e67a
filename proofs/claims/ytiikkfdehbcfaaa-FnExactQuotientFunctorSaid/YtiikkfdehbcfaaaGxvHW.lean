/- Walks. Printed by wip/gen. -/
import Derived.Test.YtiikkfdehbcfaaaGxEM0
import Derived.Test.YtiikkfdehbcfaaaGxEO0
import Derived.Test.YtiikkfdehbcfaaaGxvBW3
import Derived.KernelRfl
namespace Go.Proofs.Ytiikkfdehbcfaaa.WvH
open Go.Gx Go.Proofs.Ytiikkfdehbcfaaa.WvB

theorem eXCategory_r : EncR eXCategory := (eA_r (eC_r eI_r _) (eA_r (eC_r (eS_r eI_ok) _) (eA_r (eC_r (eS_r eI_ok) _) (eA_r (eC_r (eS_r eI_ok) _) (eC_r (eS_r (eS_ok eI_ok)) _)))))
theorem eXFunctor_r : EncR eXFunctor := (eA_r (eC_r eXCategory_r _) (eA_r (eC_r eXCategory_r _) (eA_r (eC_r (eS_r eI_ok) _) (eC_r (eS_r eI_ok) _))))
def T : Tab := [(2, ⟨.int .i64, 1, 8, [.int .i64 0]⟩),
  (3, ⟨.int .i64, 1, 8, [.int .i64 0]⟩),
  (22, ⟨.slice 2, 1, 24, [.slice .none 0 0]⟩)]
theorem hT : TabOk Try.prog T := ⟨tiok (by kernel_rfl) (by kernel_rfl), tiok (by kernel_rfl) (by kernel_rfl), tiok (by kernel_rfl) (by kernel_rfl), trivial⟩
theorem hm : Try.prog.follows .mixedOrders = true := by kernel_rfl

theorem ok268 : CallOk Try.prog 268 := callOk_of Try.func268 (by kernel_rfl) (by kernel_rfl)
theorem impl_then_c (a0 : List Int) (a1 : List Int) (r : (List Int)) (hM : M.impl_then a0 a1 = some r) :
    FnC Try.prog 268 [] [.sl a0.length 0 (a0.flatMap eI.b), .sl a1.length 0 (a1.flatMap eI.b)] [] (.fr 1 r.length (r.flatMap eI.o)) := by
  refine fnc_startG (N := 27) (np := 500) hT Try.func268 rfl rfl (by kernel_rfl) ?_
  unfold M.impl_then at hM
  refine tr_start (ks := [0, 2]) (st' := [(0, .d (.sl a0.length 0 (a0.flatMap eI.b))), (2, .d (.sl a1.length 0 (a1.flatMap eI.b)))]) (by kernel_rfl) ?_
  refine tr_sr hT hm [] [0, 2] [(0, .d (.sl a0.length 0 (a0.flatMap eI.b))), (2, .d (.sl a1.length 0 (a1.flatMap eI.b)))] .nil (by kernel_rfl) (by kernel_rfl) ?_
  obtain ⟨h1, hM⟩ := chk_some hM
  refine tr_sr hT hm [] [0, 2, 10, 2021] [(0, .d (.sl a0.length 0 (a0.flatMap eI.b))), (2, .d (.sl a1.length 0 (a1.flatMap eI.b))), (10, .d (.rs 1010 0 ((a0.length : Int).toNat))), (2021, .r (.arr 1 (repl (a0.length : Int).toNat [.int .i64 0]) []))] (.cons h1.1 (.cons (Int.le_refl (a0.length : Int)) (.cons h1.2 .nil))) (by kernel_rfl) (by kernel_rfl) ?_
  refine Tr.by (imp_cvE (r := 1010) (sz := 1) (refs := []) (repl_flat (f := eI.o) (zs := [.int .i64 0]) (z := (0 : Int)) rfl (a0.length : Int).toNat) (menO_flat eI_ok _) (by kernel_rfl)) ?_
  refine Tr.by (imp_cvD (k := 10) (congrArg (D.rs 1010 0) (List.length_replicate.symm : (a0.length : Int).toNat = (List.replicate (a0.length : Int).toNat (0 : Int)).length)) (by kernel_rfl)) ?_
  refine tr_seq ?_
  refine tr_sr hT hm [] [2, 10, 22, 24, 26, 2021] [(2, .d (.sl a1.length 0 (a1.flatMap eI.b))), (10, .d (.rs 1010 0 ((List.replicate (a0.length : Int).toNat (0 : Int)).length))), (22, .d (.sl a0.length 0 (a0.flatMap eI.b))), (24, .d (iv (a0.length : Int))), (26, .d (iv 0)), (2021, .r (.arr 1 ((List.replicate (a0.length : Int).toNat (0 : Int)).flatMap eI.o) []))] .nil (by kernel_rfl) (by kernel_rfl) ?_
  refine tr_block ?_
  refine tr_iterS (fun (s2 : (List Int) × Int) => [(2, .d (.sl a1.length 0 (a1.flatMap eI.b))), (10, .d (.rs 1010 0 s2.1.length)), (22, .d (.sl a0.length 0 (a0.flatMap eI.b))), (24, .d (iv (a0.length : Int))), (26, .d (iv s2.2)), (2021, .r (.arr 1 (s2.1.flatMap eI.o) []))]) ((List.replicate (a0.length : Int).toNat (0 : Int)), 0) [2, 10, 22, 24, 26, 2021] (by kernel_rfl) hM ?_
  intro n5 next3 ih4 s2 hM
  refine tr_sr hT hm [] [2, 10, 22, 24, 26, 28, 2021] [(2, .d (.sl a1.length 0 (a1.flatMap eI.b))), (10, .d (.rs 1010 0 s2.1.length)), (22, .d (.sl a0.length 0 (a0.flatMap eI.b))), (24, .d (iv (a0.length : Int))), (26, .d (iv s2.2)), (28, .d (bv (decide (s2.2 < (a0.length : Int))))), (2021, .r (.arr 1 (s2.1.flatMap eI.o) []))] .nil (by kernel_rfl) (by kernel_rfl) ?_
  refine tr_seq ?_
  rcases Bool.eq_false_or_eq_true (decide (s2.2 < (a0.length : Int))) with h6 | h6
  · have hM := ite_true' hM h6
    refine tr_condTe (e := decide (s2.2 < (a0.length : Int))) h6 (by kernel_rfl) ?_
    refine tr_skip (q_n ?_)
    refine tr_seq ?_
    refine tr_block ?_
    obtain ⟨y7, hy7, hM⟩ := bind_some' hM
    have hy7' := idx_some hy7
    refine tr_sr hT hm [(2, .val (iv y7))] [2, 10, 12, 14, 22, 24, 26, 2021] [(2, .d (.sl a1.length 0 (a1.flatMap eI.b))), (10, .d (.rs 1010 0 s2.1.length)), (12, .d (iv s2.2)), (14, .d (iv y7)), (22, .d (.sl a0.length 0 (a0.flatMap eI.b))), (24, .d (iv (a0.length : Int))), (26, .d (iv s2.2)), (2021, .r (.arr 1 (s2.1.flatMap eI.o) []))] (.cons hy7'.1 (.cons hy7'.2.1 (.cons (at_b0 eI_ok hy7'.2.2 (d := iv y7) (by kernel_rfl)) .nil))) (by kernel_rfl) (by kernel_rfl) ?_
    obtain ⟨y8, hy8, hM⟩ := bind_some' hM
    have hy8' := idx_some hy8
    obtain ⟨y9, hy9, hM⟩ := bind_some' hM
    have hy9' := idx_some hy9
    refine tr_r hT hm [(5, .val (iv y8))] [2, 10, 22, 24, 26, 2021] [(2, .d (.sl a1.length 0 (a1.flatMap eI.b))), (10, .d (.rs 1010 0 s2.1.length)), (22, .d (.sl a0.length 0 (a0.flatMap eI.b))), (24, .d (iv (a0.length : Int))), (26, .d (iv s2.2)), (2021, .r (.arr 1 ((s2.1.flatMap eI.o).take (0 + s2.2.toNat * 1) ++ [iv y8] ++ (s2.1.flatMap eI.o).drop (0 + s2.2.toNat * 1 + 1)) []))] (.cons hy8'.1 (.cons hy8'.2.1 (.cons (at_b0 eI_ok hy8'.2.2 (d := iv y8) (by kernel_rfl)) (.cons hy9'.1 (.cons hy9'.2.1 (.cons (store_le eI_ok hy9'.2.2) .nil)))))) (by kernel_rfl) (by kernel_rfl) (b_n (q_n ?_))
    refine Tr.by (imp_cvE (r := 1010) (sz := 1) (refs := []) (set_flat eI_ok.lenO (y := y8) hy9'.2.2) (menO_flat eI_ok _) (by kernel_rfl)) ?_
    refine Tr.by (imp_cvD (k := 10) (congrArg (D.rs 1010 0) (List.length_set.symm : s2.1.length = (s2.1.set s2.2.toNat y8).length)) (by kernel_rfl)) ?_
    refine tr_r hT hm [] [2, 10, 22, 24, 26, 2021] [(2, .d (.sl a1.length 0 (a1.flatMap eI.b))), (10, .d (.rs 1010 0 ((s2.1.set s2.2.toNat y8).length))), (22, .d (.sl a0.length 0 (a0.flatMap eI.b))), (24, .d (iv (a0.length : Int))), (26, .d (iv (IntKind.i64.wrap (s2.2 + 1)))), (2021, .r (.arr 1 ((s2.1.set s2.2.toNat y8).flatMap eI.o) []))] .nil (by kernel_rfl) (by kernel_rfl) (l_n ?_)
    exact trl_start (ks := [2, 10, 22, 24, 26, 2021]) (by kernel_rfl) (ih4 (s2.1.set s2.2.toNat y8, IntKind.i64.wrap (s2.2 + 1)) hM)
  · have hM := ite_false' hM h6
    refine tr_condFe (e := decide (s2.2 < (a0.length : Int))) h6 (by kernel_rfl) ?_
    refine tr_exit (q_x (l_x (b_h (q_n ?_))))
    refine tr_sr hT hm [] [8, 2021] [(8, .d (.rs 1010 0 s2.1.length)), (2021, .r (.arr 1 (s2.1.flatMap eI.o) []))] .nil (by kernel_rfl) (by kernel_rfl) ?_
    refine tr_ret (rg_r ?_)
    obtain rfl := Option.some.inj hM
    exact retg (names := []) (.cons (lenO_flat eI_ok s2.1) .nil) (by kernel_rfl)

end Go.Proofs.Ytiikkfdehbcfaaa.WvH
