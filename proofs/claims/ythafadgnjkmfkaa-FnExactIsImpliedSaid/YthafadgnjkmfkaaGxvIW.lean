/- Walks. Printed by wip/gen. -/
import Derived.Test.YthafadgnjkmfkaaGxEM0
import Derived.Test.YthafadgnjkmfkaaGxEO0
import Derived.Test.YthafadgnjkmfkaaGxvBW2
import Derived.KernelRfl
namespace Go.Proofs.Ythafadgnjkmfkaa.WvI
open Go.Gx Go.Proofs.Ythafadgnjkmfkaa.WvB

theorem eXCategory_r : EncR eXCategory := (eA_r (eC_r eI_r _) (eA_r (eC_r (eS_r eI_ok) _) (eA_r (eC_r (eS_r eI_ok) _) (eA_r (eC_r (eS_r eI_ok) _) (eC_r (eS_r (eS_ok eI_ok)) _)))))
def T : Tab := [(2, ⟨.int .i64, 1, 8, [.int .i64 0]⟩),
  (3, ⟨.int .i64, 1, 8, [.int .i64 0]⟩),
  (22, ⟨.slice 2, 1, 24, [.slice .none 0 0]⟩)]
theorem hT : TabOk Try.prog T := ⟨tiok (by kernel_rfl) (by kernel_rfl), tiok (by kernel_rfl) (by kernel_rfl), tiok (by kernel_rfl) (by kernel_rfl), trivial⟩
theorem hm : Try.prog.follows .mixedOrders = true := by kernel_rfl

theorem ok127 : CallOk Try.prog 127 := callOk_of Try.func127 (by kernel_rfl) (by kernel_rfl)
theorem impl_numbers_c (a0 : Int) (r : (List Int)) (hM : M.impl_numbers a0 = some r) :
    FnC Try.prog 127 [] [iv a0] [] (.fr 1 r.length (r.flatMap eI.o)) := by
  refine fnc_startG (N := 18) (np := 500) hT Try.func127 rfl rfl (by kernel_rfl) ?_
  unfold M.impl_numbers at hM
  refine tr_start (ks := [0]) (st' := [(0, .d (iv a0))]) (by kernel_rfl) ?_
  refine tr_sr hT hm [] [0] [(0, .d (iv a0))] .nil (by kernel_rfl) (by kernel_rfl) ?_
  obtain ⟨h1, hM⟩ := chk_some hM
  refine tr_sr hT hm [] [6, 2013] [(6, .d (.rs 1006 0 a0.toNat)), (2013, .r (.arr 1 (repl a0.toNat [.int .i64 0]) []))] (.cons h1.1 (.cons (Int.le_refl a0) (.cons h1.2 .nil))) (by kernel_rfl) (by kernel_rfl) ?_
  refine Tr.by (imp_cvE (r := 1006) (sz := 1) (refs := []) (repl_flat (f := eI.o) (zs := [.int .i64 0]) (z := (0 : Int)) rfl a0.toNat) (menO_flat eI_ok _) (by kernel_rfl)) ?_
  refine Tr.by (imp_cvD (k := 6) (congrArg (D.rs 1006 0) (List.length_replicate.symm : a0.toNat = (List.replicate a0.toNat (0 : Int)).length)) (by kernel_rfl)) ?_
  refine tr_seq ?_
  refine tr_sr hT hm [] [6, 16, 18, 2013] [(6, .d (.rs 1006 0 ((List.replicate a0.toNat (0 : Int)).length))), (16, .d (iv ((List.replicate a0.toNat (0 : Int)).length : Int))), (18, .d (iv 0)), (2013, .r (.arr 1 ((List.replicate a0.toNat (0 : Int)).flatMap eI.o) []))] .nil (by kernel_rfl) (by kernel_rfl) ?_
  refine tr_block ?_
  refine tr_iterS (fun (s2 : (List Int) × Int) => [(6, .d (.rs 1006 0 s2.1.length)), (16, .d (iv ((List.replicate a0.toNat (0 : Int)).length : Int))), (18, .d (iv s2.2)), (2013, .r (.arr 1 (s2.1.flatMap eI.o) []))]) ((List.replicate a0.toNat (0 : Int)), 0) [6, 16, 18, 2013] (by kernel_rfl) hM ?_
  intro n5 next3 ih4 s2 hM
  refine tr_sr hT hm [] [6, 16, 18, 20, 2013] [(6, .d (.rs 1006 0 s2.1.length)), (16, .d (iv ((List.replicate a0.toNat (0 : Int)).length : Int))), (18, .d (iv s2.2)), (20, .d (bv (decide (s2.2 < ((List.replicate a0.toNat (0 : Int)).length : Int))))), (2013, .r (.arr 1 (s2.1.flatMap eI.o) []))] .nil (by kernel_rfl) (by kernel_rfl) ?_
  refine tr_seq ?_
  rcases Bool.eq_false_or_eq_true (decide (s2.2 < ((List.replicate a0.toNat (0 : Int)).length : Int))) with h6 | h6
  · have hM := ite_true' hM h6
    refine tr_condTe (e := decide (s2.2 < ((List.replicate a0.toNat (0 : Int)).length : Int))) h6 (by kernel_rfl) ?_
    refine tr_skip (q_n ?_)
    refine tr_seq ?_
    refine tr_block ?_
    refine tr_sr hT hm [] [6, 8, 16, 18, 2013] [(6, .d (.rs 1006 0 s2.1.length)), (8, .d (iv s2.2)), (16, .d (iv ((List.replicate a0.toNat (0 : Int)).length : Int))), (18, .d (iv s2.2)), (2013, .r (.arr 1 (s2.1.flatMap eI.o) []))] .nil (by kernel_rfl) (by kernel_rfl) ?_
    obtain ⟨y7, hy7, hM⟩ := bind_some' hM
    have hy7' := idx_some hy7
    refine tr_r hT hm [] [6, 16, 18, 2013] [(6, .d (.rs 1006 0 s2.1.length)), (16, .d (iv ((List.replicate a0.toNat (0 : Int)).length : Int))), (18, .d (iv s2.2)), (2013, .r (.arr 1 ((s2.1.flatMap eI.o).take (0 + s2.2.toNat * 1) ++ [iv s2.2] ++ (s2.1.flatMap eI.o).drop (0 + s2.2.toNat * 1 + 1)) []))] (.cons hy7'.1 (.cons hy7'.2.1 (.cons (store_le eI_ok hy7'.2.2) .nil))) (by kernel_rfl) (by kernel_rfl) (b_n (q_n ?_))
    refine Tr.by (imp_cvE (r := 1006) (sz := 1) (refs := []) (set_flat eI_ok.lenO (y := s2.2) hy7'.2.2) (menO_flat eI_ok _) (by kernel_rfl)) ?_
    refine Tr.by (imp_cvD (k := 6) (congrArg (D.rs 1006 0) (List.length_set.symm : s2.1.length = (s2.1.set s2.2.toNat s2.2).length)) (by kernel_rfl)) ?_
    refine tr_r hT hm [] [6, 16, 18, 2013] [(6, .d (.rs 1006 0 ((s2.1.set s2.2.toNat s2.2).length))), (16, .d (iv ((List.replicate a0.toNat (0 : Int)).length : Int))), (18, .d (iv (IntKind.i64.wrap (s2.2 + 1)))), (2013, .r (.arr 1 ((s2.1.set s2.2.toNat s2.2).flatMap eI.o) []))] .nil (by kernel_rfl) (by kernel_rfl) (l_n ?_)
    exact trl_start (ks := [6, 16, 18, 2013]) (by kernel_rfl) (ih4 (s2.1.set s2.2.toNat s2.2, IntKind.i64.wrap (s2.2 + 1)) hM)
  · have hM := ite_false' hM h6
    refine tr_condFe (e := decide (s2.2 < ((List.replicate a0.toNat (0 : Int)).length : Int))) h6 (by kernel_rfl) ?_
    refine tr_exit (q_x (l_x (b_h (q_n ?_))))
    refine tr_sr hT hm [] [4, 2013] [(4, .d (.rs 1006 0 s2.1.length)), (2013, .r (.arr 1 (s2.1.flatMap eI.o) []))] .nil (by kernel_rfl) (by kernel_rfl) ?_
    refine tr_ret (rg_r ?_)
    obtain rfl := Option.some.inj hM
    exact retg (names := []) (.cons (lenO_flat eI_ok s2.1) .nil) (by kernel_rfl)

end Go.Proofs.Ythafadgnjkmfkaa.WvI
