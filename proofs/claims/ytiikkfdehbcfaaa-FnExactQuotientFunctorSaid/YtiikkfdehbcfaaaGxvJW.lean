/- Walks. Printed by wip/gen. -/
import Derived.Test.YtiikkfdehbcfaaaGxEM0
import Derived.Test.YtiikkfdehbcfaaaGxEO0
import Derived.Test.YtiikkfdehbcfaaaGxvIW
import Derived.KernelRfl
namespace Go.Proofs.Ytiikkfdehbcfaaa.WvJ
open Go.Gx Go.Proofs.Ytiikkfdehbcfaaa.WvB Go.Proofs.Ytiikkfdehbcfaaa.WvI

theorem eXCategory_r : EncR eXCategory := (eA_r (eC_r eI_r _) (eA_r (eC_r (eS_r eI_ok) _) (eA_r (eC_r (eS_r eI_ok) _) (eA_r (eC_r (eS_r eI_ok) _) (eC_r (eS_r (eS_ok eI_ok)) _)))))
theorem eXFunctor_r : EncR eXFunctor := (eA_r (eC_r eXCategory_r _) (eA_r (eC_r eXCategory_r _) (eA_r (eC_r (eS_r eI_ok) _) (eC_r (eS_r eI_ok) _))))
def T : Tab := [(2, ⟨.int .i64, 1, 8, [.int .i64 0]⟩),
  (22, ⟨.slice 2, 1, 24, [.slice .none 0 0]⟩),
  (23, ⟨.slice 22, 1, 24, [.slice .none 0 0]⟩),
  (34, ⟨.struct #[⟨"Objects", 2, 0, false, "", "", 0⟩, ⟨"From", 22, 1, false, "", "", 8⟩, ⟨"To", 22, 2, false, "", "", 32⟩, ⟨"Identity", 22, 3, false, "", "", 56⟩, ⟨"Composites", 23, 4, false, "", "", 80⟩], 5, 104, [.int .i64 0, .slice .none 0 0, .slice .none 0 0, .slice .none 0 0, .slice .none 0 0]⟩),
  (36, ⟨.struct #[⟨"Source", 34, 0, false, "", "", 0⟩, ⟨"Target", 34, 5, false, "", "", 104⟩, ⟨"Objects", 22, 10, false, "", "", 208⟩, ⟨"Arrows", 22, 11, false, "", "", 232⟩], 12, 256, [.int .i64 0, .slice .none 0 0, .slice .none 0 0, .slice .none 0 0, .slice .none 0 0, .int .i64 0, .slice .none 0 0, .slice .none 0 0, .slice .none 0 0, .slice .none 0 0, .slice .none 0 0, .slice .none 0 0]⟩)]
theorem hT : TabOk Try.prog T := ⟨tiok (by kernel_rfl) (by kernel_rfl), tiok (by kernel_rfl) (by kernel_rfl), tiok (by kernel_rfl) (by kernel_rfl), tiok (by kernel_rfl) (by kernel_rfl), tiok (by kernel_rfl) (by kernel_rfl), trivial⟩
theorem hm : Try.prog.follows .mixedOrders = true := by kernel_rfl

theorem ok124 : CallOk Try.prog 124 := callOk_of Try.func124 (by kernel_rfl) (by kernel_rfl)
theorem spec_l06Self_c (a0 : XCategory) (r : XFunctor) (hM : M.spec_l06Self a0 = some r) :
    FnC Try.prog 124 [] [.agg (eXCategory.b a0)] [] (.agg (eXFunctor.o r)) := by
  refine fnc_startG (N := 35) (np := 500) hT Try.func124 rfl rfl (by kernel_rfl) ?_
  unfold M.spec_l06Self at hM
  refine tr_start (ks := [0]) (st' := [(0, .d (.agg (eXCategory.b a0)))]) (by kernel_rfl) ?_
  refine tr_sr hT hm [] [2, 4, 2003, 2005] [(2, .d (.rp 1001 0)), (4, .d (.rp 1002 0)), bxB 2003 (eXCategory.b a0), (2005, .r (.arr 1 [iv 0, nilv, nilv, nilv, nilv, iv 0, nilv, nilv, nilv, nilv, nilv, nilv] []))] .nil (by kernel_rfl) (by kernel_rfl) ?_
  refine tr_sr hT hm [] [2, 4, 6, 8, 2003, 2005, 2015, 2017] [(2, .d (.rp 1001 0)), (4, .d (.rp 1002 0)), (6, .d (.rs 1007 0 (([] : List Int).length))), (8, .d (.rs 1008 0 (([] : List Int).length))), bxB 2003 (eXCategory.b a0), (2005, .r (.arr 1 [iv 0, nilv, nilv, nilv, nilv, iv 0, nilv, nilv, nilv, nilv, nilv, nilv] [])), (2015, .r (.arr 1 (([] : List Int).flatMap eI.o) [])), (2017, .r (.arr 1 (([] : List Int).flatMap eI.o) []))] .nil (by kernel_rfl) (by kernel_rfl) ?_
  refine tr_seq ?_
  refine tr_sr hT hm [] [2, 4, 6, 8, 10, 2003, 2005, 2015, 2017] [(2, .d (.rp 1001 0)), (4, .d (.rp 1002 0)), (6, .d (.rs 1007 0 (([] : List Int).length))), (8, .d (.rs 1008 0 (([] : List Int).length))), (10, .d (iv 0)), bxB 2003 (eXCategory.b a0), (2005, .r (.arr 1 [iv 0, nilv, nilv, nilv, nilv, iv 0, nilv, nilv, nilv, nilv, nilv, nilv] [])), (2015, .r (.arr 1 (([] : List Int).flatMap eI.o) [])), (2017, .r (.arr 1 (([] : List Int).flatMap eI.o) []))] .nil (by kernel_rfl) (by kernel_rfl) ?_
  refine tr_block ?_
  refine tr_iterS (fun (s1 : (List Int) × Int) => [(2, .d (.rp 1001 0)), (4, .d (.rp 1002 0)), (6, .d (.rs 1007 0 s1.1.length)), (8, .d (.rs 1008 0 (([] : List Int).length))), (10, .d (iv s1.2)), bxB 2003 (eXCategory.b a0), (2005, .r (.arr 1 [iv 0, nilv, nilv, nilv, nilv, iv 0, nilv, nilv, nilv, nilv, nilv, nilv] [])), (2015, .r (.arr 1 (s1.1.flatMap eI.o) [])), (2017, .r (.arr 1 (([] : List Int).flatMap eI.o) []))]) (([] : List Int), 0) [2, 4, 6, 8, 10, 2003, 2005, 2015, 2017] (by kernel_rfl) hM ?_
  intro n4 next2 ih3 s1 hM
  refine tr_seq ?_
  refine tr_sr hT hm [] [2, 4, 6, 8, 10, 24, 2003, 2005, 2015, 2017] [(2, .d (.rp 1001 0)), (4, .d (.rp 1002 0)), (6, .d (.rs 1007 0 s1.1.length)), (8, .d (.rs 1008 0 (([] : List Int).length))), (10, .d (iv s1.2)), (24, .d (bv (decide (s1.2 < a0.Objects)))), bxB 2003 (eXCategory.b a0), (2005, .r (.arr 1 [iv 0, nilv, nilv, nilv, nilv, iv 0, nilv, nilv, nilv, nilv, nilv, nilv] [])), (2015, .r (.arr 1 (s1.1.flatMap eI.o) [])), (2017, .r (.arr 1 (([] : List Int).flatMap eI.o) []))] .nil (by kernel_rfl) (by kernel_rfl) ?_
  rcases Bool.eq_false_or_eq_true (decide (s1.2 < a0.Objects)) with h5 | h5
  · have hM := ite_true' hM h5
    refine tr_condTe (e := decide (s1.2 < a0.Objects)) h5 (by kernel_rfl) ?_
    refine tr_skip (q_n ?_)
    refine tr_seq ?_
    refine tr_block ?_
    obtain ⟨h6, hM⟩ := chk_some hM
    refine tr_r hT hm [(3, .app true)] [2, 4, 6, 8, 10, 2003, 2005, 2017, 2037] [(2, .d (.rp 1001 0)), (4, .d (.rp 1002 0)), (6, .d (.rs 1018 0 (s1.1.length + (([s1.2] : List Int).length)))), (8, .d (.rs 1008 0 (([] : List Int).length))), (10, .d (iv s1.2)), bxB 2003 (eXCategory.b a0), (2005, .r (.arr 1 [iv 0, nilv, nilv, nilv, nilv, iv 0, nilv, nilv, nilv, nilv, nilv, nilv] [])), (2017, .r (.arr 1 (([] : List Int).flatMap eI.o) [])), (2037, .r (.arr 1 (s1.1.flatMap eI.o ++ ([s1.2] : List Int).flatMap eI.o) []))] (.cons (lenO_flat eI_ok s1.1) (.cons (lenO_flat eI_ok ([s1.2] : List Int)) (.cons h6 .nil))) (by kernel_rfl) (by kernel_rfl) (b_n (q_n ?_))
    refine Tr.by (imp_cvE (r := 1018) (sz := 1) (refs := []) (flat_app eI.o s1.1 ([s1.2] : List Int)) (menO_flat eI_ok _) (by kernel_rfl)) ?_
    refine Tr.by (imp_cvD (k := 6) (congrArg (D.rs 1018 0) ((len_app s1.1 ([s1.2] : List Int)) : s1.1.length + (([s1.2] : List Int).length) = (s1.1 ++ ([s1.2] : List Int)).length)) (by kernel_rfl)) ?_
    refine tr_r hT hm [] [2, 4, 6, 8, 10, 2003, 2005, 2017, 2037] [(2, .d (.rp 1001 0)), (4, .d (.rp 1002 0)), (6, .d (.rs 1018 0 ((s1.1 ++ ([s1.2] : List Int)).length))), (8, .d (.rs 1008 0 (([] : List Int).length))), (10, .d (iv (IntKind.i64.wrap (s1.2 + 1)))), bxB 2003 (eXCategory.b a0), (2005, .r (.arr 1 [iv 0, nilv, nilv, nilv, nilv, iv 0, nilv, nilv, nilv, nilv, nilv, nilv] [])), (2017, .r (.arr 1 (([] : List Int).flatMap eI.o) [])), (2037, .r (.arr 1 ((s1.1 ++ ([s1.2] : List Int)).flatMap eI.o) []))] .nil (by kernel_rfl) (by kernel_rfl) (l_n ?_)
    refine TrL.by (imp_sel (ks := [2, 4, 6, 8, 10, 2003, 2005, 2017, 2037]) (st' := [(2, .d (.rp 1001 0)), (4, .d (.rp 1002 0)), (6, .d (.rs 1018 0 ((s1.1 ++ ([s1.2] : List Int)).length))), (8, .d (.rs 1008 0 (([] : List Int).length))), (10, .d (iv (IntKind.i64.wrap (s1.2 + 1)))), bxB 2003 (eXCategory.b a0), (2005, .r (.arr 1 [iv 0, nilv, nilv, nilv, nilv, iv 0, nilv, nilv, nilv, nilv, nilv, nilv] [])), (2017, .r (.arr 1 (([] : List Int).flatMap eI.o) [])), (2037, .r (.arr 1 ((s1.1 ++ ([s1.2] : List Int)).flatMap eI.o) []))]) (by kernel_rfl)) ?_
    refine TrL.by (imp_rename (r := 1018) (q := 1007) (by kernel_rfl) (Nat.le_of_ble_eq_true rfl)) ?_
    exact trl_start (ks := [2, 4, 6, 8, 10, 2003, 2005, 2015, 2017]) (by kernel_rfl) (ih3 (s1.1 ++ ([s1.2] : List Int), IntKind.i64.wrap (s1.2 + 1)) hM)
  · have hM := ite_false' hM h5
    refine tr_condFe (e := decide (s1.2 < a0.Objects)) h5 (by kernel_rfl) ?_
    refine tr_exit (q_x (l_x (b_h (q_n ?_))))
    refine tr_seq ?_
    refine tr_sr hT hm [] [2, 4, 6, 8, 12, 2003, 2005, 2015, 2017] [(2, .d (.rp 1001 0)), (4, .d (.rp 1002 0)), (6, .d (.rs 1007 0 s1.1.length)), (8, .d (.rs 1008 0 (([] : List Int).length))), (12, .d (iv 0)), bxB 2003 (eXCategory.b a0), (2005, .r (.arr 1 [iv 0, nilv, nilv, nilv, nilv, iv 0, nilv, nilv, nilv, nilv, nilv, nilv] [])), (2015, .r (.arr 1 (s1.1.flatMap eI.o) [])), (2017, .r (.arr 1 (([] : List Int).flatMap eI.o) []))] .nil (by kernel_rfl) (by kernel_rfl) ?_
    refine tr_block ?_
    refine tr_iterS (fun (s7 : (List Int) × Int) => [(2, .d (.rp 1001 0)), (4, .d (.rp 1002 0)), (6, .d (.rs 1007 0 s1.1.length)), (8, .d (.rs 1008 0 s7.1.length)), (12, .d (iv s7.2)), bxB 2003 (eXCategory.b a0), (2005, .r (.arr 1 [iv 0, nilv, nilv, nilv, nilv, iv 0, nilv, nilv, nilv, nilv, nilv, nilv] [])), (2015, .r (.arr 1 (s1.1.flatMap eI.o) [])), (2017, .r (.arr 1 (s7.1.flatMap eI.o) []))]) (([] : List Int), 0) [2, 4, 6, 8, 12, 2003, 2005, 2015, 2017] (by kernel_rfl) hM ?_
    intro n10 next8 ih9 s7 hM
    refine tr_seq ?_
    refine tr_sr hT hm [] [2, 4, 6, 8, 12, 46, 2003, 2005, 2015, 2017] [(2, .d (.rp 1001 0)), (4, .d (.rp 1002 0)), (6, .d (.rs 1007 0 s1.1.length)), (8, .d (.rs 1008 0 s7.1.length)), (12, .d (iv s7.2)), (46, .d (bv (decide (s7.2 < (a0.From.length : Int))))), bxB 2003 (eXCategory.b a0), (2005, .r (.arr 1 [iv 0, nilv, nilv, nilv, nilv, iv 0, nilv, nilv, nilv, nilv, nilv, nilv] [])), (2015, .r (.arr 1 (s1.1.flatMap eI.o) [])), (2017, .r (.arr 1 (s7.1.flatMap eI.o) []))] .nil (by kernel_rfl) (by kernel_rfl) ?_
    rcases Bool.eq_false_or_eq_true (decide (s7.2 < (a0.From.length : Int))) with h11 | h11
    · have hM := ite_true' hM h11
      refine tr_condTe (e := decide (s7.2 < (a0.From.length : Int))) h11 (by kernel_rfl) ?_
      refine tr_skip (q_n ?_)
      refine tr_seq ?_
      refine tr_block ?_
      obtain ⟨h12, hM⟩ := chk_some hM
      refine tr_r hT hm [(3, .app true)] [2, 4, 6, 8, 12, 2003, 2005, 2015, 2059] [(2, .d (.rp 1001 0)), (4, .d (.rp 1002 0)), (6, .d (.rs 1007 0 s1.1.length)), (8, .d (.rs 1029 0 (s7.1.length + (([s7.2] : List Int).length)))), (12, .d (iv s7.2)), bxB 2003 (eXCategory.b a0), (2005, .r (.arr 1 [iv 0, nilv, nilv, nilv, nilv, iv 0, nilv, nilv, nilv, nilv, nilv, nilv] [])), (2015, .r (.arr 1 (s1.1.flatMap eI.o) [])), (2059, .r (.arr 1 (s7.1.flatMap eI.o ++ ([s7.2] : List Int).flatMap eI.o) []))] (.cons (lenO_flat eI_ok s7.1) (.cons (lenO_flat eI_ok ([s7.2] : List Int)) (.cons h12 .nil))) (by kernel_rfl) (by kernel_rfl) (b_n (q_n ?_))
      refine Tr.by (imp_cvE (r := 1029) (sz := 1) (refs := []) (flat_app eI.o s7.1 ([s7.2] : List Int)) (menO_flat eI_ok _) (by kernel_rfl)) ?_
      refine Tr.by (imp_cvD (k := 8) (congrArg (D.rs 1029 0) ((len_app s7.1 ([s7.2] : List Int)) : s7.1.length + (([s7.2] : List Int).length) = (s7.1 ++ ([s7.2] : List Int)).length)) (by kernel_rfl)) ?_
      refine tr_r hT hm [] [2, 4, 6, 8, 12, 2003, 2005, 2015, 2059] [(2, .d (.rp 1001 0)), (4, .d (.rp 1002 0)), (6, .d (.rs 1007 0 s1.1.length)), (8, .d (.rs 1029 0 ((s7.1 ++ ([s7.2] : List Int)).length))), (12, .d (iv (IntKind.i64.wrap (s7.2 + 1)))), bxB 2003 (eXCategory.b a0), (2005, .r (.arr 1 [iv 0, nilv, nilv, nilv, nilv, iv 0, nilv, nilv, nilv, nilv, nilv, nilv] [])), (2015, .r (.arr 1 (s1.1.flatMap eI.o) [])), (2059, .r (.arr 1 ((s7.1 ++ ([s7.2] : List Int)).flatMap eI.o) []))] .nil (by kernel_rfl) (by kernel_rfl) (l_n ?_)
      refine TrL.by (imp_sel (ks := [2, 4, 6, 8, 12, 2003, 2005, 2015, 2059]) (st' := [(2, .d (.rp 1001 0)), (4, .d (.rp 1002 0)), (6, .d (.rs 1007 0 s1.1.length)), (8, .d (.rs 1029 0 ((s7.1 ++ ([s7.2] : List Int)).length))), (12, .d (iv (IntKind.i64.wrap (s7.2 + 1)))), bxB 2003 (eXCategory.b a0), (2005, .r (.arr 1 [iv 0, nilv, nilv, nilv, nilv, iv 0, nilv, nilv, nilv, nilv, nilv, nilv] [])), (2015, .r (.arr 1 (s1.1.flatMap eI.o) [])), (2059, .r (.arr 1 ((s7.1 ++ ([s7.2] : List Int)).flatMap eI.o) []))]) (by kernel_rfl)) ?_
      refine TrL.by (imp_rename (r := 1029) (q := 1008) (by kernel_rfl) (Nat.le_of_ble_eq_true rfl)) ?_
      exact trl_start (ks := [2, 4, 6, 8, 12, 2003, 2005, 2015, 2017]) (by kernel_rfl) (ih9 (s7.1 ++ ([s7.2] : List Int), IntKind.i64.wrap (s7.2 + 1)) hM)
    · have hM := ite_false' hM h11
      refine tr_condFe (e := decide (s7.2 < (a0.From.length : Int))) h11 (by kernel_rfl) ?_
      refine tr_exit (q_x (l_x (b_h (q_n ?_))))
      obtain ⟨v13, hv13, hM⟩ := bind_some' hM
      refine tr_sr hT hm [(4, .call [1007, 1008] [] [.agg (eXCategory.b a0), .agg (eXCategory.b a0), .sl s1.1.length 0 (s1.1.flatMap eI.b), .sl s7.1.length 0 (s7.1.flatMap eI.b)] [] (.agg (eXFunctor.o v13)))] [4, 2005, 72003, 72005, 72007, 72009, 72013, 72015, 72017, 72019, 72021, 72023] ([(4, .d (.rp 1002 0)), bxO 2005 36000 (eXFunctor.o v13)] ++ rsS 36000 (eXFunctor.o v13)) (cc (B := [1007, 1008]) (ρ := []) (rB := [(1007, .arr 1 (s1.1.flatMap eI.o) []), (1008, .arr 1 (s7.1.flatMap eI.o) [])]) ok102 (spec_l06Make_c a0 a0 s1.1 s7.1 _ hv13) (.cons (.same rfl) (.cons (.same rfl) (.cons (.of1 (.rs (r := 1007) (sz := 1) (refs := []) (memB (by kernel_rfl)) (by kernel_rfl) (bor_flat eI_ok _ _ _))) (.cons (.of1 (.rs (r := 1008) (sz := 1) (refs := []) (memB (by kernel_rfl)) (by kernel_rfl) (bor_flat eI_ok _ _ _))) .nil)))) (.inr ⟨(.agg (eXFunctor_nb _)), trivial⟩) (.cons (Nat.le_of_ble_eq_true (n := 12) (m := 12) rfl) .nil)) (by kernel_rfl) (by kernel_rfl) ?_
      refine tr_ret (rg_r ?_)
      obtain rfl := Option.some.inj hM
      exact retg (names := []) (.cons (lenO_flat eI_ok v13.Source.From) (.cons (lenO_flat eI_ok v13.Source.To) (.cons (lenO_flat eI_ok v13.Source.Identity) (.cons (lenO_flat (eS_ok eI_ok) v13.Source.Composites) (.cons (lenO_flat eI_ok v13.Target.From) (.cons (lenO_flat eI_ok v13.Target.To) (.cons (lenO_flat eI_ok v13.Target.Identity) (.cons (lenO_flat (eS_ok eI_ok) v13.Target.Composites) (.cons (lenO_flat eI_ok v13.Objects) (.cons (lenO_flat eI_ok v13.Arrows) .nil)))))))))) (by kernel_rfl)

end Go.Proofs.Ytiikkfdehbcfaaa.WvJ
