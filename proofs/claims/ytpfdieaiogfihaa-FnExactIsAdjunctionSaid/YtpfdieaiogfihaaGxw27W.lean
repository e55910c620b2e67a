/- Walks. Printed by wip/gen. -/
import Derived.Test.YtpfdieaiogfihaaGxw27M
import Derived.Test.YtpfdieaiogfihaaGxwAW
import Derived.KernelRfl
namespace Go.Proofs.Ytpfdieaiogfihaa.Ww27
open Go.Gx Go.Proofs.Ytpfdieaiogfihaa.WvB Go.Proofs.Ytpfdieaiogfihaa.WwN Go.Proofs.Ytpfdieaiogfihaa.WvS Go.Proofs.Ytpfdieaiogfihaa.WvF Go.Proofs.Ytpfdieaiogfihaa.WwT Go.Proofs.Ytpfdieaiogfihaa.WwU Go.Proofs.Ytpfdieaiogfihaa.WvH Go.Proofs.Ytpfdieaiogfihaa.WvI Go.Proofs.Ytpfdieaiogfihaa.WwA

theorem eXCategory_r : EncR eXCategory := (eA_r (eC_r eI_r _) (eA_r (eC_r (eS_r eI_ok) _) (eA_r (eC_r (eS_r eI_ok) _) (eA_r (eC_r (eS_r eI_ok) _) (eC_r (eS_r (eS_ok eI_ok)) _)))))
theorem eXFunctor_r : EncR eXFunctor := (eA_r (eC_r eXCategory_r _) (eA_r (eC_r eXCategory_r _) (eA_r (eC_r (eS_r eI_ok) _) (eC_r (eS_r eI_ok) _))))
theorem eXends_r : EncR eXends := (eA_r (eC_r eI_r _) (eC_r eI_r _))
theorem eXTransformation_r : EncR eXTransformation := (eA_r (eC_r eXFunctor_r _) (eA_r (eC_r eXFunctor_r _) (eC_r (eS_r eI_ok) _)))
theorem eXAdjunction_r : EncR eXAdjunction := (eA_r (eC_r eXFunctor_r _) (eA_r (eC_r eXFunctor_r _) (eA_r (eC_r (eS_r eI_ok) _) (eC_r (eS_r eI_ok) _))))
def T : Tab := [(2, ⟨.int .i64, 1, 8, [.int .i64 0]⟩),
  (3, ⟨.int .i64, 1, 8, [.int .i64 0]⟩),
  (4, ⟨.bool, 1, 1, [.bool false]⟩),
  (22, ⟨.slice 2, 1, 24, [.slice .none 0 0]⟩),
  (23, ⟨.slice 22, 1, 24, [.slice .none 0 0]⟩),
  (25, ⟨.struct #[⟨"Objects", 2, 0, false, "", "", 0⟩, ⟨"From", 22, 1, false, "", "", 8⟩, ⟨"To", 22, 2, false, "", "", 32⟩, ⟨"Identity", 22, 3, false, "", "", 56⟩, ⟨"Composites", 23, 4, false, "", "", 80⟩], 5, 104, [.int .i64 0, .slice .none 0 0, .slice .none 0 0, .slice .none 0 0, .slice .none 0 0]⟩),
  (27, ⟨.struct #[⟨"Source", 25, 0, false, "", "", 0⟩, ⟨"Target", 25, 5, false, "", "", 104⟩, ⟨"Objects", 22, 10, false, "", "", 208⟩, ⟨"Arrows", 22, 11, false, "", "", 232⟩], 12, 256, [.int .i64 0, .slice .none 0 0, .slice .none 0 0, .slice .none 0 0, .slice .none 0 0, .int .i64 0, .slice .none 0 0, .slice .none 0 0, .slice .none 0 0, .slice .none 0 0, .slice .none 0 0, .slice .none 0 0]⟩),
  (32, ⟨.struct #[⟨"Objects", 2, 0, false, "", "", 0⟩, ⟨"From", 22, 1, false, "", "", 8⟩, ⟨"To", 22, 2, false, "", "", 32⟩, ⟨"Identity", 22, 3, false, "", "", 56⟩, ⟨"Composites", 23, 4, false, "", "", 80⟩], 5, 104, [.int .i64 0, .slice .none 0 0, .slice .none 0 0, .slice .none 0 0, .slice .none 0 0]⟩),
  (34, ⟨.struct #[⟨"Source", 32, 0, false, "", "", 0⟩, ⟨"Target", 32, 5, false, "", "", 104⟩, ⟨"Objects", 22, 10, false, "", "", 208⟩, ⟨"Arrows", 22, 11, false, "", "", 232⟩], 12, 256, [.int .i64 0, .slice .none 0 0, .slice .none 0 0, .slice .none 0 0, .slice .none 0 0, .int .i64 0, .slice .none 0 0, .slice .none 0 0, .slice .none 0 0, .slice .none 0 0, .slice .none 0 0, .slice .none 0 0]⟩),
  (41, ⟨.struct #[⟨"Left", 27, 0, false, "", "", 0⟩, ⟨"Right", 27, 12, false, "", "", 256⟩, ⟨"Unit", 22, 24, false, "", "", 512⟩, ⟨"Counit", 22, 25, false, "", "", 536⟩], 26, 560, [.int .i64 0, .slice .none 0 0, .slice .none 0 0, .slice .none 0 0, .slice .none 0 0, .int .i64 0, .slice .none 0 0, .slice .none 0 0, .slice .none 0 0, .slice .none 0 0, .slice .none 0 0, .slice .none 0 0, .int .i64 0, .slice .none 0 0, .slice .none 0 0, .slice .none 0 0, .slice .none 0 0, .int .i64 0, .slice .none 0 0, .slice .none 0 0, .slice .none 0 0, .slice .none 0 0, .slice .none 0 0, .slice .none 0 0, .slice .none 0 0, .slice .none 0 0]⟩),
  (45, ⟨.struct #[⟨"Left", 34, 0, false, "", "", 0⟩, ⟨"Right", 34, 12, false, "", "", 256⟩, ⟨"Unit", 22, 24, false, "", "", 512⟩, ⟨"Counit", 22, 25, false, "", "", 536⟩], 26, 560, [.int .i64 0, .slice .none 0 0, .slice .none 0 0, .slice .none 0 0, .slice .none 0 0, .int .i64 0, .slice .none 0 0, .slice .none 0 0, .slice .none 0 0, .slice .none 0 0, .slice .none 0 0, .slice .none 0 0, .int .i64 0, .slice .none 0 0, .slice .none 0 0, .slice .none 0 0, .slice .none 0 0, .int .i64 0, .slice .none 0 0, .slice .none 0 0, .slice .none 0 0, .slice .none 0 0, .slice .none 0 0, .slice .none 0 0, .slice .none 0 0, .slice .none 0 0]⟩)]
theorem hT : TabOk Try.prog T := ⟨tiok (by kernel_rfl) (by kernel_rfl), tiok (by kernel_rfl) (by kernel_rfl), tiok (by kernel_rfl) (by kernel_rfl), tiok (by kernel_rfl) (by kernel_rfl), tiok (by kernel_rfl) (by kernel_rfl), tiok (by kernel_rfl) (by kernel_rfl), tiok (by kernel_rfl) (by kernel_rfl), tiok (by kernel_rfl) (by kernel_rfl), tiok (by kernel_rfl) (by kernel_rfl), tiok (by kernel_rfl) (by kernel_rfl), tiok (by kernel_rfl) (by kernel_rfl), trivial⟩
theorem hm : Try.prog.follows .mixedOrders = true := by kernel_rfl

theorem ok21 : CallOk Try.prog 21 := callOk_of Try.func21 (by kernel_rfl) (by kernel_rfl)
theorem spec_IsAdjunction_c (a0 : XAdjunction) (r : Bool) (hM : M.spec_IsAdjunction a0 = some r) :
    FnC Try.prog 21 [] [.agg (eXAdjunction.b a0)] [] (bv r) := by
  refine fnc_startG (N := 5) (np := 500) hT Try.func21 rfl rfl (by kernel_rfl) ?_
  unfold M.spec_IsAdjunction at hM
  refine tr_start (ks := [0]) (st' := [(0, .d (.agg (eXAdjunction.b a0)))]) (by kernel_rfl) ?_
  refine tr_sr hT hm [] [2, 2003] [(2, .d (.rp 1001 0)), bxB 2003 (eXAdjunction.b a0)] .nil (by kernel_rfl) (by kernel_rfl) ?_
  obtain ⟨v1, hv1, hM⟩ := bind_some' hM
  refine tr_sr hT hm [(1, .call [] [] [.agg (eXAdjunction.b a0)] [] (bv v1))] [4] [(4, .d (bv v1))] (cc0 ok53 (spec_l15Is_c a0 _ hv1) (by kernel_rfl) .nil) (by kernel_rfl) (by kernel_rfl) ?_
  refine tr_ret (rg_r ?_)
  obtain rfl := Option.some.inj hM
  exact retg (names := []) .nil (by kernel_rfl)

theorem ok23 : CallOk Try.prog 23 := callOk_of Try.func23 (by kernel_rfl) (by kernel_rfl)
theorem impl_IsAdjunction_c (a0 : XAdjunction) (r : Bool) (hM : M.impl_IsAdjunction a0 = some r) :
    FnC Try.prog 23 [] [.agg (eXAdjunction.b a0)] [] (bv r) := by
  refine fnc_startG (N := 4) (np := 500) hT Try.func23 rfl rfl (by kernel_rfl) ?_
  unfold M.impl_IsAdjunction at hM
  refine tr_start (ks := [0]) (st' := [(0, .d (.agg (eXAdjunction.b a0)))]) (by kernel_rfl) ?_
  refine tr_sr hT hm [] [2, 2003] [(2, .d (.rp 1001 0)), bxB 2003 (eXAdjunction.b a0)] .nil (by kernel_rfl) (by kernel_rfl) ?_
  obtain ⟨v1, hv1, hM⟩ := bind_some' hM
  refine tr_sr hT hm [(0, .call [1001] [] [.pt (eXAdjunction.b a0) 0] [] (bv v1))] [4] [(4, .d (bv v1))] (cc (B := [1001]) (ρ := []) (rB := [(1001, .arr 1 [iv a0.Left.Source.Objects, .sl a0.Left.Source.From.length 0 (a0.Left.Source.From.flatMap eI.b), .sl a0.Left.Source.To.length 0 (a0.Left.Source.To.flatMap eI.b), .sl a0.Left.Source.Identity.length 0 (a0.Left.Source.Identity.flatMap eI.b), .sl a0.Left.Source.Composites.length 0 (a0.Left.Source.Composites.flatMap (eS eI).b), iv a0.Left.Target.Objects, .sl a0.Left.Target.From.length 0 (a0.Left.Target.From.flatMap eI.b), .sl a0.Left.Target.To.length 0 (a0.Left.Target.To.flatMap eI.b), .sl a0.Left.Target.Identity.length 0 (a0.Left.Target.Identity.flatMap eI.b), .sl a0.Left.Target.Composites.length 0 (a0.Left.Target.Composites.flatMap (eS eI).b), .sl a0.Left.Objects.length 0 (a0.Left.Objects.flatMap eI.b), .sl a0.Left.Arrows.length 0 (a0.Left.Arrows.flatMap eI.b), iv a0.Right.Source.Objects, .sl a0.Right.Source.From.length 0 (a0.Right.Source.From.flatMap eI.b), .sl a0.Right.Source.To.length 0 (a0.Right.Source.To.flatMap eI.b), .sl a0.Right.Source.Identity.length 0 (a0.Right.Source.Identity.flatMap eI.b), .sl a0.Right.Source.Composites.length 0 (a0.Right.Source.Composites.flatMap (eS eI).b), iv a0.Right.Target.Objects, .sl a0.Right.Target.From.length 0 (a0.Right.Target.From.flatMap eI.b), .sl a0.Right.Target.To.length 0 (a0.Right.Target.To.flatMap eI.b), .sl a0.Right.Target.Identity.length 0 (a0.Right.Target.Identity.flatMap eI.b), .sl a0.Right.Target.Composites.length 0 (a0.Right.Target.Composites.flatMap (eS eI).b), .sl a0.Right.Objects.length 0 (a0.Right.Objects.flatMap eI.b), .sl a0.Right.Arrows.length 0 (a0.Right.Arrows.flatMap eI.b), .sl a0.Unit.length 0 (a0.Unit.flatMap eI.b), .sl a0.Counit.length 0 (a0.Counit.flatMap eI.b)] [])]) ok54 (impl_Adjunction_isAdjunction_c a0 _ hv1) (.cons (.of1 (.rp (r := 1001) (sz := 1) (cells := [iv a0.Left.Source.Objects, .sl a0.Left.Source.From.length 0 (a0.Left.Source.From.flatMap eI.b), .sl a0.Left.Source.To.length 0 (a0.Left.Source.To.flatMap eI.b), .sl a0.Left.Source.Identity.length 0 (a0.Left.Source.Identity.flatMap eI.b), .sl a0.Left.Source.Composites.length 0 (a0.Left.Source.Composites.flatMap (eS eI).b), iv a0.Left.Target.Objects, .sl a0.Left.Target.From.length 0 (a0.Left.Target.From.flatMap eI.b), .sl a0.Left.Target.To.length 0 (a0.Left.Target.To.flatMap eI.b), .sl a0.Left.Target.Identity.length 0 (a0.Left.Target.Identity.flatMap eI.b), .sl a0.Left.Target.Composites.length 0 (a0.Left.Target.Composites.flatMap (eS eI).b), .sl a0.Left.Objects.length 0 (a0.Left.Objects.flatMap eI.b), .sl a0.Left.Arrows.length 0 (a0.Left.Arrows.flatMap eI.b), iv a0.Right.Source.Objects, .sl a0.Right.Source.From.length 0 (a0.Right.Source.From.flatMap eI.b), .sl a0.Right.Source.To.length 0 (a0.Right.Source.To.flatMap eI.b), .sl a0.Right.Source.Identity.length 0 (a0.Right.Source.Identity.flatMap eI.b), .sl a0.Right.Source.Composites.length 0 (a0.Right.Source.Composites.flatMap (eS eI).b), iv a0.Right.Target.Objects, .sl a0.Right.Target.From.length 0 (a0.Right.Target.From.flatMap eI.b), .sl a0.Right.Target.To.length 0 (a0.Right.Target.To.flatMap eI.b), .sl a0.Right.Target.Identity.length 0 (a0.Right.Target.Identity.flatMap eI.b), .sl a0.Right.Target.Composites.length 0 (a0.Right.Target.Composites.flatMap (eS eI).b), .sl a0.Right.Objects.length 0 (a0.Right.Objects.flatMap eI.b), .sl a0.Right.Arrows.length 0 (a0.Right.Arrows.flatMap eI.b), .sl a0.Unit.length 0 (a0.Unit.flatMap eI.b), .sl a0.Counit.length 0 (a0.Counit.flatMap eI.b)]) (refs := []) (memB (by kernel_rfl)) (by kernel_rfl) (.cons .v (.cons (.same rfl rfl) (.cons (.same rfl rfl) (.cons (.same rfl rfl) (.cons (.same rfl rfl) (.cons .v (.cons (.same rfl rfl) (.cons (.same rfl rfl) (.cons (.same rfl rfl) (.cons (.same rfl rfl) (.cons (.same rfl rfl) (.cons (.same rfl rfl) (.cons .v (.cons (.same rfl rfl) (.cons (.same rfl rfl) (.cons (.same rfl rfl) (.cons (.same rfl rfl) (.cons .v (.cons (.same rfl rfl) (.cons (.same rfl rfl) (.cons (.same rfl rfl) (.cons (.same rfl rfl) (.cons (.same rfl rfl) (.cons (.same rfl rfl) (.cons (.same rfl rfl) (.cons (.same rfl rfl) .nil)))))))))))))))))))))))))))) .nil) (.inr ⟨.v, trivial⟩) .nil) (by kernel_rfl) (by kernel_rfl) ?_
  refine tr_ret (rg_r ?_)
  obtain rfl := Option.some.inj hM
  exact retg (names := []) .nil (by kernel_rfl)

theorem ok4 : CallOk Try.prog 4 := callOk_of Try.func4 (by kernel_rfl) (by kernel_rfl)
theorem laws_FnExactIsAdjunction_c (a0 : XAdjunction) (r : Bool) (hM : M.laws_FnExactIsAdjunction a0 = some r) :
    FnC Try.prog 4 [] [.agg (eXAdjunction.b a0)] [] (bv r) := by
  refine fnc_startG (N := 27) (np := 500) hT Try.func4 rfl rfl (by kernel_rfl) ?_
  unfold M.laws_FnExactIsAdjunction at hM
  refine tr_start (ks := [0]) (st' := [(0, .d (.agg (eXAdjunction.b a0)))]) (by kernel_rfl) ?_
  refine tr_sr hT hm [] [2, 2003] [(2, .d (.rp 1001 0)), bxB 2003 (eXAdjunction.b a0)] .nil (by kernel_rfl) (by kernel_rfl) ?_
  refine tr_sr hT hm [] [2, 6, 2003] [(2, .d (.rp 1001 0)), (6, .d (iv 1048576)), bxB 2003 (eXAdjunction.b a0)] .nil (by kernel_rfl) (by kernel_rfl) ?_
  obtain ⟨v1, hv1, hM⟩ := bind_some' hM
  refine tr_sr hT hm [(2, .call [] [] [.agg (eXAdjunction.b a0), iv 1048576] [] (iv v1))] [2, 6, 2003] [(2, .d (.rp 1001 0)), (6, .d (iv v1)), bxB 2003 (eXAdjunction.b a0)] (cc0 ok20 (laws_szAdjunction_c a0 1048576 _ hv1) (by kernel_rfl) .nil) (by kernel_rfl) (by kernel_rfl) ?_
  refine tr_seq ?_
  refine tr_sr hT hm [] [2, 22, 2003] [(2, .d (.rp 1001 0)), (22, .d (bv (decide (v1 < 0)))), bxB 2003 (eXAdjunction.b a0)] .nil (by kernel_rfl) (by kernel_rfl) ?_
  rcases Bool.eq_false_or_eq_true (decide (v1 < 0)) with h2 | h2
  · have hM := ite_true' hM h2
    refine tr_condTe (e := decide (v1 < 0)) h2 (by kernel_rfl) ?_
    refine tr_sr hT hm [] [4] [(4, .d (bv true))] .nil (by kernel_rfl) (by kernel_rfl) ?_
    refine tr_ret (q_r (rg_r ?_))
    obtain rfl := Option.some.inj hM
    exact retg (names := []) .nil (by kernel_rfl)
  · have hM := ite_false' hM h2
    refine tr_condFe (e := decide (v1 < 0)) h2 (by kernel_rfl) ?_
    refine tr_skip (q_n ?_)
    obtain ⟨v3, hv3, hM⟩ := bind_some' hM
    obtain ⟨v4, hv4, hM⟩ := bind_some' hM
    refine tr_sr hT hm [(1, .call [] [] [.agg (eXAdjunction.b a0)] [] (.agg (eXAdjunction.o v3))), (2, .call (rsR 15000 (eXAdjunction.o v3)) [] [.agg (eXAdjunction.b v3)] [] (bv v4))] [2, 8, 2003] [(2, .d (.rp 1001 0)), (8, .d (bv v4)), bxB 2003 (eXAdjunction.b a0)] (cc0 ok22 (laws_toAdjunction_c a0 _ hv3) (by kernel_rfl) (cc (B := (rsR 15000 (eXAdjunction.o v3))) (ρ := []) (rB := (rsP 15000 (eXAdjunction.o v3))) ok21 (spec_IsAdjunction_c v3 _ hv4) (.cons (bor_rs eXAdjunction_r (q := 15000) (x := v3) (by kernel_rfl) (by kernel_rfl)) .nil) (.inr ⟨.v, trivial⟩) .nil)) (by kernel_rfl) (by kernel_rfl) ?_
    refine tr_sr hT hm [(1, .call [] [] [.agg (eXAdjunction.b a0)] [] (.agg (eXAdjunction.o v3)))] [2, 8, 10, 2003, 2011, 36003, 36005, 36007, 36009, 36013, 36015, 36017, 36019, 36021, 36023, 36027, 36029, 36031, 36033, 36037, 36039, 36041, 36043, 36045, 36047, 36049, 36051] ([(2, .d (.rp 1001 0)), (8, .d (bv v4)), (10, .d (.rp 1005 0)), bxB 2003 (eXAdjunction.b a0), bxO 2011 18000 (eXAdjunction.o v3)] ++ rsS 18000 (eXAdjunction.o v3)) (cc0 ok22 (laws_toAdjunction_c a0 _ hv3) (by kernel_rfl) (.cons (Nat.le_of_ble_eq_true (n := 26) (m := 26) rfl) .nil)) (by kernel_rfl) (by kernel_rfl) ?_
    obtain ⟨v5, hv5, hM⟩ := bind_some' hM
    refine tr_sr hT hm [(1, .call (rsR 18000 (eXAdjunction.o v3)) [] [.agg (eXAdjunction.b v3)] [] (bv v5))] [2, 8, 10, 12, 2003, 2011, 36003, 36005, 36007, 36009, 36013, 36015, 36017, 36019, 36021, 36023, 36027, 36029, 36031, 36033, 36037, 36039, 36041, 36043, 36045, 36047, 36049, 36051] ([(2, .d (.rp 1001 0)), (8, .d (bv v4)), (10, .d (.rp 1005 0)), (12, .d (bv v5)), bxB 2003 (eXAdjunction.b a0), bxO 2011 18000 (eXAdjunction.o v3)] ++ rsS 18000 (eXAdjunction.o v3)) (cc (B := (rsR 18000 (eXAdjunction.o v3))) (ρ := []) (rB := (rsP 18000 (eXAdjunction.o v3))) ok23 (impl_IsAdjunction_c v3 _ hv5) (.cons (bor_rs eXAdjunction_r (q := 18000) (x := v3) (by kernel_rfl) (by kernel_rfl)) .nil) (.inr ⟨.v, trivial⟩) .nil) (by kernel_rfl) (by kernel_rfl) ?_
    refine tr_seq ?_
    refine tr_sr hT hm [] [2, 10, 42, 2003, 2011, 36003, 36005, 36007, 36009, 36013, 36015, 36017, 36019, 36021, 36023, 36027, 36029, 36031, 36033, 36037, 36039, 36041, 36043, 36045, 36047, 36049, 36051] ([(2, .d (.rp 1001 0)), (10, .d (.rp 1005 0)), (42, .d (bv ((v5 == v4) == false))), bxB 2003 (eXAdjunction.b a0), bxO 2011 18000 (eXAdjunction.o v3)] ++ rsS 18000 (eXAdjunction.o v3)) .nil (by kernel_rfl) (by kernel_rfl) ?_
    rcases Bool.eq_false_or_eq_true ((v5 == v4) == false) with h6 | h6
    · have hM := ite_true' hM h6
      refine tr_condTe (e := (v5 == v4) == false) h6 (by kernel_rfl) ?_
      refine tr_sr hT hm [] [4] [(4, .d (bv false))] .nil (by kernel_rfl) (by kernel_rfl) ?_
      refine tr_ret (q_r (rg_r ?_))
      obtain rfl := Option.some.inj hM
      exact retg (names := []) .nil (by kernel_rfl)
    · have hM := ite_false' hM h6
      refine tr_condFe (e := (v5 == v4) == false) h6 (by kernel_rfl) ?_
      refine tr_skip (q_n ?_)
      refine tr_seq ?_
      obtain ⟨v7, hv7, hM⟩ := bind_some' hM
      refine tr_sr hT hm [(2, .call [] [] [.agg (eXAdjunction.b a0)] [] (.agg (eXAdjunction.o v3))), (3, .call (rsR 18000 (eXAdjunction.o v3) ++ rsR 26000 (eXAdjunction.o v3)) [] [.agg (eXAdjunction.b v3), .agg (eXAdjunction.b v3)] [] (bv v7))] [52] [(52, .d (bv (!v7)))] (cc0 ok22 (laws_toAdjunction_c a0 _ hv3) (by kernel_rfl) (cc (B := (rsR 18000 (eXAdjunction.o v3) ++ rsR 26000 (eXAdjunction.o v3))) (ρ := []) (rB := (rsP 18000 (eXAdjunction.o v3) ++ rsP 26000 (eXAdjunction.o v3))) ok24 (laws_eqAdjunction_c v3 v3 _ hv7) (.cons (bor_rs eXAdjunction_r (q := 18000) (x := v3) (by kernel_rfl) (by kernel_rfl)) (.cons (bor_rs eXAdjunction_r (q := 26000) (x := v3) (by kernel_rfl) (by kernel_rfl)) .nil)) (.inr ⟨.v, trivial⟩) .nil)) (by kernel_rfl) (by kernel_rfl) ?_
      rcases Bool.eq_false_or_eq_true v7 with h8 | h8
      · have hM := ite_true' hM h8
        refine tr_condFe (e := !v7) (congrArg not h8) (by kernel_rfl) ?_
        refine tr_skip (q_n ?_)
        refine tr_sr hT hm [] [4] [(4, .d (bv true))] .nil (by kernel_rfl) (by kernel_rfl) ?_
        refine tr_ret (rg_r ?_)
        obtain rfl := Option.some.inj hM
        exact retg (names := []) .nil (by kernel_rfl)
      · have hM := ite_false' hM h8
        refine tr_condTe (e := !v7) (congrArg not h8) (by kernel_rfl) ?_
        refine tr_sr hT hm [] [4] [(4, .d (bv false))] .nil (by kernel_rfl) (by kernel_rfl) ?_
        refine tr_ret (q_r (rg_r ?_))
        obtain rfl := Option.some.inj hM
        exact retg (names := []) .nil (by kernel_rfl)

end Go.Proofs.Ytpfdieaiogfihaa.Ww27
