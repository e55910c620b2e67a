/- Walks. Printed by wip/gen. -/
import Derived.Test.YtiikkfdehbcfaaaGxEM3
import Derived.Test.YtiikkfdehbcfaaaGxEO0
import Derived.Test.YtiikkfdehbcfaaaGxzNW
import Derived.KernelRfl
namespace Go.Proofs.Ytiikkfdehbcfaaa.Wz02
open Go.Gx Go.Proofs.Ytiikkfdehbcfaaa.WvB Go.Proofs.Ytiikkfdehbcfaaa.WyT Go.Proofs.Ytiikkfdehbcfaaa.WyP Go.Proofs.Ytiikkfdehbcfaaa.WyO Go.Proofs.Ytiikkfdehbcfaaa.WyN Go.Proofs.Ytiikkfdehbcfaaa.WzN

theorem eXCategory_r : EncR eXCategory := (eA_r (eC_r eI_r _) (eA_r (eC_r (eS_r eI_ok) _) (eA_r (eC_r (eS_r eI_ok) _) (eA_r (eC_r (eS_r eI_ok) _) (eC_r (eS_r (eS_ok eI_ok)) _)))))
theorem eXFunctor_r : EncR eXFunctor := (eA_r (eC_r eXCategory_r _) (eA_r (eC_r eXCategory_r _) (eA_r (eC_r (eS_r eI_ok) _) (eC_r (eS_r eI_ok) _))))
theorem eXCone_r : EncR eXCone := (eA_r (eC_r eI_r _) (eC_r (eS_r eI_ok) _))
def T : Tab := [(2, ⟨.int .i64, 1, 8, [.int .i64 0]⟩),
  (3, ⟨.int .i64, 1, 8, [.int .i64 0]⟩),
  (4, ⟨.bool, 1, 1, [.bool false]⟩),
  (22, ⟨.slice 2, 1, 24, [.slice .none 0 0]⟩),
  (23, ⟨.slice 22, 1, 24, [.slice .none 0 0]⟩),
  (25, ⟨.struct #[⟨"Objects", 2, 0, false, "", "", 0⟩, ⟨"From", 22, 1, false, "", "", 8⟩, ⟨"To", 22, 2, false, "", "", 32⟩, ⟨"Identity", 22, 3, false, "", "", 56⟩, ⟨"Composites", 23, 4, false, "", "", 80⟩], 5, 104, [.int .i64 0, .slice .none 0 0, .slice .none 0 0, .slice .none 0 0, .slice .none 0 0]⟩),
  (27, ⟨.struct #[⟨"Source", 25, 0, false, "", "", 0⟩, ⟨"Target", 25, 5, false, "", "", 104⟩, ⟨"Objects", 22, 10, false, "", "", 208⟩, ⟨"Arrows", 22, 11, false, "", "", 232⟩], 12, 256, [.int .i64 0, .slice .none 0 0, .slice .none 0 0, .slice .none 0 0, .slice .none 0 0, .int .i64 0, .slice .none 0 0, .slice .none 0 0, .slice .none 0 0, .slice .none 0 0, .slice .none 0 0, .slice .none 0 0]⟩),
  (29, ⟨.struct #[⟨"Apex", 2, 0, false, "", "", 0⟩, ⟨"Legs", 22, 1, false, "", "", 8⟩], 2, 32, [.int .i64 0, .slice .none 0 0]⟩),
  (34, ⟨.struct #[⟨"Objects", 2, 0, false, "", "", 0⟩, ⟨"From", 22, 1, false, "", "", 8⟩, ⟨"To", 22, 2, false, "", "", 32⟩, ⟨"Identity", 22, 3, false, "", "", 56⟩, ⟨"Composites", 23, 4, false, "", "", 80⟩], 5, 104, [.int .i64 0, .slice .none 0 0, .slice .none 0 0, .slice .none 0 0, .slice .none 0 0]⟩),
  (36, ⟨.struct #[⟨"Source", 34, 0, false, "", "", 0⟩, ⟨"Target", 34, 5, false, "", "", 104⟩, ⟨"Objects", 22, 10, false, "", "", 208⟩, ⟨"Arrows", 22, 11, false, "", "", 232⟩], 12, 256, [.int .i64 0, .slice .none 0 0, .slice .none 0 0, .slice .none 0 0, .slice .none 0 0, .int .i64 0, .slice .none 0 0, .slice .none 0 0, .slice .none 0 0, .slice .none 0 0, .slice .none 0 0, .slice .none 0 0]⟩),
  (38, ⟨.struct #[⟨"Apex", 2, 0, false, "", "", 0⟩, ⟨"Legs", 22, 1, false, "", "", 8⟩], 2, 32, [.int .i64 0, .slice .none 0 0]⟩)]
theorem hT : TabOk Try.prog T := ⟨tiok (by kernel_rfl) (by kernel_rfl), tiok (by kernel_rfl) (by kernel_rfl), tiok (by kernel_rfl) (by kernel_rfl), tiok (by kernel_rfl) (by kernel_rfl), tiok (by kernel_rfl) (by kernel_rfl), tiok (by kernel_rfl) (by kernel_rfl), tiok (by kernel_rfl) (by kernel_rfl), tiok (by kernel_rfl) (by kernel_rfl), tiok (by kernel_rfl) (by kernel_rfl), tiok (by kernel_rfl) (by kernel_rfl), tiok (by kernel_rfl) (by kernel_rfl), trivial⟩
theorem hm : Try.prog.follows .mixedOrders = true := by kernel_rfl

theorem ok17 : CallOk Try.prog 17 := callOk_of Try.func17 (by kernel_rfl) (by kernel_rfl)
theorem spec_IsCocone_c (a0 : XFunctor) (a1 : XCone) (r : Bool × Int) (hM : M.spec_IsCocone a0 a1 = some r) :
    FnC Try.prog 17 [] [.agg (eXFunctor.b a0), .agg (eXCone.b a1)] [] (.tup [bv r.1, iv r.2]) := by
  refine fnc_startG (N := 13) (np := 500) hT Try.func17 rfl rfl (by kernel_rfl) ?_
  unfold M.spec_IsCocone at hM
  refine tr_start (ks := [0, 2]) (st' := [(0, .d (.agg (eXFunctor.b a0))), (2, .d (.agg (eXCone.b a1)))]) (by kernel_rfl) ?_
  refine tr_sr hT hm [] [4, 6, 2005, 2007] [(4, .d (.rp 1002 0)), (6, .d (.rp 1003 0)), bxB 2005 (eXFunctor.b a0), bxB 2007 (eXCone.b a1)] .nil (by kernel_rfl) (by kernel_rfl) ?_
  refine tr_seq ?_
  obtain ⟨v1, hv1, hM⟩ := bind_some' hM
  refine tr_sr hT hm [(1, .call [] [] [.agg (eXFunctor.b a0)] [] (bv v1))] [4, 6, 16, 2005, 2007] [(4, .d (.rp 1002 0)), (6, .d (.rp 1003 0)), (16, .d (bv (!v1))), bxB 2005 (eXFunctor.b a0), bxB 2007 (eXCone.b a1)] (cc0 ok78 (spec_l06Is_c a0 _ hv1) (by kernel_rfl) .nil) (by kernel_rfl) (by kernel_rfl) ?_
  rcases Bool.eq_false_or_eq_true v1 with h2 | h2
  · have hM := ite_true' hM h2
    refine tr_condFe (e := !v1) (congrArg not h2) (by kernel_rfl) ?_
    refine tr_skip (q_n ?_)
    obtain ⟨v3, hv3, hM⟩ := bind_some' hM
    obtain ⟨v4, hv4, hM⟩ := bind_some' hM
    refine tr_sr hT hm [(1, .call [] [] [.agg (eXFunctor.b a0)] [] (.agg (eXFunctor.o v3))), (3, .call (rsR 12000 (eXFunctor.o v3)) [] [.agg (eXFunctor.b v3), .agg (eXCone.b a1)] [] (bv v4))] [8, 10] [(8, .d (bv v4)), (10, .d (iv 0))] (cc0 ok80 (spec_l06Op_c a0 _ hv3) (by kernel_rfl) (cc (B := (rsR 12000 (eXFunctor.o v3))) (ρ := []) (rB := (rsP 12000 (eXFunctor.o v3))) ok79 (spec_l12Cone_c v3 a1 _ hv4) (.cons (bor_rs eXFunctor_r (q := 12000) (x := v3) (by kernel_rfl) (by kernel_rfl)) (.cons (.same rfl) .nil)) (.inr ⟨.v, trivial⟩) .nil)) (by kernel_rfl) (by kernel_rfl) ?_
    refine tr_ret (rg_r ?_)
    obtain rfl := Option.some.inj hM
    exact retg (names := []) .nil (by kernel_rfl)
  · have hM := ite_false' hM h2
    refine tr_condTe (e := !v1) (congrArg not h2) (by kernel_rfl) ?_
    refine tr_sr hT hm [] [8, 10] [(8, .d (bv false)), (10, .d (iv 1))] .nil (by kernel_rfl) (by kernel_rfl) ?_
    refine tr_ret (q_r (rg_r ?_))
    obtain rfl := Option.some.inj hM
    exact retg (names := []) .nil (by kernel_rfl)

theorem ok20 : CallOk Try.prog 20 := callOk_of Try.func20 (by kernel_rfl) (by kernel_rfl)
theorem impl_IsCocone_c (a0 : XFunctor) (a1 : XCone) (r : Bool × Int) (hM : M.impl_IsCocone a0 a1 = some r) :
    FnC Try.prog 20 [] [.agg (eXFunctor.b a0), .agg (eXCone.b a1)] [] (.tup [bv r.1, iv r.2]) := by
  refine fnc_startG (N := 12) (np := 500) hT Try.func20 rfl rfl (by kernel_rfl) ?_
  unfold M.impl_IsCocone at hM
  refine tr_start (ks := [0, 2]) (st' := [(0, .d (.agg (eXFunctor.b a0))), (2, .d (.agg (eXCone.b a1)))]) (by kernel_rfl) ?_
  refine tr_sr hT hm [] [4, 6, 2005, 2007] [(4, .d (.rp 1002 0)), (6, .d (.rp 1003 0)), bxB 2005 (eXFunctor.b a0), bxB 2007 (eXCone.b a1)] .nil (by kernel_rfl) (by kernel_rfl) ?_
  refine tr_seq ?_
  obtain ⟨v1, hv1, hM⟩ := bind_some' hM
  refine tr_sr hT hm [(0, .call [1002] [] [.pt (eXFunctor.b a0) 0] [] (bv v1))] [4, 6, 14, 2005, 2007] [(4, .d (.rp 1002 0)), (6, .d (.rp 1003 0)), (14, .d (bv (!v1))), bxB 2005 (eXFunctor.b a0), bxB 2007 (eXCone.b a1)] (cc (B := [1002]) (ρ := []) (rB := [(1002, .arr 1 [iv a0.Source.Objects, .sl a0.Source.From.length 0 (a0.Source.From.flatMap eI.b), .sl a0.Source.To.length 0 (a0.Source.To.flatMap eI.b), .sl a0.Source.Identity.length 0 (a0.Source.Identity.flatMap eI.b), .sl a0.Source.Composites.length 0 (a0.Source.Composites.flatMap (eS eI).b), iv a0.Target.Objects, .sl a0.Target.From.length 0 (a0.Target.From.flatMap eI.b), .sl a0.Target.To.length 0 (a0.Target.To.flatMap eI.b), .sl a0.Target.Identity.length 0 (a0.Target.Identity.flatMap eI.b), .sl a0.Target.Composites.length 0 (a0.Target.Composites.flatMap (eS eI).b), .sl a0.Objects.length 0 (a0.Objects.flatMap eI.b), .sl a0.Arrows.length 0 (a0.Arrows.flatMap eI.b)] [])]) ok81 (impl_Functor_isFunctor_c a0 _ hv1) (.cons (.of1 (.rp (r := 1002) (sz := 1) (cells := [iv a0.Source.Objects, .sl a0.Source.From.length 0 (a0.Source.From.flatMap eI.b), .sl a0.Source.To.length 0 (a0.Source.To.flatMap eI.b), .sl a0.Source.Identity.length 0 (a0.Source.Identity.flatMap eI.b), .sl a0.Source.Composites.length 0 (a0.Source.Composites.flatMap (eS eI).b), iv a0.Target.Objects, .sl a0.Target.From.length 0 (a0.Target.From.flatMap eI.b), .sl a0.Target.To.length 0 (a0.Target.To.flatMap eI.b), .sl a0.Target.Identity.length 0 (a0.Target.Identity.flatMap eI.b), .sl a0.Target.Composites.length 0 (a0.Target.Composites.flatMap (eS eI).b), .sl a0.Objects.length 0 (a0.Objects.flatMap eI.b), .sl a0.Arrows.length 0 (a0.Arrows.flatMap eI.b)]) (refs := []) (memB (by kernel_rfl)) (by kernel_rfl) (.cons .v (.cons (.same rfl rfl) (.cons (.same rfl rfl) (.cons (.same rfl rfl) (.cons (.same rfl rfl) (.cons .v (.cons (.same rfl rfl) (.cons (.same rfl rfl) (.cons (.same rfl rfl) (.cons (.same rfl rfl) (.cons (.same rfl rfl) (.cons (.same rfl rfl) .nil)))))))))))))) .nil) (.inr ⟨.v, trivial⟩) .nil) (by kernel_rfl) (by kernel_rfl) ?_
  rcases Bool.eq_false_or_eq_true v1 with h2 | h2
  · have hM := ite_true' hM h2
    refine tr_condFe (e := !v1) (congrArg not h2) (by kernel_rfl) ?_
    refine tr_skip (q_n ?_)
    refine Tr.by (imp_freeze (B := [1002]) (cv := [(2, .pt (eXFunctor.b a0) 0)]) (.cons (by kernel_rfl) (.of1 (.rp (r := 1002) (sz := 1) (cells := [iv a0.Source.Objects, .sl a0.Source.From.length 0 (a0.Source.From.flatMap eI.b), .sl a0.Source.To.length 0 (a0.Source.To.flatMap eI.b), .sl a0.Source.Identity.length 0 (a0.Source.Identity.flatMap eI.b), .sl a0.Source.Composites.length 0 (a0.Source.Composites.flatMap (eS eI).b), iv a0.Target.Objects, .sl a0.Target.From.length 0 (a0.Target.From.flatMap eI.b), .sl a0.Target.To.length 0 (a0.Target.To.flatMap eI.b), .sl a0.Target.Identity.length 0 (a0.Target.Identity.flatMap eI.b), .sl a0.Target.Composites.length 0 (a0.Target.Composites.flatMap (eS eI).b), .sl a0.Objects.length 0 (a0.Objects.flatMap eI.b), .sl a0.Arrows.length 0 (a0.Arrows.flatMap eI.b)]) (refs := []) (memB (by kernel_rfl)) (by kernel_rfl) (.cons .v (.cons (.same rfl rfl) (.cons (.same rfl rfl) (.cons (.same rfl rfl) (.cons (.same rfl rfl) (.cons .v (.cons (.same rfl rfl) (.cons (.same rfl rfl) (.cons (.same rfl rfl) (.cons (.same rfl rfl) (.cons (.same rfl rfl) (.cons (.same rfl rfl) .nil)))))))))))))) .nil)) ?_
    obtain ⟨v3, hv3, hM⟩ := bind_some' hM
    obtain ⟨v4, hv4, hM⟩ := bind_some' hM
    obtain ⟨v5, hv5, hM⟩ := bind_some' hM
    refine tr_sr hT hm [(0, .call [] [] [.pt (eXFunctor.b a0) 0] [] (.ifc 221 (.agg [.pt (eXFunctor.b v3) 0]))), (1, .inv 300 [] [] [.agg [.pt (eXFunctor.b v3) 0]] [] (.pt (eXFunctor.b v4) 0)), (3, .call [] [] [.pt (eXFunctor.b v4) 0, .agg (eXCone.b a1)] [] (bv v5))] [8, 10] [(8, .d (bv v5)), (10, .d (iv 0))] (cc0 ok83 (impl_coconesOf_c a0 _ hv3) (by kernel_rfl) (.cons (by kernel_rfl : methB Try.prog 221 "loop.example/g01083/impl.diagram" 300 = true) (cc0 ok300 (impl_cocones_diagram_c (⟨v3⟩ : Xcocones) _ hv4) (by kernel_rfl) (cc0 ok82 (impl_isCone_c v4 a1 _ hv5) (by kernel_rfl) .nil)))) (by kernel_rfl) (by kernel_rfl) ?_
    refine tr_ret (rg_r ?_)
    obtain rfl := Option.some.inj hM
    exact retg (names := []) .nil (by kernel_rfl)
  · have hM := ite_false' hM h2
    refine tr_condTe (e := !v1) (congrArg not h2) (by kernel_rfl) ?_
    refine tr_sr hT hm [] [8, 10] [(8, .d (bv false)), (10, .d (iv 1))] .nil (by kernel_rfl) (by kernel_rfl) ?_
    refine tr_ret (q_r (rg_r ?_))
    obtain rfl := Option.some.inj hM
    exact retg (names := []) .nil (by kernel_rfl)

theorem laws_FnExactIsCocone_c (a0 : XFunctor) (a1 : XCone) (r : Bool) (hM : M.laws_FnExactIsCocone a0 a1 = some r) :
    FnC Try.prog 3 [] [.agg (eXFunctor.b a0), .agg (eXCone.b a1)] [] (bv r) := by
  refine fnc_startG (N := 58) (np := 500) hT Try.func3 rfl rfl (by kernel_rfl) ?_
  unfold M.laws_FnExactIsCocone at hM
  refine tr_start (ks := [0, 2]) (st' := [(0, .d (.agg (eXFunctor.b a0))), (2, .d (.agg (eXCone.b a1)))]) (by kernel_rfl) ?_
  refine tr_sr hT hm [] [4, 6, 2005, 2007] [(4, .d (.rp 1002 0)), (6, .d (.rp 1003 0)), bxB 2005 (eXFunctor.b a0), bxB 2007 (eXCone.b a1)] .nil (by kernel_rfl) (by kernel_rfl) ?_
  refine tr_sr hT hm [] [4, 6, 10, 2005, 2007] [(4, .d (.rp 1002 0)), (6, .d (.rp 1003 0)), (10, .d (iv 1048576)), bxB 2005 (eXFunctor.b a0), bxB 2007 (eXCone.b a1)] .nil (by kernel_rfl) (by kernel_rfl) ?_
  obtain ⟨v1, hv1, hM⟩ := bind_some' hM
  refine tr_sr hT hm [(2, .call [] [] [.agg (eXFunctor.b a0), iv 1048576] [] (iv v1))] [4, 6, 10, 2005, 2007] [(4, .d (.rp 1002 0)), (6, .d (.rp 1003 0)), (10, .d (iv v1)), bxB 2005 (eXFunctor.b a0), bxB 2007 (eXCone.b a1)] (cc0 ok15 (laws_szFunctor_c a0 1048576 _ hv1) (by kernel_rfl) .nil) (by kernel_rfl) (by kernel_rfl) ?_
  refine tr_seq ?_
  refine tr_sr hT hm [] [4, 6, 10, 32, 2005, 2007] [(4, .d (.rp 1002 0)), (6, .d (.rp 1003 0)), (10, .d (iv v1)), (32, .d (bv (decide (v1 < 0)))), bxB 2005 (eXFunctor.b a0), bxB 2007 (eXCone.b a1)] .nil (by kernel_rfl) (by kernel_rfl) ?_
  rcases Bool.eq_false_or_eq_true (decide (v1 < 0)) with h2 | h2
  · have hM := ite_true' hM h2
    refine tr_condTe (e := decide (v1 < 0)) h2 (by kernel_rfl) ?_
    refine tr_sr hT hm [] [8] [(8, .d (bv true))] .nil (by kernel_rfl) (by kernel_rfl) ?_
    refine tr_ret (q_r (rg_r ?_))
    obtain rfl := Option.some.inj hM
    exact retg (names := []) .nil (by kernel_rfl)
  · have hM := ite_false' hM h2
    refine tr_condFe (e := decide (v1 < 0)) h2 (by kernel_rfl) ?_
    refine tr_skip (q_n ?_)
    obtain ⟨v3, hv3, hM⟩ := bind_some' hM
    refine tr_sr hT hm [(2, .call [] [] [.agg (eXCone.b a1), iv v1] [] (iv v3))] [4, 6, 10, 2005, 2007] [(4, .d (.rp 1002 0)), (6, .d (.rp 1003 0)), (10, .d (iv v3)), bxB 2005 (eXFunctor.b a0), bxB 2007 (eXCone.b a1)] (cc0 ok16 (laws_szCone_c a1 v1 _ hv3) (by kernel_rfl) .nil) (by kernel_rfl) (by kernel_rfl) ?_
    refine tr_seq ?_
    refine tr_sr hT hm [] [4, 6, 42, 2005, 2007] [(4, .d (.rp 1002 0)), (6, .d (.rp 1003 0)), (42, .d (bv (decide (v3 < 0)))), bxB 2005 (eXFunctor.b a0), bxB 2007 (eXCone.b a1)] .nil (by kernel_rfl) (by kernel_rfl) ?_
    rcases Bool.eq_false_or_eq_true (decide (v3 < 0)) with h4 | h4
    · have hM := ite_true' hM h4
      refine tr_condTe (e := decide (v3 < 0)) h4 (by kernel_rfl) ?_
      refine tr_sr hT hm [] [8] [(8, .d (bv true))] .nil (by kernel_rfl) (by kernel_rfl) ?_
      refine tr_ret (q_r (rg_r ?_))
      obtain rfl := Option.some.inj hM
      exact retg (names := []) .nil (by kernel_rfl)
    · have hM := ite_false' hM h4
      refine tr_condFe (e := decide (v3 < 0)) h4 (by kernel_rfl) ?_
      refine tr_skip (q_n ?_)
      obtain ⟨v5, hv5, hM⟩ := bind_some' hM
      obtain ⟨v6, hv6, hM⟩ := bind_some' hM
      obtain ⟨v7, hv7, hM⟩ := bind_some' hM
      refine tr_sr hT hm [(1, .call [] [] [.agg (eXFunctor.b a0)] [] (.agg (eXFunctor.o v5))), (3, .call [] [] [.agg (eXCone.b a1)] [] (.agg (eXCone.o v6))), (4, .call (rsR 26000 (eXFunctor.o v5) ++ [28001]) [] [.agg (eXFunctor.b v5), .agg (eXCone.b v6)] [] (.tup [bv v7.1, iv v7.2]))] [4, 6, 12, 14, 2005, 2007] [(4, .d (.rp 1002 0)), (6, .d (.rp 1003 0)), (12, .d (bv v7.1)), (14, .d (iv v7.2)), bxB 2005 (eXFunctor.b a0), bxB 2007 (eXCone.b a1)] (cc0 ok18 (laws_toFunctor_c a0 _ hv5) (by kernel_rfl) (cc0 ok19 (laws_toCone_c a1 _ hv6) (by kernel_rfl) (cc (B := (rsR 26000 (eXFunctor.o v5) ++ [28001])) (ρ := []) (rB := (rsP 26000 (eXFunctor.o v5) ++ [(28001, .arr 1 (v6.Legs.flatMap eI.o) [])])) ok17 (spec_IsCocone_c v5 v6 _ hv7) (.cons (bor_rs eXFunctor_r (q := 26000) (x := v5) (by kernel_rfl) (by kernel_rfl)) (.cons (bor_rs eXCone_r (q := 28000) (x := v6) (by kernel_rfl) (by kernel_rfl)) .nil)) (.inr ⟨(nobor_tup (.cons .v (.cons .v .nil))), trivial⟩) .nil))) (by kernel_rfl) (by kernel_rfl) ?_
      refine tr_sr hT hm [(1, .call [] [] [.agg (eXFunctor.b a0)] [] (.agg (eXFunctor.o v5)))] [4, 6, 12, 14, 16, 2005, 2007, 2017, 66003, 66005, 66007, 66009, 66013, 66015, 66017, 66019, 66021, 66023] ([(4, .d (.rp 1002 0)), (6, .d (.rp 1003 0)), (12, .d (bv v7.1)), (14, .d (iv v7.2)), (16, .d (.rp 1008 0)), bxB 2005 (eXFunctor.b a0), bxB 2007 (eXCone.b a1), bxO 2017 33000 (eXFunctor.o v5)] ++ rsS 33000 (eXFunctor.o v5)) (cc0 ok18 (laws_toFunctor_c a0 _ hv5) (by kernel_rfl) (.cons (Nat.le_of_ble_eq_true (n := 12) (m := 12) rfl) .nil)) (by kernel_rfl) (by kernel_rfl) ?_
      refine tr_sr hT hm [(1, .call [] [] [.agg (eXCone.b a1)] [] (.agg (eXCone.o v6)))] [4, 6, 12, 14, 16, 18, 2005, 2007, 2017, 2019, 66003, 66005, 66007, 66009, 66013, 66015, 66017, 66019, 66021, 66023, 70003] ([(4, .d (.rp 1002 0)), (6, .d (.rp 1003 0)), (12, .d (bv v7.1)), (14, .d (iv v7.2)), (16, .d (.rp 1008 0)), (18, .d (.rp 1009 0)), bxB 2005 (eXFunctor.b a0), bxB 2007 (eXCone.b a1), bxO 2017 33000 (eXFunctor.o v5), bxO 2019 35000 (eXCone.o v6)] ++ rsS 33000 (eXFunctor.o v5) ++ [(70003, .r (.arr 1 (v6.Legs.flatMap eI.o) []))]) (cc0 ok19 (laws_toCone_c a1 _ hv6) (by kernel_rfl) (.cons (Nat.le_of_ble_eq_true (n := 2) (m := 2) rfl) .nil)) (by kernel_rfl) (by kernel_rfl) ?_
      obtain ⟨v8, hv8, hM⟩ := bind_some' hM
      refine tr_sr hT hm [(2, .call (rsR 33000 (eXFunctor.o v5) ++ [35001]) [] [.agg (eXFunctor.b v5), .agg (eXCone.b v6)] [] (.tup [bv v8.1, iv v8.2]))] [4, 6, 12, 14, 16, 18, 20, 22, 2005, 2007, 2017, 2019, 66003, 66005, 66007, 66009, 66013, 66015, 66017, 66019, 66021, 66023, 70003] ([(4, .d (.rp 1002 0)), (6, .d (.rp 1003 0)), (12, .d (bv v7.1)), (14, .d (iv v7.2)), (16, .d (.rp 1008 0)), (18, .d (.rp 1009 0)), (20, .d (bv v8.1)), (22, .d (iv v8.2)), bxB 2005 (eXFunctor.b a0), bxB 2007 (eXCone.b a1), bxO 2017 33000 (eXFunctor.o v5), bxO 2019 35000 (eXCone.o v6)] ++ rsS 33000 (eXFunctor.o v5) ++ [(70003, .r (.arr 1 (v6.Legs.flatMap eI.o) []))]) (cc (B := (rsR 33000 (eXFunctor.o v5) ++ [35001])) (ρ := []) (rB := (rsP 33000 (eXFunctor.o v5) ++ [(35001, .arr 1 (v6.Legs.flatMap eI.o) [])])) ok20 (impl_IsCocone_c v5 v6 _ hv8) (.cons (bor_rs eXFunctor_r (q := 33000) (x := v5) (by kernel_rfl) (by kernel_rfl)) (.cons (bor_rs eXCone_r (q := 35000) (x := v6) (by kernel_rfl) (by kernel_rfl)) .nil)) (.inr ⟨(nobor_tup (.cons .v (.cons .v .nil))), trivial⟩) .nil) (by kernel_rfl) (by kernel_rfl) ?_
      refine tr_seq ?_
      rcases Bool.eq_false_or_eq_true ((v8.1 == v7.1) == false) with h9 | h9
      · have hM := ite_true' hM h9
        refine tr_sr hT hm [(3, .val (bv true))] [4, 6, 16, 18, 94, 2005, 2007, 2017, 2019, 66003, 66005, 66007, 66009, 66013, 66015, 66017, 66019, 66021, 66023, 70003] ([(4, .d (.rp 1002 0)), (6, .d (.rp 1003 0)), (16, .d (.rp 1008 0)), (18, .d (.rp 1009 0)), (94, .d (bv true)), bxB 2005 (eXFunctor.b a0), bxB 2007 (eXCone.b a1), bxO 2017 33000 (eXFunctor.o v5), bxO 2019 35000 (eXCone.o v6)] ++ rsS 33000 (eXFunctor.o v5) ++ [(70003, .r (.arr 1 (v6.Legs.flatMap eI.o) []))]) (.cons (congrArg (fun b => bv b) h9) .nil) (by kernel_rfl) (by kernel_rfl) ?_
        refine tr_condT (by kernel_rfl) ?_
        refine tr_sr hT hm [] [8] [(8, .d (bv false))] .nil (by kernel_rfl) (by kernel_rfl) ?_
        refine tr_ret (q_r (rg_r ?_))
        obtain rfl := Option.some.inj hM
        exact retg (names := []) .nil (by kernel_rfl)
      · have hM := ite_false' hM h9
        refine tr_sr hT hm [(3, .val (bv false))] [4, 6, 16, 18, 94, 2005, 2007, 2017, 2019, 66003, 66005, 66007, 66009, 66013, 66015, 66017, 66019, 66021, 66023, 70003] ([(4, .d (.rp 1002 0)), (6, .d (.rp 1003 0)), (16, .d (.rp 1008 0)), (18, .d (.rp 1009 0)), (94, .d (bv (v8.2 != v7.2))), bxB 2005 (eXFunctor.b a0), bxB 2007 (eXCone.b a1), bxO 2017 33000 (eXFunctor.o v5), bxO 2019 35000 (eXCone.o v6)] ++ rsS 33000 (eXFunctor.o v5) ++ [(70003, .r (.arr 1 (v6.Legs.flatMap eI.o) []))]) (.cons (congrArg (fun b => bv b) h9) .nil) (by kernel_rfl) (by kernel_rfl) ?_
        rcases Bool.eq_false_or_eq_true (v8.2 != v7.2) with h10 | h10
        · have hM := ite_true' hM h10
          refine tr_condTe (e := v8.2 != v7.2) h10 (by kernel_rfl) ?_
          refine tr_sr hT hm [] [8] [(8, .d (bv false))] .nil (by kernel_rfl) (by kernel_rfl) ?_
          refine tr_ret (q_r (rg_r ?_))
          obtain rfl := Option.some.inj hM
          exact retg (names := []) .nil (by kernel_rfl)
        · have hM := ite_false' hM h10
          refine tr_condFe (e := v8.2 != v7.2) h10 (by kernel_rfl) ?_
          refine tr_skip (q_n ?_)
          refine tr_seq ?_
          obtain ⟨v11, hv11, hM⟩ := bind_some' hM
          refine tr_sr hT hm [(2, .call [] [] [.agg (eXFunctor.b a0)] [] (.agg (eXFunctor.o v5))), (3, .call (rsR 33000 (eXFunctor.o v5) ++ rsR 52000 (eXFunctor.o v5)) [] [.agg (eXFunctor.b v5), .agg (eXFunctor.b v5)] [] (bv v11))] [6, 18, 104, 2007, 2019, 70003] [(6, .d (.rp 1003 0)), (18, .d (.rp 1009 0)), (104, .d (bv (!v11))), bxB 2007 (eXCone.b a1), bxO 2019 35000 (eXCone.o v6), (70003, .r (.arr 1 (v6.Legs.flatMap eI.o) []))] (cc0 ok18 (laws_toFunctor_c a0 _ hv5) (by kernel_rfl) (cc (B := (rsR 33000 (eXFunctor.o v5) ++ rsR 52000 (eXFunctor.o v5))) (ρ := []) (rB := (rsP 33000 (eXFunctor.o v5) ++ rsP 52000 (eXFunctor.o v5))) ok21 (laws_eqFunctor_c v5 v5 _ hv11) (.cons (bor_rs eXFunctor_r (q := 33000) (x := v5) (by kernel_rfl) (by kernel_rfl)) (.cons (bor_rs eXFunctor_r (q := 52000) (x := v5) (by kernel_rfl) (by kernel_rfl)) .nil)) (.inr ⟨.v, trivial⟩) .nil)) (by kernel_rfl) (by kernel_rfl) ?_
          rcases Bool.eq_false_or_eq_true v11 with h12 | h12
          · have hM := ite_true' hM h12
            refine tr_condFe (e := !v11) (congrArg not h12) (by kernel_rfl) ?_
            refine tr_skip (q_n ?_)
            refine tr_seq ?_
            obtain ⟨v13, hv13, hM⟩ := bind_some' hM
            refine tr_sr hT hm [(2, .call [] [] [.agg (eXCone.b a1)] [] (.agg (eXCone.o v6))), (3, .call [35001, 57001] [] [.agg (eXCone.b v6), .agg (eXCone.b v6)] [] (bv v13))] [114] [(114, .d (bv (!v13)))] (cc0 ok19 (laws_toCone_c a1 _ hv6) (by kernel_rfl) (cc (B := [35001, 57001]) (ρ := []) (rB := [(35001, .arr 1 (v6.Legs.flatMap eI.o) []), (57001, .arr 1 (v6.Legs.flatMap eI.o) [])]) ok22 (laws_eqCone_c v6 v6 _ hv13) (.cons (bor_rs eXCone_r (q := 35000) (x := v6) (by kernel_rfl) (by kernel_rfl)) (.cons (bor_rs eXCone_r (q := 57000) (x := v6) (by kernel_rfl) (by kernel_rfl)) .nil)) (.inr ⟨.v, trivial⟩) .nil)) (by kernel_rfl) (by kernel_rfl) ?_
            rcases Bool.eq_false_or_eq_true v13 with h14 | h14
            · have hM := ite_true' hM h14
              refine tr_condFe (e := !v13) (congrArg not h14) (by kernel_rfl) ?_
              refine tr_skip (q_n ?_)
              refine tr_sr hT hm [] [8] [(8, .d (bv true))] .nil (by kernel_rfl) (by kernel_rfl) ?_
              refine tr_ret (rg_r ?_)
              obtain rfl := Option.some.inj hM
              exact retg (names := []) .nil (by kernel_rfl)
            · have hM := ite_false' hM h14
              refine tr_condTe (e := !v13) (congrArg not h14) (by kernel_rfl) ?_
              refine tr_sr hT hm [] [8] [(8, .d (bv false))] .nil (by kernel_rfl) (by kernel_rfl) ?_
              refine tr_ret (q_r (rg_r ?_))
              obtain rfl := Option.some.inj hM
              exact retg (names := []) .nil (by kernel_rfl)
          · have hM := ite_false' hM h12
            refine tr_condTe (e := !v11) (congrArg not h12) (by kernel_rfl) ?_
            refine tr_sr hT hm [] [8] [(8, .d (bv false))] .nil (by kernel_rfl) (by kernel_rfl) ?_
            refine tr_ret (q_r (rg_r ?_))
            obtain rfl := Option.some.inj hM
            exact retg (names := []) .nil (by kernel_rfl)

end Go.Proofs.Ytiikkfdehbcfaaa.Wz02
