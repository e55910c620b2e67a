/- Walks. Printed by wip/gen. -/
import Derived.Test.YtaijkiepcaobiaaGxvTW
namespace Go.Proofs.Ytaijkiepcaobiaa.WvT
open Go.Gx Go.Proofs.Ytaijkiepcaobiaa.WvB Go.Proofs.Ytaijkiepcaobiaa.WvS Go.Proofs.Ytaijkiepcaobiaa.WvF Go.Proofs.Ytaijkiepcaobiaa.WvH

theorem ok53 : CallOk Try.prog 53 := callOk_of Try.func53 (by kernel_rfl) (by kernel_rfl)
theorem laws_szTransformation_c (a0 : XTransformation) (a1 : Int) (r : Int) (hM : M.laws_szTransformation a0 a1 = some r) :
    FnC Try.prog 53 [] [.agg (eXTransformation.b a0), iv a1] [] (iv r) := by
  refine fnc_startG (N := 24) (np := 500) hT Try.func53 rfl rfl (by kernel_rfl) ?_
  unfold M.laws_szTransformation at hM
  refine tr_start (ks := [0, 2]) (st' := [(0, .d (.agg (eXTransformation.b a0))), (2, .d (iv a1))]) (by kernel_rfl) ?_
  refine tr_sr hT hm [] [2, 4, 2005] [(2, .d (iv a1)), (4, .d (.rp 1002 0)), bxB 2005 (eXTransformation.b a0)] .nil (by kernel_rfl) (by kernel_rfl) ?_
  obtain ⟨v1, hv1, hM⟩ := bind_some' hM
  refine tr_sr hT hm [(3, .call [] [] [.agg (eXFunctor.b a0.Source), iv a1] [] (iv v1))] [2, 4, 2005] [(2, .d (iv v1)), (4, .d (.rp 1002 0)), bxB 2005 (eXTransformation.b a0)] (cc0 ok15 (laws_szFunctor_c a0.Source a1 _ hv1) (by kernel_rfl) .nil) (by kernel_rfl) (by kernel_rfl) ?_
  refine tr_seq ?_
  refine tr_sr hT hm [] [2, 4, 20, 2005] [(2, .d (iv v1)), (4, .d (.rp 1002 0)), (20, .d (bv (decide (v1 < 0)))), bxB 2005 (eXTransformation.b a0)] .nil (by kernel_rfl) (by kernel_rfl) ?_
  rcases Bool.eq_false_or_eq_true (decide (v1 < 0)) with h2 | h2
  · have hM := ite_true' hM h2
    refine tr_condTe (e := decide (v1 < 0)) h2 (by kernel_rfl) ?_
    refine tr_sr hT hm [] [8] [(8, .d (iv (-1)))] .nil (by kernel_rfl) (by kernel_rfl) ?_
    refine tr_ret (q_r (rg_r ?_))
    obtain rfl := Option.some.inj hM
    exact retg (names := []) .nil (by kernel_rfl)
  · have hM := ite_false' hM h2
    refine tr_condFe (e := decide (v1 < 0)) h2 (by kernel_rfl) ?_
    refine tr_skip (q_n ?_)
    obtain ⟨v3, hv3, hM⟩ := bind_some' hM
    refine tr_sr hT hm [(3, .call [] [] [.agg (eXFunctor.b a0.Target), iv v1] [] (iv v3))] [2, 4, 2005] [(2, .d (iv v3)), (4, .d (.rp 1002 0)), bxB 2005 (eXTransformation.b a0)] (cc0 ok15 (laws_szFunctor_c a0.Target v1 _ hv3) (by kernel_rfl) .nil) (by kernel_rfl) (by kernel_rfl) ?_
    refine tr_seq ?_
    refine tr_sr hT hm [] [2, 4, 32, 2005] [(2, .d (iv v3)), (4, .d (.rp 1002 0)), (32, .d (bv (decide (v3 < 0)))), bxB 2005 (eXTransformation.b a0)] .nil (by kernel_rfl) (by kernel_rfl) ?_
    rcases Bool.eq_false_or_eq_true (decide (v3 < 0)) with h4 | h4
    · have hM := ite_true' hM h4
      refine tr_condTe (e := decide (v3 < 0)) h4 (by kernel_rfl) ?_
      refine tr_sr hT hm [] [8] [(8, .d (iv (-1)))] .nil (by kernel_rfl) (by kernel_rfl) ?_
      refine tr_ret (q_r (rg_r ?_))
      obtain rfl := Option.some.inj hM
      exact retg (names := []) .nil (by kernel_rfl)
    · have hM := ite_false' hM h4
      refine tr_condFe (e := decide (v3 < 0)) h4 (by kernel_rfl) ?_
      refine tr_skip (q_n ?_)
      obtain ⟨v5, hv5, hM⟩ := bind_some' hM
      refine tr_sr hT hm [(3, .call [] [] [.sl a0.Components.length 0 (a0.Components.flatMap eI.b), iv v3] [] (iv v5))] [2] [(2, .d (iv v5))] (cc0 ok64 (laws_szInt64S_c a0.Components v3 _ hv5) (by kernel_rfl) .nil) (by kernel_rfl) (by kernel_rfl) ?_
      refine tr_seq ?_
      refine tr_sr hT hm [] [2, 44] [(2, .d (iv v5)), (44, .d (bv (decide (v5 < 0))))] .nil (by kernel_rfl) (by kernel_rfl) ?_
      rcases Bool.eq_false_or_eq_true (decide (v5 < 0)) with h6 | h6
      · have hM := ite_true' hM h6
        refine tr_condTe (e := decide (v5 < 0)) h6 (by kernel_rfl) ?_
        refine tr_sr hT hm [] [8] [(8, .d (iv (-1)))] .nil (by kernel_rfl) (by kernel_rfl) ?_
        refine tr_ret (q_r (rg_r ?_))
        obtain rfl := Option.some.inj hM
        exact retg (names := []) .nil (by kernel_rfl)
      · have hM := ite_false' hM h6
        refine tr_condFe (e := decide (v5 < 0)) h6 (by kernel_rfl) ?_
        refine tr_skip (q_n ?_)
        refine tr_sr hT hm [] [8] [(8, .d (iv v5))] .nil (by kernel_rfl) (by kernel_rfl) ?_
        refine tr_ret (rg_r ?_)
        obtain rfl := Option.some.inj hM
        exact retg (names := []) .nil (by kernel_rfl)

theorem ok55 : CallOk Try.prog 55 := callOk_of Try.func55 (by kernel_rfl) (by kernel_rfl)
theorem laws_toTransformation_c (a0 : XTransformation) (r : XTransformation) (hM : M.laws_toTransformation a0 = some r) :
    FnC Try.prog 55 [] [.agg (eXTransformation.b a0)] [] (.agg (eXTransformation.o r)) := by
  refine fnc_startG (N := 17) (np := 500) hT Try.func55 rfl rfl (by kernel_rfl) ?_
  unfold M.laws_toTransformation at hM
  refine tr_start (ks := [0]) (st' := [(0, .d (.agg (eXTransformation.b a0)))]) (by kernel_rfl) ?_
  refine tr_sr hT hm [] [2, 4, 2003, 2005] [(2, .d (.rp 1001 0)), (4, .d (.rp 1002 0)), bxB 2003 (eXTransformation.b a0), (2005, .r (.arr 1 [iv 0, nilv, nilv, nilv, nilv, iv 0, nilv, nilv, nilv, nilv, nilv, nilv, iv 0, nilv, nilv, nilv, nilv, iv 0, nilv, nilv, nilv, nilv, nilv, nilv, nilv] []))] .nil (by kernel_rfl) (by kernel_rfl) ?_
  refine tr_sr hT hm [] [2, 4, 6, 2003, 2005, 2007] [(2, .d (.rp 1001 0)), (4, .d (.rp 1002 0)), (6, .d (.rp 1003 0)), bxB 2003 (eXTransformation.b a0), (2005, .r (.arr 1 [iv 0, nilv, nilv, nilv, nilv, iv 0, nilv, nilv, nilv, nilv, nilv, nilv, iv 0, nilv, nilv, nilv, nilv, iv 0, nilv, nilv, nilv, nilv, nilv, nilv, nilv] [])), (2007, .r (.arr 1 [iv 0, nilv, nilv, nilv, nilv, iv 0, nilv, nilv, nilv, nilv, nilv, nilv, iv 0, nilv, nilv, nilv, nilv, iv 0, nilv, nilv, nilv, nilv, nilv, nilv, nilv] []))] .nil (by kernel_rfl) (by kernel_rfl) ?_
  obtain ⟨v1, hv1, hM⟩ := bind_some' hM
  refine tr_sr hT hm [(2, .call [] [] [.agg (eXFunctor.b a0.Source)] [] (.agg (eXFunctor.o v1)))] [2, 4, 6, 2003, 2005, 2007, 16003, 16005, 16007, 16009, 16013, 16015, 16017, 16019, 16021, 16023] ([(2, .d (.rp 1001 0)), (4, .d (.rp 1002 0)), (6, .d (.rp 1003 0)), bxB 2003 (eXTransformation.b a0), (2005, .r (.arr 1 [iv 0, nilv, nilv, nilv, nilv, iv 0, nilv, nilv, nilv, nilv, nilv, nilv, iv 0, nilv, nilv, nilv, nilv, iv 0, nilv, nilv, nilv, nilv, nilv, nilv, nilv] [])), (2007, .r (.arr 1 [iv v1.Source.Objects, .rs 8001 0 v1.Source.From.length, .rs 8002 0 v1.Source.To.length, .rs 8003 0 v1.Source.Identity.length, .rs 8004 0 v1.Source.Composites.length, iv v1.Target.Objects, .rs 8006 0 v1.Target.From.length, .rs 8007 0 v1.Target.To.length, .rs 8008 0 v1.Target.Identity.length, .rs 8009 0 v1.Target.Composites.length, .rs 8010 0 v1.Objects.length, .rs 8011 0 v1.Arrows.length, iv 0, nilv, nilv, nilv, nilv, iv 0, nilv, nilv, nilv, nilv, nilv, nilv, nilv] [8001, 8002, 8003, 8004, 8006, 8007, 8008, 8009, 8010, 8011]))] ++ rsS 8000 (eXFunctor.o v1)) (cc0 ok17 (laws_toFunctor_c a0.Source _ hv1) (by kernel_rfl) (.cons (Nat.le_of_ble_eq_true (n := 12) (m := 25) rfl) .nil)) (by kernel_rfl) (by kernel_rfl) ?_
  obtain ⟨v2, hv2, hM⟩ := bind_some' hM
  refine tr_sr hT hm [(2, .call [] [] [.agg (eXFunctor.b a0.Target)] [] (.agg (eXFunctor.o v2)))] [2, 4, 6, 2003, 2005, 2007, 16003, 16005, 16007, 16009, 16013, 16015, 16017, 16019, 16021, 16023, 24003, 24005, 24007, 24009, 24013, 24015, 24017, 24019, 24021, 24023] ([(2, .d (.rp 1001 0)), (4, .d (.rp 1002 0)), (6, .d (.rp 1003 0)), bxB 2003 (eXTransformation.b a0), (2005, .r (.arr 1 [iv 0, nilv, nilv, nilv, nilv, iv 0, nilv, nilv, nilv, nilv, nilv, nilv, iv 0, nilv, nilv, nilv, nilv, iv 0, nilv, nilv, nilv, nilv, nilv, nilv, nilv] [])), (2007, .r (.arr 1 [iv v1.Source.Objects, .rs 8001 0 v1.Source.From.length, .rs 8002 0 v1.Source.To.length, .rs 8003 0 v1.Source.Identity.length, .rs 8004 0 v1.Source.Composites.length, iv v1.Target.Objects, .rs 8006 0 v1.Target.From.length, .rs 8007 0 v1.Target.To.length, .rs 8008 0 v1.Target.Identity.length, .rs 8009 0 v1.Target.Composites.length, .rs 8010 0 v1.Objects.length, .rs 8011 0 v1.Arrows.length, iv v2.Source.Objects, .rs 12001 0 v2.Source.From.length, .rs 12002 0 v2.Source.To.length, .rs 12003 0 v2.Source.Identity.length, .rs 12004 0 v2.Source.Composites.length, iv v2.Target.Objects, .rs 12006 0 v2.Target.From.length, .rs 12007 0 v2.Target.To.length, .rs 12008 0 v2.Target.Identity.length, .rs 12009 0 v2.Target.Composites.length, .rs 12010 0 v2.Objects.length, .rs 12011 0 v2.Arrows.length, nilv] [8001, 8002, 8003, 8004, 8006, 8007, 8008, 8009, 8010, 8011, 12001, 12002, 12003, 12004, 12006, 12007, 12008, 12009, 12010, 12011]))] ++ rsS 8000 (eXFunctor.o v1) ++ rsS 12000 (eXFunctor.o v2)) (cc0 ok17 (laws_toFunctor_c a0.Target _ hv2) (by kernel_rfl) (.cons (Nat.le_of_ble_eq_true (n := 24) (m := 25) rfl) .nil)) (by kernel_rfl) (by kernel_rfl) ?_
  obtain ⟨v3, hv3, hM⟩ := bind_some' hM
  refine tr_sr hT hm [(2, .call [] [] [.sl a0.Components.length 0 (a0.Components.flatMap eI.b)] [] (.fr 1 v3.length (v3.flatMap eI.o)))] [4, 6, 2005, 2007, 16003, 16005, 16007, 16009, 16013, 16015, 16017, 16019, 16021, 16023, 24003, 24005, 24007, 24009, 24013, 24015, 24017, 24019, 24021, 24023, 32001] ([(4, .d (.rp 1002 0)), (6, .d (.rp 1003 0)), (2005, .r (.arr 1 [iv 0, nilv, nilv, nilv, nilv, iv 0, nilv, nilv, nilv, nilv, nilv, nilv, iv 0, nilv, nilv, nilv, nilv, iv 0, nilv, nilv, nilv, nilv, nilv, nilv, nilv] [])), (2007, .r (.arr 1 [iv v1.Source.Objects, .rs 8001 0 v1.Source.From.length, .rs 8002 0 v1.Source.To.length, .rs 8003 0 v1.Source.Identity.length, .rs 8004 0 v1.Source.Composites.length, iv v1.Target.Objects, .rs 8006 0 v1.Target.From.length, .rs 8007 0 v1.Target.To.length, .rs 8008 0 v1.Target.Identity.length, .rs 8009 0 v1.Target.Composites.length, .rs 8010 0 v1.Objects.length, .rs 8011 0 v1.Arrows.length, iv v2.Source.Objects, .rs 12001 0 v2.Source.From.length, .rs 12002 0 v2.Source.To.length, .rs 12003 0 v2.Source.Identity.length, .rs 12004 0 v2.Source.Composites.length, iv v2.Target.Objects, .rs 12006 0 v2.Target.From.length, .rs 12007 0 v2.Target.To.length, .rs 12008 0 v2.Target.Identity.length, .rs 12009 0 v2.Target.Composites.length, .rs 12010 0 v2.Objects.length, .rs 12011 0 v2.Arrows.length, .rs 16000 0 v3.length] [8001, 8002, 8003, 8004, 8006, 8007, 8008, 8009, 8010, 8011, 12001, 12002, 12003, 12004, 12006, 12007, 12008, 12009, 12010, 12011, 16000]))] ++ rsS 8000 (eXFunctor.o v1) ++ rsS 12000 (eXFunctor.o v2) ++ [(32001, .r (.arr 1 (v3.flatMap eI.o) []))]) (cc0 ok68 (laws_toInt64S_c a0.Components _ hv3) (by kernel_rfl) (.cons (Nat.le_of_ble_eq_true (n := 25) (m := 25) rfl) .nil)) (by kernel_rfl) (by kernel_rfl) ?_
  refine tr_sr hT hm [] [4, 2005, 16003, 16005, 16007, 16009, 16013, 16015, 16017, 16019, 16021, 16023, 24003, 24005, 24007, 24009, 24013, 24015, 24017, 24019, 24021, 24023, 32001] ([(4, .d (.rp 1002 0)), (2005, .r (.arr 1 [iv v1.Source.Objects, .rs 8001 0 v1.Source.From.length, .rs 8002 0 v1.Source.To.length, .rs 8003 0 v1.Source.Identity.length, .rs 8004 0 v1.Source.Composites.length, iv v1.Target.Objects, .rs 8006 0 v1.Target.From.length, .rs 8007 0 v1.Target.To.length, .rs 8008 0 v1.Target.Identity.length, .rs 8009 0 v1.Target.Composites.length, .rs 8010 0 v1.Objects.length, .rs 8011 0 v1.Arrows.length, iv v2.Source.Objects, .rs 12001 0 v2.Source.From.length, .rs 12002 0 v2.Source.To.length, .rs 12003 0 v2.Source.Identity.length, .rs 12004 0 v2.Source.Composites.length, iv v2.Target.Objects, .rs 12006 0 v2.Target.From.length, .rs 12007 0 v2.Target.To.length, .rs 12008 0 v2.Target.Identity.length, .rs 12009 0 v2.Target.Composites.length, .rs 12010 0 v2.Objects.length, .rs 12011 0 v2.Arrows.length, .rs 16000 0 v3.length] [8001, 8002, 8003, 8004, 8006, 8007, 8008, 8009, 8010, 8011, 12001, 12002, 12003, 12004, 12006, 12007, 12008, 12009, 12010, 12011, 16000]))] ++ rsS 8000 (eXFunctor.o v1) ++ rsS 12000 (eXFunctor.o v2) ++ [(32001, .r (.arr 1 (v3.flatMap eI.o) []))]) (.cons (Nat.le_of_ble_eq_true (n := 25) (m := 25) rfl) .nil) (by kernel_rfl) (by kernel_rfl) ?_
  refine tr_ret (rg_r ?_)
  obtain rfl := Option.some.inj hM
  exact retg (names := []) (.cons (lenO_flat eI_ok v1.Source.From) (.cons (lenO_flat eI_ok v1.Source.To) (.cons (lenO_flat eI_ok v1.Source.Identity) (.cons (lenO_flat (eS_ok eI_ok) v1.Source.Composites) (.cons (lenO_flat eI_ok v1.Target.From) (.cons (lenO_flat eI_ok v1.Target.To) (.cons (lenO_flat eI_ok v1.Target.Identity) (.cons (lenO_flat (eS_ok eI_ok) v1.Target.Composites) (.cons (lenO_flat eI_ok v1.Objects) (.cons (lenO_flat eI_ok v1.Arrows) (.cons (lenO_flat eI_ok v2.Source.From) (.cons (lenO_flat eI_ok v2.Source.To) (.cons (lenO_flat eI_ok v2.Source.Identity) (.cons (lenO_flat (eS_ok eI_ok) v2.Source.Composites) (.cons (lenO_flat eI_ok v2.Target.From) (.cons (lenO_flat eI_ok v2.Target.To) (.cons (lenO_flat eI_ok v2.Target.Identity) (.cons (lenO_flat (eS_ok eI_ok) v2.Target.Composites) (.cons (lenO_flat eI_ok v2.Objects) (.cons (lenO_flat eI_ok v2.Arrows) (.cons (lenO_flat eI_ok v3) .nil))))))))))))))))))))) (by kernel_rfl)

theorem ok158 : CallOk Try.prog 158 := callOk_of Try.func158 (by kernel_rfl) (by kernel_rfl)
theorem spec_l07Own_c (a0 : XFunctor) (r : XFunctor) (hM : M.spec_l07Own a0 = some r) :
    FnC Try.prog 158 [] [.agg (eXFunctor.b a0)] [] (.agg (eXFunctor.o r)) := by
  refine fnc_startG (N := 12) (np := 500) hT Try.func158 rfl rfl (by kernel_rfl) ?_
  unfold M.spec_l07Own at hM
  refine tr_start (ks := [0]) (st' := [(0, .d (.agg (eXFunctor.b a0)))]) (by kernel_rfl) ?_
  refine tr_sr hT hm [] [2, 4, 2003, 2005] [(2, .d (.rp 1001 0)), (4, .d (.rp 1002 0)), bxB 2003 (eXFunctor.b a0), (2005, .r (.arr 1 [iv 0, nilv, nilv, nilv, nilv, iv 0, nilv, nilv, nilv, nilv, nilv, nilv] []))] .nil (by kernel_rfl) (by kernel_rfl) ?_
  obtain ⟨v1, hv1, hM⟩ := bind_some' hM
  refine tr_sr hT hm [(8, .call [] [] [.agg (eXCategory.b a0.Source), .agg (eXCategory.b a0.Target), .sl a0.Objects.length 0 (a0.Objects.flatMap eI.b), .sl a0.Arrows.length 0 (a0.Arrows.flatMap eI.b)] [] (.agg (eXFunctor.o v1)))] [4, 2005, 26003, 26005, 26007, 26009, 26013, 26015, 26017, 26019, 26021, 26023] ([(4, .d (.rp 1002 0)), bxO 2005 13000 (eXFunctor.o v1)] ++ rsS 13000 (eXFunctor.o v1)) (cc0 ok78 (spec_l06Make_c a0.Source a0.Target a0.Objects a0.Arrows _ hv1) (by kernel_rfl) (.cons (Nat.le_of_ble_eq_true (n := 12) (m := 12) rfl) .nil)) (by kernel_rfl) (by kernel_rfl) ?_
  refine tr_ret (rg_r ?_)
  obtain rfl := Option.some.inj hM
  exact retg (names := []) (.cons (lenO_flat eI_ok v1.Source.From) (.cons (lenO_flat eI_ok v1.Source.To) (.cons (lenO_flat eI_ok v1.Source.Identity) (.cons (lenO_flat (eS_ok eI_ok) v1.Source.Composites) (.cons (lenO_flat eI_ok v1.Target.From) (.cons (lenO_flat eI_ok v1.Target.To) (.cons (lenO_flat eI_ok v1.Target.Identity) (.cons (lenO_flat (eS_ok eI_ok) v1.Target.Composites) (.cons (lenO_flat eI_ok v1.Objects) (.cons (lenO_flat eI_ok v1.Arrows) .nil)))))))))) (by kernel_rfl)

theorem ok117 : CallOk Try.prog 117 := callOk_of Try.func117 (by kernel_rfl) (by kernel_rfl)
theorem spec_l07Make_c (a0 : XFunctor) (a1 : XFunctor) (a2 : List Int) (r : XTransformation) (hM : M.spec_l07Make a0 a1 a2 = some r) :
    FnC Try.prog 117 [] [.agg (eXFunctor.b a0), .agg (eXFunctor.b a1), .sl a2.length 0 (a2.flatMap eI.b)] [] (.agg (eXTransformation.o r)) := by
  refine fnc_startG (N := 14) (np := 500) hT Try.func117 rfl rfl (by kernel_rfl) ?_
  unfold M.spec_l07Make at hM
  refine tr_start (ks := [0, 2, 4]) (st' := [(0, .d (.agg (eXFunctor.b a0))), (2, .d (.agg (eXFunctor.b a1))), (4, .d (.sl a2.length 0 (a2.flatMap eI.b)))]) (by kernel_rfl) ?_
  refine tr_sr hT hm [] [4, 6, 8, 12, 2007, 2009, 2013] [(4, .d (.sl a2.length 0 (a2.flatMap eI.b))), (6, .d (.rp 1003 0)), (8, .d (.rp 1004 0)), (12, .d (.rp 1006 0)), bxB 2007 (eXFunctor.b a0), bxB 2009 (eXFunctor.b a1), (2013, .r (.arr 1 [iv 0, nilv, nilv, nilv, nilv, iv 0, nilv, nilv, nilv, nilv, nilv, nilv, iv 0, nilv, nilv, nilv, nilv, iv 0, nilv, nilv, nilv, nilv, nilv, nilv, nilv] []))] .nil (by kernel_rfl) (by kernel_rfl) ?_
  obtain ⟨v1, hv1, hM⟩ := bind_some' hM
  obtain ⟨v2, hv2, hM⟩ := bind_some' hM
  obtain ⟨v3, hv3, hM⟩ := bind_some' hM
  refine tr_sr hT hm [(1, .call [] [] [.agg (eXFunctor.b a0)] [] (.agg (eXFunctor.o v1))), (3, .call [] [] [.agg (eXFunctor.b a1)] [] (.agg (eXFunctor.o v2))), (5, .call [] [] [.sl a2.length 0 (a2.flatMap eI.b)] [] (.fr 1 v3.length (v3.flatMap eI.o)))] [12, 2013, 20003, 20005, 20007, 20009, 20013, 20015, 20017, 20019, 20021, 20023, 24003, 24005, 24007, 24009, 24013, 24015, 24017, 24019, 24021, 24023, 28001] ([(12, .d (.rp 1006 0)), (2013, .r (.arr 1 [iv v1.Source.Objects, .rs 10001 0 v1.Source.From.length, .rs 10002 0 v1.Source.To.length, .rs 10003 0 v1.Source.Identity.length, .rs 10004 0 v1.Source.Composites.length, iv v1.Target.Objects, .rs 10006 0 v1.Target.From.length, .rs 10007 0 v1.Target.To.length, .rs 10008 0 v1.Target.Identity.length, .rs 10009 0 v1.Target.Composites.length, .rs 10010 0 v1.Objects.length, .rs 10011 0 v1.Arrows.length, iv v2.Source.Objects, .rs 12001 0 v2.Source.From.length, .rs 12002 0 v2.Source.To.length, .rs 12003 0 v2.Source.Identity.length, .rs 12004 0 v2.Source.Composites.length, iv v2.Target.Objects, .rs 12006 0 v2.Target.From.length, .rs 12007 0 v2.Target.To.length, .rs 12008 0 v2.Target.Identity.length, .rs 12009 0 v2.Target.Composites.length, .rs 12010 0 v2.Objects.length, .rs 12011 0 v2.Arrows.length, .rs 14000 0 v3.length] [10001, 10002, 10003, 10004, 10006, 10007, 10008, 10009, 10010, 10011, 12001, 12002, 12003, 12004, 12006, 12007, 12008, 12009, 12010, 12011, 14000]))] ++ rsS 10000 (eXFunctor.o v1) ++ rsS 12000 (eXFunctor.o v2) ++ [(28001, .r (.arr 1 (v3.flatMap eI.o) []))]) (cc0 ok158 (spec_l07Own_c a0 _ hv1) (by kernel_rfl) (cc0 ok158 (spec_l07Own_c a1 _ hv2) (by kernel_rfl) (cc0 ok127 (spec_l01Own_c a2 _ hv3) (by kernel_rfl) (.cons (Nat.le_of_ble_eq_true (n := 25) (m := 25) rfl) .nil)))) (by kernel_rfl) (by kernel_rfl) ?_
  refine tr_ret (rg_r ?_)
  obtain rfl := Option.some.inj hM
  exact retg (names := []) (.cons (lenO_flat eI_ok v1.Source.From) (.cons (lenO_flat eI_ok v1.Source.To) (.cons (lenO_flat eI_ok v1.Source.Identity) (.cons (lenO_flat (eS_ok eI_ok) v1.Source.Composites) (.cons (lenO_flat eI_ok v1.Target.From) (.cons (lenO_flat eI_ok v1.Target.To) (.cons (lenO_flat eI_ok v1.Target.Identity) (.cons (lenO_flat (eS_ok eI_ok) v1.Target.Composites) (.cons (lenO_flat eI_ok v1.Objects) (.cons (lenO_flat eI_ok v1.Arrows) (.cons (lenO_flat eI_ok v2.Source.From) (.cons (lenO_flat eI_ok v2.Source.To) (.cons (lenO_flat eI_ok v2.Source.Identity) (.cons (lenO_flat (eS_ok eI_ok) v2.Source.Composites) (.cons (lenO_flat eI_ok v2.Target.From) (.cons (lenO_flat eI_ok v2.Target.To) (.cons (lenO_flat eI_ok v2.Target.Identity) (.cons (lenO_flat (eS_ok eI_ok) v2.Target.Composites) (.cons (lenO_flat eI_ok v2.Objects) (.cons (lenO_flat eI_ok v2.Arrows) (.cons (lenO_flat eI_ok v3) .nil))))))))))))))))))))) (by kernel_rfl)

theorem ok157 : CallOk Try.prog 157 := callOk_of Try.func157 (by kernel_rfl) (by kernel_rfl)
theorem impl_Functor_copy_c (a0 : XFunctor) (r : XFunctor) (hM : M.impl_Functor_copy a0 = some r) :
    FnC Try.prog 157 [] [.pt (eXFunctor.b a0) 0] [] (.agg (eXFunctor.o r)) := by
  refine fnc_startG (N := 18) (np := 500) hT Try.func157 rfl rfl (by kernel_rfl) ?_
  unfold M.impl_Functor_copy at hM
  refine tr_start (ks := [0]) (st' := [(0, .d (.pt (eXFunctor.b a0) 0))]) (by kernel_rfl) ?_
  refine tr_sr hT hm [] [0, 4, 2005] [(0, .d (.pt (eXFunctor.b a0) 0)), (4, .d (.rp 1002 0)), (2005, .r (.arr 1 [iv 0, nilv, nilv, nilv, nilv, iv 0, nilv, nilv, nilv, nilv, nilv, nilv] []))] .nil (by kernel_rfl) (by kernel_rfl) ?_
  obtain ⟨v1, hv1, hM⟩ := bind_some' hM
  refine tr_sr hT hm [(14, .call [] [] [.pt (eXCategory.b a0.Source) 0, .pt (eXCategory.b a0.Target) 0, .sl a0.Objects.length 0 (a0.Objects.flatMap eI.b), .sl a0.Arrows.length 0 (a0.Arrows.flatMap eI.b)] [] (.agg (eXFunctor.o v1)))] [4, 2005, 38003, 38005, 38007, 38009, 38013, 38015, 38017, 38019, 38021, 38023] ([(4, .d (.rp 1002 0)), bxO 2005 19000 (eXFunctor.o v1)] ++ rsS 19000 (eXFunctor.o v1)) (cc (B := []) (ρ := []) (rB := []) ok82 (impl_functor_c a0.Source a0.Target a0.Objects a0.Arrows _ hv1) (.cons (.pass (.ptk (ds := eXFunctor.b a0) (ds' := eXCategory.b a0.Source) (off := 0) (n := 5) (by kernel_rfl) (by kernel_rfl) (by kernel_rfl))) (.cons (.pass (.ptk (ds := eXFunctor.b a0) (ds' := eXCategory.b a0.Target) (off := 5) (n := 5) (by kernel_rfl) (by kernel_rfl) (by kernel_rfl))) (.cons (.same rfl) (.cons (.same rfl) .nil)))) (.inl rfl) (.cons (Nat.le_of_ble_eq_true (n := 12) (m := 12) rfl) .nil)) (by kernel_rfl) (by kernel_rfl) ?_
  refine tr_ret (rg_r ?_)
  obtain rfl := Option.some.inj hM
  exact retg (names := []) (.cons (lenO_flat eI_ok v1.Source.From) (.cons (lenO_flat eI_ok v1.Source.To) (.cons (lenO_flat eI_ok v1.Source.Identity) (.cons (lenO_flat (eS_ok eI_ok) v1.Source.Composites) (.cons (lenO_flat eI_ok v1.Target.From) (.cons (lenO_flat eI_ok v1.Target.To) (.cons (lenO_flat eI_ok v1.Target.Identity) (.cons (lenO_flat (eS_ok eI_ok) v1.Target.Composites) (.cons (lenO_flat eI_ok v1.Objects) (.cons (lenO_flat eI_ok v1.Arrows) .nil)))))))))) (by kernel_rfl)

theorem ok113 : CallOk Try.prog 113 := callOk_of Try.func113 (by kernel_rfl) (by kernel_rfl)
theorem impl_transformation_c (a0 : XFunctor) (a1 : XFunctor) (a2 : List Int) (r : XTransformation) (hM : M.impl_transformation a0 a1 a2 = some r) :
    FnC Try.prog 113 [] [.pt (eXFunctor.b a0) 0, .pt (eXFunctor.b a1) 0, .sl a2.length 0 (a2.flatMap eI.b)] [] (.agg (eXTransformation.o r)) := by
  refine fnc_startG (N := 14) (np := 500) hT Try.func113 rfl rfl (by kernel_rfl) ?_
  unfold M.impl_transformation at hM
  refine tr_start (ks := [0, 2, 4]) (st' := [(0, .d (.pt (eXFunctor.b a0) 0)), (2, .d (.pt (eXFunctor.b a1) 0)), (4, .d (.sl a2.length 0 (a2.flatMap eI.b)))]) (by kernel_rfl) ?_
  refine tr_sr hT hm [] [0, 2, 4, 12, 2013] [(0, .d (.pt (eXFunctor.b a0) 0)), (2, .d (.pt (eXFunctor.b a1) 0)), (4, .d (.sl a2.length 0 (a2.flatMap eI.b))), (12, .d (.rp 1006 0)), (2013, .r (.arr 1 [iv 0, nilv, nilv, nilv, nilv, iv 0, nilv, nilv, nilv, nilv, nilv, nilv, iv 0, nilv, nilv, nilv, nilv, iv 0, nilv, nilv, nilv, nilv, nilv, nilv, nilv] []))] .nil (by kernel_rfl) (by kernel_rfl) ?_
  obtain ⟨v1, hv1, hM⟩ := bind_some' hM
  obtain ⟨v2, hv2, hM⟩ := bind_some' hM
  obtain ⟨v3, hv3, hM⟩ := bind_some' hM
  refine tr_sr hT hm [(1, .call [] [] [.pt (eXFunctor.b a0) 0] [] (.agg (eXFunctor.o v1))), (3, .call [] [] [.pt (eXFunctor.b a1) 0] [] (.agg (eXFunctor.o v2))), (5, .call [] [] [.sl a2.length 0 (a2.flatMap eI.b)] [] (.fr 1 v3.length (v3.flatMap eI.o)))] [12, 2013, 20003, 20005, 20007, 20009, 20013, 20015, 20017, 20019, 20021, 20023, 24003, 24005, 24007, 24009, 24013, 24015, 24017, 24019, 24021, 24023, 28001] ([(12, .d (.rp 1006 0)), (2013, .r (.arr 1 [iv v1.Source.Objects, .rs 10001 0 v1.Source.From.length, .rs 10002 0 v1.Source.To.length, .rs 10003 0 v1.Source.Identity.length, .rs 10004 0 v1.Source.Composites.length, iv v1.Target.Objects, .rs 10006 0 v1.Target.From.length, .rs 10007 0 v1.Target.To.length, .rs 10008 0 v1.Target.Identity.length, .rs 10009 0 v1.Target.Composites.length, .rs 10010 0 v1.Objects.length, .rs 10011 0 v1.Arrows.length, iv v2.Source.Objects, .rs 12001 0 v2.Source.From.length, .rs 12002 0 v2.Source.To.length, .rs 12003 0 v2.Source.Identity.length, .rs 12004 0 v2.Source.Composites.length, iv v2.Target.Objects, .rs 12006 0 v2.Target.From.length, .rs 12007 0 v2.Target.To.length, .rs 12008 0 v2.Target.Identity.length, .rs 12009 0 v2.Target.Composites.length, .rs 12010 0 v2.Objects.length, .rs 12011 0 v2.Arrows.length, .rs 14000 0 v3.length] [10001, 10002, 10003, 10004, 10006, 10007, 10008, 10009, 10010, 10011, 12001, 12002, 12003, 12004, 12006, 12007, 12008, 12009, 12010, 12011, 14000]))] ++ rsS 10000 (eXFunctor.o v1) ++ rsS 12000 (eXFunctor.o v2) ++ [(28001, .r (.arr 1 (v3.flatMap eI.o) []))]) (cc0 ok157 (impl_Functor_copy_c a0 _ hv1) (by kernel_rfl) (cc0 ok157 (impl_Functor_copy_c a1 _ hv2) (by kernel_rfl) (cc0 ok102 (impl_clone_c a2 _ hv3) (by kernel_rfl) (.cons (Nat.le_of_ble_eq_true (n := 25) (m := 25) rfl) .nil)))) (by kernel_rfl) (by kernel_rfl) ?_
  refine tr_ret (rg_r ?_)
  obtain rfl := Option.some.inj hM
  exact retg (names := []) (.cons (lenO_flat eI_ok v1.Source.From) (.cons (lenO_flat eI_ok v1.Source.To) (.cons (lenO_flat eI_ok v1.Source.Identity) (.cons (lenO_flat (eS_ok eI_ok) v1.Source.Composites) (.cons (lenO_flat eI_ok v1.Target.From) (.cons (lenO_flat eI_ok v1.Target.To) (.cons (lenO_flat eI_ok v1.Target.Identity) (.cons (lenO_flat (eS_ok eI_ok) v1.Target.Composites) (.cons (lenO_flat eI_ok v1.Objects) (.cons (lenO_flat eI_ok v1.Arrows) (.cons (lenO_flat eI_ok v2.Source.From) (.cons (lenO_flat eI_ok v2.Source.To) (.cons (lenO_flat eI_ok v2.Source.Identity) (.cons (lenO_flat (eS_ok eI_ok) v2.Source.Composites) (.cons (lenO_flat eI_ok v2.Target.From) (.cons (lenO_flat eI_ok v2.Target.To) (.cons (lenO_flat eI_ok v2.Target.Identity) (.cons (lenO_flat (eS_ok eI_ok) v2.Target.Composites) (.cons (lenO_flat eI_ok v2.Objects) (.cons (lenO_flat eI_ok v2.Arrows) (.cons (lenO_flat eI_ok v3) .nil))))))))))))))))))))) (by kernel_rfl)

theorem ok169 : CallOk Try.prog 169 := callOk_of Try.func169 (by kernel_rfl) (by kernel_rfl)
theorem spec_l07Parallel_c (a0 : XFunctor) (a1 : XFunctor) (r : Bool) (hM : M.spec_l07Parallel a0 a1 = some r) :
    FnC Try.prog 169 [] [.agg (eXFunctor.b a0), .agg (eXFunctor.b a1)] [] (bv r) := by
  refine fnc_startG (N := 17) (np := 500) hT Try.func169 rfl rfl (by kernel_rfl) ?_
  unfold M.spec_l07Parallel at hM
  refine tr_start (ks := [0, 2]) (st' := [(0, .d (.agg (eXFunctor.b a0))), (2, .d (.agg (eXFunctor.b a1)))]) (by kernel_rfl) ?_
  refine tr_sr hT hm [] [4, 6, 2005, 2007] [(4, .d (.rp 1002 0)), (6, .d (.rp 1003 0)), bxB 2005 (eXFunctor.b a0), bxB 2007 (eXFunctor.b a1)] .nil (by kernel_rfl) (by kernel_rfl) ?_
  obtain ⟨v1, hv1, hM⟩ := bind_some' hM
  rcases Bool.eq_false_or_eq_true v1 with h2 | h2
  · have hM := ite_true' hM h2
    obtain ⟨v3, hv3, hM⟩ := bind_some' hM
    refine tr_sr hT hm [(4, .call [] [] [.agg (eXCategory.b a0.Source), .agg (eXCategory.b a1.Source)] [] (bv v1)), (5, .val (bv true)), (10, .call [] [] [.agg (eXCategory.b a0.Target), .agg (eXCategory.b a1.Target)] [] (bv v3))] [8] [(8, .d (bv v3))] (cc0 ok66 (spec_l02Same_c a0.Source a1.Source _ hv1) (by kernel_rfl) (.cons (congrArg (fun b => bv b) h2) (cc0 ok66 (spec_l02Same_c a0.Target a1.Target _ hv3) (by kernel_rfl) .nil))) (by kernel_rfl) (by kernel_rfl) ?_
    refine tr_ret (rg_r ?_)
    obtain rfl := Option.some.inj hM
    exact retg (names := []) .nil (by kernel_rfl)
  · have hM := ite_false' hM h2
    refine tr_sr hT hm [(4, .call [] [] [.agg (eXCategory.b a0.Source), .agg (eXCategory.b a1.Source)] [] (bv v1)), (5, .val (bv false))] [8] [(8, .d (bv false))] (cc0 ok66 (spec_l02Same_c a0.Source a1.Source _ hv1) (by kernel_rfl) (.cons (congrArg (fun b => bv b) h2) .nil)) (by kernel_rfl) (by kernel_rfl) ?_
    refine tr_ret (rg_r ?_)
    obtain rfl := Option.some.inj hM
    exact retg (names := []) .nil (by kernel_rfl)

theorem ok170 : CallOk Try.prog 170 := callOk_of Try.func170 (by kernel_rfl) (by kernel_rfl)
theorem spec_l07Ends_c (a0 : XFunctor) (a1 : XFunctor) (a2 : List Int) (r : Bool) (hM : M.spec_l07Ends a0 a1 a2 = some r) :
    FnC Try.prog 170 [] [.agg (eXFunctor.b a0), .agg (eXFunctor.b a1), .sl a2.length 0 (a2.flatMap eI.b)] [] (bv r) := by
  refine fnc_startG (N := 61) (np := 500) hT Try.func170 rfl rfl (by kernel_rfl) ?_
  unfold M.spec_l07Ends at hM
  refine tr_start (ks := [0, 2, 4]) (st' := [(0, .d (.agg (eXFunctor.b a0))), (2, .d (.agg (eXFunctor.b a1))), (4, .d (.sl a2.length 0 (a2.flatMap eI.b)))]) (by kernel_rfl) ?_
  refine tr_sr hT hm [] [4, 6, 8, 2007, 2009] [(4, .d (.sl a2.length 0 (a2.flatMap eI.b))), (6, .d (.rp 1003 0)), (8, .d (.rp 1004 0)), bxB 2007 (eXFunctor.b a0), bxB 2009 (eXFunctor.b a1)] .nil (by kernel_rfl) (by kernel_rfl) ?_
  refine tr_seq ?_
  rcases Bool.eq_false_or_eq_true ((a2.length : Int) != a0.Source.Objects) with h1 | h1
  · have hM := ite_true' hM h1
    refine tr_sr hT hm [(6, .val (bv true))] [4, 6, 8, 44, 2007, 2009] [(4, .d (.sl a2.length 0 (a2.flatMap eI.b))), (6, .d (.rp 1003 0)), (8, .d (.rp 1004 0)), (44, .d (bv true)), bxB 2007 (eXFunctor.b a0), bxB 2009 (eXFunctor.b a1)] (.cons (congrArg (fun b => bv b) h1) .nil) (by kernel_rfl) (by kernel_rfl) ?_
    refine tr_condT (by kernel_rfl) ?_
    refine tr_sr hT hm [] [12] [(12, .d (bv false))] .nil (by kernel_rfl) (by kernel_rfl) ?_
    refine tr_ret (q_r (rg_r ?_))
    obtain rfl := Option.some.inj hM
    exact retg (names := []) .nil (by kernel_rfl)
  · have hM := ite_false' hM h1
    obtain ⟨v2, hv2, hM⟩ := bind_some' hM
    refine tr_sr hT hm [(6, .val (bv false)), (12, .call [] [] [iv (a0.Target.From.length : Int), .sl a2.length 0 (a2.flatMap eI.b)] [] (bv v2))] [4, 6, 8, 44, 2007, 2009] [(4, .d (.sl a2.length 0 (a2.flatMap eI.b))), (6, .d (.rp 1003 0)), (8, .d (.rp 1004 0)), (44, .d (bv (!v2))), bxB 2007 (eXFunctor.b a0), bxB 2009 (eXFunctor.b a1)] (.cons (congrArg (fun b => bv b) h1) (cc0 ok149 (spec_l01Map_c (a0.Target.From.length : Int) a2 _ hv2) (by kernel_rfl) .nil)) (by kernel_rfl) (by kernel_rfl) ?_
    rcases Bool.eq_false_or_eq_true v2 with h3 | h3
    · have hM := ite_true' hM h3
      refine tr_condFe (e := !v2) (congrArg not h3) (by kernel_rfl) ?_
      refine tr_skip (q_n ?_)
      refine tr_seq ?_
      refine tr_sr hT hm [] [4, 6, 8, 14, 2007, 2009] [(4, .d (.sl a2.length 0 (a2.flatMap eI.b))), (6, .d (.rp 1003 0)), (8, .d (.rp 1004 0)), (14, .d (iv 0)), bxB 2007 (eXFunctor.b a0), bxB 2009 (eXFunctor.b a1)] .nil (by kernel_rfl) (by kernel_rfl) ?_
      refine tr_block ?_
      refine tr_iterS (fun (s4 : Int) => [(4, .d (.sl a2.length 0 (a2.flatMap eI.b))), (6, .d (.rp 1003 0)), (8, .d (.rp 1004 0)), (14, .d (iv s4)), bxB 2007 (eXFunctor.b a0), bxB 2009 (eXFunctor.b a1)]) 0 [4, 6, 8, 14, 2007, 2009] (by kernel_rfl) hM ?_
      intro n7 next5 ih6 s4 hM
      refine tr_seq ?_
      refine tr_sr hT hm [] [4, 6, 8, 14, 52, 2007, 2009] [(4, .d (.sl a2.length 0 (a2.flatMap eI.b))), (6, .d (.rp 1003 0)), (8, .d (.rp 1004 0)), (14, .d (iv s4)), (52, .d (bv (decide (s4 < (a2.length : Int))))), bxB 2007 (eXFunctor.b a0), bxB 2009 (eXFunctor.b a1)] .nil (by kernel_rfl) (by kernel_rfl) ?_
      rcases Bool.eq_false_or_eq_true (decide (s4 < (a2.length : Int))) with h8 | h8
      · have hM := ite_true' hM h8
        refine tr_condTe (e := decide (s4 < (a2.length : Int))) h8 (by kernel_rfl) ?_
        refine tr_skip (q_n ?_)
        refine tr_seq ?_
        refine tr_block ?_
        obtain ⟨y9, hy9, hM⟩ := bind_some' hM
        have hy9' := idx_some hy9
        obtain ⟨y10, hy10, hM⟩ := bind_some' hM
        have hy10' := idx_some hy10
        obtain ⟨y11, hy11, hM⟩ := bind_some' hM
        have hy11' := idx_some hy11
        rcases Bool.eq_false_or_eq_true (y10 != y11) with h12 | h12
        · have hM := ite_true' hM h12
          refine tr_sr hT hm [(6, .val (iv y9)), (8, .val (iv y10)), (13, .val (iv y11)), (15, .val (bv true))] [4, 6, 8, 14, 120, 2007, 2009] [(4, .d (.sl a2.length 0 (a2.flatMap eI.b))), (6, .d (.rp 1003 0)), (8, .d (.rp 1004 0)), (14, .d (iv s4)), (120, .d (bv true)), bxB 2007 (eXFunctor.b a0), bxB 2009 (eXFunctor.b a1)] (.cons hy9'.1 (.cons hy9'.2.1 (.cons (at_b0 eI_ok hy9'.2.2 (d := iv y9) (by kernel_rfl)) (.cons hy10'.1 (.cons hy10'.2.1 (.cons (at_b0 eI_ok hy10'.2.2 (d := iv y10) (by kernel_rfl)) (.cons hy11'.1 (.cons hy11'.2.1 (.cons (at_b0 eI_ok hy11'.2.2 (d := iv y11) (by kernel_rfl)) (.cons (congrArg (fun b => bv b) h12) .nil)))))))))) (by kernel_rfl) (by kernel_rfl) ?_
          refine tr_condT (by kernel_rfl) ?_
          refine tr_sr hT hm [] [12] [(12, .d (bv false))] .nil (by kernel_rfl) (by kernel_rfl) ?_
          refine tr_ret (b_r (q_r (l_r (b_r (q_r (rg_r ?_))))))
          obtain rfl := Option.some.inj hM
          exact retg (names := []) .nil (by kernel_rfl)
        · have hM := ite_false' hM h12
          obtain ⟨y13, hy13, hM⟩ := bind_some' hM
          have hy13' := idx_some hy13
          obtain ⟨y14, hy14, hM⟩ := bind_some' hM
          have hy14' := idx_some hy14
          refine tr_sr hT hm [(6, .val (iv y9)), (8, .val (iv y10)), (13, .val (iv y11)), (15, .val (bv false)), (22, .val (iv y9)), (24, .val (iv y13)), (29, .val (iv y14))] [4, 6, 8, 14, 90, 92, 94, 96, 98, 100, 102, 104, 106, 108, 110, 112, 114, 116, 118, 120, 2007, 2009] [(4, .d (.sl a2.length 0 (a2.flatMap eI.b))), (6, .d (.rp 1003 0)), (8, .d (.rp 1004 0)), (14, .d (iv s4)), (90, .d (.rp 1003 5)), (92, .d (.rp 1003 7)), (94, .d (.sl a0.Target.To.length 0 (a0.Target.To.flatMap eI.b))), (96, .d (.sl a2.length 0 (a2.flatMap eI.b))), (98, .d (iv s4)), (100, .d (.pt (a2.flatMap eI.b) (0 + s4.toNat * 1))), (102, .d (iv y9)), (104, .d (.pt (a0.Target.To.flatMap eI.b) (0 + y9.toNat * 1))), (106, .d (iv y13)), (108, .d (.rp 1004 10)), (110, .d (.sl a1.Objects.length 0 (a1.Objects.flatMap eI.b))), (112, .d (iv s4)), (114, .d (.pt (a1.Objects.flatMap eI.b) (0 + s4.toNat * 1))), (116, .d (iv y14)), (118, .d (bv (y13 != y14))), (120, .d (bv (y13 != y14))), bxB 2007 (eXFunctor.b a0), bxB 2009 (eXFunctor.b a1)] (.cons hy9'.1 (.cons hy9'.2.1 (.cons (at_b0 eI_ok hy9'.2.2 (d := iv y9) (by kernel_rfl)) (.cons hy10'.1 (.cons hy10'.2.1 (.cons (at_b0 eI_ok hy10'.2.2 (d := iv y10) (by kernel_rfl)) (.cons hy11'.1 (.cons hy11'.2.1 (.cons (at_b0 eI_ok hy11'.2.2 (d := iv y11) (by kernel_rfl)) (.cons (congrArg (fun b => bv b) h12) (.cons hy9'.1 (.cons hy9'.2.1 (.cons (at_b0 eI_ok hy9'.2.2 (d := iv y9) (by kernel_rfl)) (.cons hy13'.1 (.cons hy13'.2.1 (.cons (at_b0 eI_ok hy13'.2.2 (d := iv y13) (by kernel_rfl)) (.cons hy14'.1 (.cons hy14'.2.1 (.cons (at_b0 eI_ok hy14'.2.2 (d := iv y14) (by kernel_rfl)) .nil))))))))))))))))))) (by kernel_rfl) (by kernel_rfl) ?_
          rcases Bool.eq_false_or_eq_true (y13 != y14) with h15 | h15
          · have hM := ite_true' hM h15
            refine tr_condTe (e := y13 != y14) h15 (by kernel_rfl) ?_
            refine tr_sr hT hm [] [12] [(12, .d (bv false))] .nil (by kernel_rfl) (by kernel_rfl) ?_
            refine tr_ret (b_r (q_r (l_r (b_r (q_r (rg_r ?_))))))
            obtain rfl := Option.some.inj hM
            exact retg (names := []) .nil (by kernel_rfl)
          · have hM := ite_false' hM h15
            refine tr_condFe (e := y13 != y14) h15 (by kernel_rfl) ?_
            refine tr_skip (b_n (q_n ?_))
            refine tr_r hT hm [] [4, 6, 8, 14, 90, 92, 94, 96, 98, 100, 102, 104, 106, 108, 110, 112, 114, 116, 118, 2007, 2009] [(4, .d (.sl a2.length 0 (a2.flatMap eI.b))), (6, .d (.rp 1003 0)), (8, .d (.rp 1004 0)), (14, .d (iv (IntKind.i64.wrap (s4 + 1)))), (90, .d (.rp 1003 5)), (92, .d (.rp 1003 7)), (94, .d (.sl a0.Target.To.length 0 (a0.Target.To.flatMap eI.b))), (96, .d (.sl a2.length 0 (a2.flatMap eI.b))), (98, .d (iv s4)), (100, .d (.pt (a2.flatMap eI.b) (0 + s4.toNat * 1))), (102, .d (iv y9)), (104, .d (.pt (a0.Target.To.flatMap eI.b) (0 + y9.toNat * 1))), (106, .d (iv y13)), (108, .d (.rp 1004 10)), (110, .d (.sl a1.Objects.length 0 (a1.Objects.flatMap eI.b))), (112, .d (iv s4)), (114, .d (.pt (a1.Objects.flatMap eI.b) (0 + s4.toNat * 1))), (116, .d (iv y14)), (118, .d (bv (y13 != y14))), bxB 2007 (eXFunctor.b a0), bxB 2009 (eXFunctor.b a1)] .nil (by kernel_rfl) (by kernel_rfl) (l_n ?_)
            exact trl_start (ks := [4, 6, 8, 14, 2007, 2009]) (by kernel_rfl) (ih6 (IntKind.i64.wrap (s4 + 1)) hM)
      · have hM := ite_false' hM h8
        refine tr_condFe (e := decide (s4 < (a2.length : Int))) h8 (by kernel_rfl) ?_
        refine tr_exit (q_x (l_x (b_h (q_n ?_))))
        refine tr_sr hT hm [] [12] [(12, .d (bv true))] .nil (by kernel_rfl) (by kernel_rfl) ?_
        refine tr_ret (rg_r ?_)
        obtain rfl := Option.some.inj hM
        exact retg (names := []) .nil (by kernel_rfl)
    · have hM := ite_false' hM h3
      refine tr_condTe (e := !v2) (congrArg not h3) (by kernel_rfl) ?_
      refine tr_sr hT hm [] [12] [(12, .d (bv false))] .nil (by kernel_rfl) (by kernel_rfl) ?_
      refine tr_ret (q_r (rg_r ?_))
      obtain rfl := Option.some.inj hM
      exact retg (names := []) .nil (by kernel_rfl)

theorem ok152 : CallOk Try.prog 152 := callOk_of Try.func152 (by kernel_rfl) (by kernel_rfl)
theorem spec_l07Shape_c (a0 : XTransformation) (r : Bool) (hM : M.spec_l07Shape a0 = some r) :
    FnC Try.prog 152 [] [.agg (eXTransformation.b a0)] [] (bv r) := by
  refine fnc_startG (N := 27) (np := 500) hT Try.func152 rfl rfl (by kernel_rfl) ?_
  unfold M.spec_l07Shape at hM
  refine tr_start (ks := [0]) (st' := [(0, .d (.agg (eXTransformation.b a0)))]) (by kernel_rfl) ?_
  refine tr_sr hT hm [] [2, 2003] [(2, .d (.rp 1001 0)), bxB 2003 (eXTransformation.b a0)] .nil (by kernel_rfl) (by kernel_rfl) ?_
  obtain ⟨v1, hv1, hM⟩ := bind_some' hM
  rcases Bool.eq_false_or_eq_true v1 with h2 | h2
  · have hM := ite_true' hM h2
    obtain ⟨v3, hv3, hM⟩ := bind_some' hM
    rcases Bool.eq_false_or_eq_true v3 with h4 | h4
    · have hM := ite_true' hM h4
      obtain ⟨v5, hv5, hM⟩ := bind_some' hM
      rcases Bool.eq_false_or_eq_true v5 with h6 | h6
      · have hM := ite_true' hM h6
        obtain ⟨v7, hv7, hM⟩ := bind_some' hM
        refine tr_sr hT hm [(2, .call [] [] [.agg (eXFunctor.b a0.Source)] [] (bv v1)), (3, .val (bv true)), (6, .call [] [] [.agg (eXFunctor.b a0.Target)] [] (bv v3)), (8, .val (bv true)), (13, .call [] [] [.agg (eXFunctor.b a0.Source), .agg (eXFunctor.b a0.Target)] [] (bv v5)), (15, .val (bv true)), (22, .call [] [] [.agg (eXFunctor.b a0.Source), .agg (eXFunctor.b a0.Target), .sl a0.Components.length 0 (a0.Components.flatMap eI.b)] [] (bv v7))] [4] [(4, .d (bv v7))] (cc0 ok105 (spec_l06Is_c a0.Source _ hv1) (by kernel_rfl) (.cons (congrArg (fun b => bv b) h2) (cc0 ok105 (spec_l06Is_c a0.Target _ hv3) (by kernel_rfl) (.cons (congrArg (fun b => bv b) h4) (cc0 ok169 (spec_l07Parallel_c a0.Source a0.Target _ hv5) (by kernel_rfl) (.cons (congrArg (fun b => bv b) h6) (cc0 ok170 (spec_l07Ends_c a0.Source a0.Target a0.Components _ hv7) (by kernel_rfl) .nil))))))) (by kernel_rfl) (by kernel_rfl) ?_
        refine tr_ret (rg_r ?_)
        obtain rfl := Option.some.inj hM
        exact retg (names := []) .nil (by kernel_rfl)
      · have hM := ite_false' hM h6
        refine tr_sr hT hm [(2, .call [] [] [.agg (eXFunctor.b a0.Source)] [] (bv v1)), (3, .val (bv true)), (6, .call [] [] [.agg (eXFunctor.b a0.Target)] [] (bv v3)), (8, .val (bv true)), (13, .call [] [] [.agg (eXFunctor.b a0.Source), .agg (eXFunctor.b a0.Target)] [] (bv v5)), (15, .val (bv false))] [4] [(4, .d (bv false))] (cc0 ok105 (spec_l06Is_c a0.Source _ hv1) (by kernel_rfl) (.cons (congrArg (fun b => bv b) h2) (cc0 ok105 (spec_l06Is_c a0.Target _ hv3) (by kernel_rfl) (.cons (congrArg (fun b => bv b) h4) (cc0 ok169 (spec_l07Parallel_c a0.Source a0.Target _ hv5) (by kernel_rfl) (.cons (congrArg (fun b => bv b) h6) .nil)))))) (by kernel_rfl) (by kernel_rfl) ?_
        refine tr_ret (rg_r ?_)
        obtain rfl := Option.some.inj hM
        exact retg (names := []) .nil (by kernel_rfl)
    · have hM := ite_false' hM h4
      refine tr_sr hT hm [(2, .call [] [] [.agg (eXFunctor.b a0.Source)] [] (bv v1)), (3, .val (bv true)), (6, .call [] [] [.agg (eXFunctor.b a0.Target)] [] (bv v3)), (8, .val (bv false))] [4] [(4, .d (bv false))] (cc0 ok105 (spec_l06Is_c a0.Source _ hv1) (by kernel_rfl) (.cons (congrArg (fun b => bv b) h2) (cc0 ok105 (spec_l06Is_c a0.Target _ hv3) (by kernel_rfl) (.cons (congrArg (fun b => bv b) h4) .nil)))) (by kernel_rfl) (by kernel_rfl) ?_
      refine tr_ret (rg_r ?_)
      obtain rfl := Option.some.inj hM
      exact retg (names := []) .nil (by kernel_rfl)
  · have hM := ite_false' hM h2
    refine tr_sr hT hm [(2, .call [] [] [.agg (eXFunctor.b a0.Source)] [] (bv v1)), (3, .val (bv false))] [4] [(4, .d (bv false))] (cc0 ok105 (spec_l06Is_c a0.Source _ hv1) (by kernel_rfl) (.cons (congrArg (fun b => bv b) h2) .nil)) (by kernel_rfl) (by kernel_rfl) ?_
    refine tr_ret (rg_r ?_)
    obtain rfl := Option.some.inj hM
    exact retg (names := []) .nil (by kernel_rfl)

theorem ok171 : CallOk Try.prog 171 := callOk_of Try.func171 (by kernel_rfl) (by kernel_rfl)
theorem spec_l07Square_c (a0 : XFunctor) (a1 : XFunctor) (a2 : List Int) (a3 : Int) (r : Bool) (hM : M.spec_l07Square a0 a1 a2 a3 = some r) :
    FnC Try.prog 171 [] [.agg (eXFunctor.b a0), .agg (eXFunctor.b a1), .sl a2.length 0 (a2.flatMap eI.b), iv a3] [] (bv r) := by
  refine fnc_startG (N := 54) (np := 500) hT Try.func171 rfl rfl (by kernel_rfl) ?_
  unfold M.spec_l07Square at hM
  refine tr_start (ks := [0, 2, 4, 6]) (st' := [(0, .d (.agg (eXFunctor.b a0))), (2, .d (.agg (eXFunctor.b a1))), (4, .d (.sl a2.length 0 (a2.flatMap eI.b))), (6, .d (iv a3))]) (by kernel_rfl) ?_
  refine tr_sr hT hm [] [4, 6, 8, 10, 2009, 2011] [(4, .d (.sl a2.length 0 (a2.flatMap eI.b))), (6, .d (iv a3)), (8, .d (.rp 1004 0)), (10, .d (.rp 1005 0)), bxB 2009 (eXFunctor.b a0), bxB 2011 (eXFunctor.b a1)] .nil (by kernel_rfl) (by kernel_rfl) ?_
  refine tr_sr hT hm [] [4, 6, 8, 10, 18, 20, 2009, 2011, 2019, 2021] [(4, .d (.sl a2.length 0 (a2.flatMap eI.b))), (6, .d (iv a3)), (8, .d (.rp 1004 0)), (10, .d (.rp 1005 0)), (18, .d (.rp 1009 0)), (20, .d (.rp 1010 0)), bxB 2009 (eXFunctor.b a0), bxB 2011 (eXFunctor.b a1), bxB 2019 (eXCategory.b a0.Source), bxB 2021 (eXCategory.b a0.Target)] (.cons (Nat.le_of_ble_eq_true (n := 5) (m := 5) rfl) (.cons (Nat.le_of_ble_eq_true (n := 5) (m := 5) rfl) .nil)) (by kernel_rfl) (by kernel_rfl) ?_
  obtain ⟨y1, hy1, hM⟩ := bind_some' hM
  have hy1' := idx_some hy1
  obtain ⟨y2, hy2, hM⟩ := bind_some' hM
  have hy2' := idx_some hy2
  obtain ⟨y3, hy3, hM⟩ := bind_some' hM
  have hy3' := idx_some hy3
  obtain ⟨y4, hy4, hM⟩ := bind_some' hM
  have hy4' := idx_some hy4
  obtain ⟨y5, hy5, hM⟩ := bind_some' hM
  have hy5' := idx_some hy5
  obtain ⟨y6, hy6, hM⟩ := bind_some' hM
  have hy6' := idx_some hy6
  obtain ⟨y7, hy7, hM⟩ := bind_some' hM
  have hy7' := idx_some hy7
  obtain ⟨y8, hy8, hM⟩ := bind_some' hM
  have hy8' := idx_some hy8
  obtain ⟨y9, hy9, hM⟩ := bind_some' hM
  have hy9' := idx_some hy9
  obtain ⟨y10, hy10, hM⟩ := bind_some' hM
  have hy10' := idx_some hy10
  refine tr_sr hT hm [(6, .val (iv y1)), (8, .val (.sl y2.length 0 (y2.flatMap eI.b))), (14, .val (iv y3)), (16, .val (iv y4)), (18, .val (iv y5)), (26, .val (iv y6)), (28, .val (iv y7)), (30, .val (.sl y8.length 0 (y8.flatMap eI.b))), (35, .val (iv y9)), (37, .val (iv y10))] [16] [(16, .d (bv (y5 == y10)))] (.cons hy1'.1 (.cons hy1'.2.1 (.cons (at_b0 eI_ok hy1'.2.2 (d := iv y1) (by kernel_rfl)) (.cons hy2'.1 (.cons hy2'.2.1 (.cons (at_b0 (eS_ok eI_ok) hy2'.2.2 (d := .sl y2.length 0 (y2.flatMap eI.b)) (by kernel_rfl)) (.cons hy3'.1 (.cons hy3'.2.1 (.cons (at_b0 eI_ok hy3'.2.2 (d := iv y3) (by kernel_rfl)) (.cons hy4'.1 (.cons hy4'.2.1 (.cons (at_b0 eI_ok hy4'.2.2 (d := iv y4) (by kernel_rfl)) (.cons hy5'.1 (.cons hy5'.2.1 (.cons (at_b0 eI_ok hy5'.2.2 (d := iv y5) (by kernel_rfl)) (.cons hy6'.1 (.cons hy6'.2.1 (.cons (at_b0 eI_ok hy6'.2.2 (d := iv y6) (by kernel_rfl)) (.cons hy7'.1 (.cons hy7'.2.1 (.cons (at_b0 eI_ok hy7'.2.2 (d := iv y7) (by kernel_rfl)) (.cons hy8'.1 (.cons hy8'.2.1 (.cons (at_b0 (eS_ok eI_ok) hy8'.2.2 (d := .sl y8.length 0 (y8.flatMap eI.b)) (by kernel_rfl)) (.cons hy9'.1 (.cons hy9'.2.1 (.cons (at_b0 eI_ok hy9'.2.2 (d := iv y9) (by kernel_rfl)) (.cons hy10'.1 (.cons hy10'.2.1 (.cons (at_b0 eI_ok hy10'.2.2 (d := iv y10) (by kernel_rfl)) .nil)))))))))))))))))))))))))))))) (by kernel_rfl) (by kernel_rfl) ?_
  refine tr_ret (rg_r ?_)
  obtain rfl := Option.some.inj hM
  exact retg (names := []) .nil (by kernel_rfl)

theorem ok153 : CallOk Try.prog 153 := callOk_of Try.func153 (by kernel_rfl) (by kernel_rfl)
theorem spec_l07Fault_c (a0 : XFunctor) (a1 : XFunctor) (a2 : List Int) (r : Int) (hM : M.spec_l07Fault a0 a1 a2 = some r) :
    FnC Try.prog 153 [] [.agg (eXFunctor.b a0), .agg (eXFunctor.b a1), .sl a2.length 0 (a2.flatMap eI.b)] [] (iv r) := by
  refine fnc_startG (N := 22) (np := 500) hT Try.func153 rfl rfl (by kernel_rfl) ?_
  unfold M.spec_l07Fault at hM
  refine tr_start (ks := [0, 2, 4]) (st' := [(0, .d (.agg (eXFunctor.b a0))), (2, .d (.agg (eXFunctor.b a1))), (4, .d (.sl a2.length 0 (a2.flatMap eI.b)))]) (by kernel_rfl) ?_
  refine tr_sr hT hm [] [4, 6, 8, 2007, 2009] [(4, .d (.sl a2.length 0 (a2.flatMap eI.b))), (6, .d (.rp 1003 0)), (8, .d (.rp 1004 0)), bxB 2007 (eXFunctor.b a0), bxB 2009 (eXFunctor.b a1)] .nil (by kernel_rfl) (by kernel_rfl) ?_
  refine tr_seq ?_
  refine tr_sr hT hm [] [4, 6, 8, 14, 2007, 2009] [(4, .d (.sl a2.length 0 (a2.flatMap eI.b))), (6, .d (.rp 1003 0)), (8, .d (.rp 1004 0)), (14, .d (iv 0)), bxB 2007 (eXFunctor.b a0), bxB 2009 (eXFunctor.b a1)] .nil (by kernel_rfl) (by kernel_rfl) ?_
  refine tr_block ?_
  refine tr_iterS (fun (s1 : Int) => [(4, .d (.sl a2.length 0 (a2.flatMap eI.b))), (6, .d (.rp 1003 0)), (8, .d (.rp 1004 0)), (14, .d (iv s1)), bxB 2007 (eXFunctor.b a0), bxB 2009 (eXFunctor.b a1)]) 0 [4, 6, 8, 14, 2007, 2009] (by kernel_rfl) hM ?_
  intro n4 next2 ih3 s1 hM
  refine tr_seq ?_
  refine tr_sr hT hm [] [4, 6, 8, 14, 24, 2007, 2009] [(4, .d (.sl a2.length 0 (a2.flatMap eI.b))), (6, .d (.rp 1003 0)), (8, .d (.rp 1004 0)), (14, .d (iv s1)), (24, .d (bv (decide (s1 < (a0.Arrows.length : Int))))), bxB 2007 (eXFunctor.b a0), bxB 2009 (eXFunctor.b a1)] .nil (by kernel_rfl) (by kernel_rfl) ?_
  rcases Bool.eq_false_or_eq_true (decide (s1 < (a0.Arrows.length : Int))) with h5 | h5
  · have hM := ite_true' hM h5
    refine tr_condTe (e := decide (s1 < (a0.Arrows.length : Int))) h5 (by kernel_rfl) ?_
    refine tr_skip (q_n ?_)
    refine tr_seq ?_
    refine tr_block ?_
    obtain ⟨v6, hv6, hM⟩ := bind_some' hM
    refine tr_sr hT hm [(4, .call [] [] [.agg (eXFunctor.b a0), .agg (eXFunctor.b a1), .sl a2.length 0 (a2.flatMap eI.b), iv s1] [] (bv v6))] [4, 6, 8, 14, 40, 2007, 2009] [(4, .d (.sl a2.length 0 (a2.flatMap eI.b))), (6, .d (.rp 1003 0)), (8, .d (.rp 1004 0)), (14, .d (iv s1)), (40, .d (bv (!v6))), bxB 2007 (eXFunctor.b a0), bxB 2009 (eXFunctor.b a1)] (cc0 ok171 (spec_l07Square_c a0 a1 a2 s1 _ hv6) (by kernel_rfl) .nil) (by kernel_rfl) (by kernel_rfl) ?_
    rcases Bool.eq_false_or_eq_true v6 with h7 | h7
    · have hM := ite_true' hM h7
      refine tr_condFe (e := !v6) (congrArg not h7) (by kernel_rfl) ?_
      refine tr_skip (b_n (q_n ?_))
      refine tr_r hT hm [] [4, 6, 8, 14, 2007, 2009] [(4, .d (.sl a2.length 0 (a2.flatMap eI.b))), (6, .d (.rp 1003 0)), (8, .d (.rp 1004 0)), (14, .d (iv (IntKind.i64.wrap (s1 + 1)))), bxB 2007 (eXFunctor.b a0), bxB 2009 (eXFunctor.b a1)] .nil (by kernel_rfl) (by kernel_rfl) (l_n ?_)
      exact trl_start (ks := [4, 6, 8, 14, 2007, 2009]) (by kernel_rfl) (ih3 (IntKind.i64.wrap (s1 + 1)) hM)
    · have hM := ite_false' hM h7
      refine tr_condTe (e := !v6) (congrArg not h7) (by kernel_rfl) ?_
      refine tr_sr hT hm [] [12] [(12, .d (iv s1))] .nil (by kernel_rfl) (by kernel_rfl) ?_
      refine tr_ret (b_r (q_r (l_r (b_r (q_r (rg_r ?_))))))
      obtain rfl := Option.some.inj hM
      exact retg (names := []) .nil (by kernel_rfl)
  · have hM := ite_false' hM h5
    refine tr_condFe (e := decide (s1 < (a0.Arrows.length : Int))) h5 (by kernel_rfl) ?_
    refine tr_exit (q_x (l_x (b_h (q_n ?_))))
    refine tr_sr hT hm [] [12] [(12, .d (iv (-1)))] .nil (by kernel_rfl) (by kernel_rfl) ?_
    refine tr_ret (rg_r ?_)
    obtain rfl := Option.some.inj hM
    exact retg (names := []) .nil (by kernel_rfl)

theorem ok110 : CallOk Try.prog 110 := callOk_of Try.func110 (by kernel_rfl) (by kernel_rfl)
theorem spec_l07Is_c (a0 : XTransformation) (r : Bool) (hM : M.spec_l07Is a0 = some r) :
    FnC Try.prog 110 [] [.agg (eXTransformation.b a0)] [] (bv r) := by
  refine fnc_startG (N := 15) (np := 500) hT Try.func110 rfl rfl (by kernel_rfl) ?_
  unfold M.spec_l07Is at hM
  refine tr_start (ks := [0]) (st' := [(0, .d (.agg (eXTransformation.b a0)))]) (by kernel_rfl) ?_
  refine tr_sr hT hm [] [2, 2003] [(2, .d (.rp 1001 0)), bxB 2003 (eXTransformation.b a0)] .nil (by kernel_rfl) (by kernel_rfl) ?_
  obtain ⟨v1, hv1, hM⟩ := bind_some' hM
  rcases Bool.eq_false_or_eq_true v1 with h2 | h2
  · have hM := ite_true' hM h2
    obtain ⟨v3, hv3, hM⟩ := bind_some' hM
    refine tr_sr hT hm [(1, .call [] [] [.agg (eXTransformation.b a0)] [] (bv v1)), (2, .val (bv true)), (9, .call [] [] [.agg (eXFunctor.b a0.Source), .agg (eXFunctor.b a0.Target), .sl a0.Components.length 0 (a0.Components.flatMap eI.b)] [] (iv v3))] [4] [(4, .d (bv (decide (v3 < 0))))] (cc0 ok152 (spec_l07Shape_c a0 _ hv1) (by kernel_rfl) (.cons (congrArg (fun b => bv b) h2) (cc0 ok153 (spec_l07Fault_c a0.Source a0.Target a0.Components _ hv3) (by kernel_rfl) .nil))) (by kernel_rfl) (by kernel_rfl) ?_
    refine tr_ret (rg_r ?_)
    obtain rfl := Option.some.inj hM
    exact retg (names := []) .nil (by kernel_rfl)
  · have hM := ite_false' hM h2
    refine tr_sr hT hm [(1, .call [] [] [.agg (eXTransformation.b a0)] [] (bv v1)), (2, .val (bv false))] [4] [(4, .d (bv false))] (cc0 ok152 (spec_l07Shape_c a0 _ hv1) (by kernel_rfl) (.cons (congrArg (fun b => bv b) h2) .nil)) (by kernel_rfl) (by kernel_rfl) ?_
    refine tr_ret (rg_r ?_)
    obtain rfl := Option.some.inj hM
    exact retg (names := []) .nil (by kernel_rfl)

theorem ok172 : CallOk Try.prog 172 := callOk_of Try.func172 (by kernel_rfl) (by kernel_rfl)
theorem impl_parallelFunctors_c (a0 : XFunctor) (a1 : XFunctor) (r : Bool) (hM : M.impl_parallelFunctors a0 a1 = some r) :
    FnC Try.prog 172 [] [.pt (eXFunctor.b a0) 0, .pt (eXFunctor.b a1) 0] [] (bv r) := by
  refine fnc_startG (N := 21) (np := 500) hT Try.func172 rfl rfl (by kernel_rfl) ?_
  unfold M.impl_parallelFunctors at hM
  refine tr_start (ks := [0, 2]) (st' := [(0, .d (.pt (eXFunctor.b a0) 0)), (2, .d (.pt (eXFunctor.b a1) 0))]) (by kernel_rfl) ?_
  refine tr_sr hT hm [] [0, 2] [(0, .d (.pt (eXFunctor.b a0) 0)), (2, .d (.pt (eXFunctor.b a1) 0))] .nil (by kernel_rfl) (by kernel_rfl) ?_
  obtain ⟨v1, hv1, hM⟩ := bind_some' hM
  rcases Bool.eq_false_or_eq_true v1 with h2 | h2
  · have hM := ite_true' hM h2
    obtain ⟨v3, hv3, hM⟩ := bind_some' hM
    refine tr_sr hT hm [(6, .call [] [] [.pt (eXCategory.b a0.Source) 0, .pt (eXCategory.b a1.Source) 0] [] (bv v1)), (7, .val (bv true)), (14, .call [] [] [.pt (eXCategory.b a0.Target) 0, .pt (eXCategory.b a1.Target) 0] [] (bv v3))] [8] [(8, .d (bv v3))] (cc (B := []) (ρ := []) (rB := []) ok70 (impl_sameCategory_c a0.Source a1.Source _ hv1) (.cons (.pass (.ptk (ds := eXFunctor.b a0) (ds' := eXCategory.b a0.Source) (off := 0) (n := 5) (by kernel_rfl) (by kernel_rfl) (by kernel_rfl))) (.cons (.pass (.ptk (ds := eXFunctor.b a1) (ds' := eXCategory.b a1.Source) (off := 0) (n := 5) (by kernel_rfl) (by kernel_rfl) (by kernel_rfl))) .nil)) (.inl rfl) (.cons (congrArg (fun b => bv b) h2) (cc (B := []) (ρ := []) (rB := []) ok70 (impl_sameCategory_c a0.Target a1.Target _ hv3) (.cons (.pass (.ptk (ds := eXFunctor.b a0) (ds' := eXCategory.b a0.Target) (off := 5) (n := 5) (by kernel_rfl) (by kernel_rfl) (by kernel_rfl))) (.cons (.pass (.ptk (ds := eXFunctor.b a1) (ds' := eXCategory.b a1.Target) (off := 5) (n := 5) (by kernel_rfl) (by kernel_rfl) (by kernel_rfl))) .nil)) (.inl rfl) .nil))) (by kernel_rfl) (by kernel_rfl) ?_
    refine tr_ret (rg_r ?_)
    obtain rfl := Option.some.inj hM
    exact retg (names := []) .nil (by kernel_rfl)
  · have hM := ite_false' hM h2
    refine tr_sr hT hm [(6, .call [] [] [.pt (eXCategory.b a0.Source) 0, .pt (eXCategory.b a1.Source) 0] [] (bv v1)), (7, .val (bv false))] [8] [(8, .d (bv false))] (cc (B := []) (ρ := []) (rB := []) ok70 (impl_sameCategory_c a0.Source a1.Source _ hv1) (.cons (.pass (.ptk (ds := eXFunctor.b a0) (ds' := eXCategory.b a0.Source) (off := 0) (n := 5) (by kernel_rfl) (by kernel_rfl) (by kernel_rfl))) (.cons (.pass (.ptk (ds := eXFunctor.b a1) (ds' := eXCategory.b a1.Source) (off := 0) (n := 5) (by kernel_rfl) (by kernel_rfl) (by kernel_rfl))) .nil)) (.inl rfl) (.cons (congrArg (fun b => bv b) h2) .nil)) (by kernel_rfl) (by kernel_rfl) ?_
    refine tr_ret (rg_r ?_)
    obtain rfl := Option.some.inj hM
    exact retg (names := []) .nil (by kernel_rfl)

theorem ok154 : CallOk Try.prog 154 := callOk_of Try.func154 (by kernel_rfl) (by kernel_rfl)
theorem impl_Transformation_isShape_c (a0 : XTransformation) (r : Bool) (hM : M.impl_Transformation_isShape a0 = some r) :
    FnC Try.prog 154 [] [.pt (eXTransformation.b a0) 0] [] (bv r) := by
  refine fnc_startG (N := 81) (np := 500) hT Try.func154 rfl rfl (by kernel_rfl) ?_
  unfold M.impl_Transformation_isShape at hM
  refine tr_start (ks := [0]) (st' := [(0, .d (.pt (eXTransformation.b a0) 0))]) (by kernel_rfl) ?_
  refine tr_sr hT hm [] [0] [(0, .d (.pt (eXTransformation.b a0) 0))] .nil (by kernel_rfl) (by kernel_rfl) ?_
  refine tr_sr hT hm [] [0, 6, 8] [(0, .d (.pt (eXTransformation.b a0) 0)), (6, .d (.pt (eXTransformation.b a0) 0)), (8, .d (.pt (eXTransformation.b a0) 12))] .nil (by kernel_rfl) (by kernel_rfl) ?_
  refine tr_seq ?_
  obtain ⟨v1, hv1, hM⟩ := bind_some' hM
  rcases Bool.eq_false_or_eq_true v1 with h2 | h2
  · have hM := ite_true' hM h2
    obtain ⟨v3, hv3, hM⟩ := bind_some' hM
    rcases Bool.eq_false_or_eq_true v3 with h4 | h4
    · have hM := ite_true' hM h4
      rcases Bool.eq_false_or_eq_true ((a0.Components.length : Int) != a0.Source.Source.Objects) with h5 | h5
      · have hM := ite_true' hM h5
        refine tr_sr hT hm [(3, .call [1015] [] [.sl ([a0.Source, a0.Target] : List XFunctor).length 0 (([a0.Source, a0.Target] : List XFunctor).flatMap (eP eXFunctor).b)] [] (bv v1)), (5, .val (bv false)), (8, .call [] [] [.pt (eXFunctor.b a0.Source) 0, .pt (eXFunctor.b a0.Target) 0] [] (bv v3)), (11, .val (bv false)), (24, .val (bv true))] [0, 6, 8, 96] [(0, .d (.pt (eXTransformation.b a0) 0)), (6, .d (.pt (eXTransformation.b a0) 0)), (8, .d (.pt (eXTransformation.b a0) 12)), (96, .d (bv true))] (cc (B := [1015]) (ρ := []) (rB := [(1015, .arr 1 [.pt (eXTransformation.b a0) 0, .pt (eXTransformation.b a0) 12] [])]) ok69 (impl_areFunctors_c ([a0.Source, a0.Target] : List XFunctor) _ hv1) (.cons (.of1 (.rs (r := 1015) (sz := 1) (cells := [.pt (eXTransformation.b a0) 0, .pt (eXTransformation.b a0) 12]) (refs := []) (memB (by kernel_rfl)) (by kernel_rfl) (.cons (.ptk (ds := eXTransformation.b a0) (ds' := eXFunctor.b a0.Source) (off := 0) (n := 12) (by kernel_rfl) (by kernel_rfl) (by kernel_rfl)) (.cons (.ptk (ds := eXTransformation.b a0) (ds' := eXFunctor.b a0.Target) (off := 12) (n := 12) (by kernel_rfl) (by kernel_rfl) (by kernel_rfl)) .nil)))) .nil) (.inr ⟨.v, trivial⟩) (.cons (congrArg (fun b => bv b) (congrArg not h2)) (cc (B := []) (ρ := []) (rB := []) ok172 (impl_parallelFunctors_c a0.Source a0.Target _ hv3) (.cons (.pass (.ptk (ds := eXTransformation.b a0) (ds' := eXFunctor.b a0.Source) (off := 0) (n := 12) (by kernel_rfl) (by kernel_rfl) (by kernel_rfl))) (.cons (.pass (.ptk (ds := eXTransformation.b a0) (ds' := eXFunctor.b a0.Target) (off := 12) (n := 12) (by kernel_rfl) (by kernel_rfl) (by kernel_rfl))) .nil)) (.inl rfl) (.cons (congrArg (fun b => bv b) (congrArg not h4)) (.cons (congrArg (fun b => bv b) h5) .nil))))) (by kernel_rfl) (by kernel_rfl) ?_
        refine tr_condT (by kernel_rfl) ?_
        refine tr_sr hT hm [] [4] [(4, .d (bv false))] .nil (by kernel_rfl) (by kernel_rfl) ?_
        refine tr_ret (q_r (rg_r ?_))
        obtain rfl := Option.some.inj hM
        exact retg (names := []) .nil (by kernel_rfl)
      · have hM := ite_false' hM h5
        obtain ⟨v6, hv6, hM⟩ := bind_some' hM
        obtain ⟨v7, hv7, hM⟩ := bind_some' hM
        refine tr_sr hT hm [(3, .call [1015] [] [.sl ([a0.Source, a0.Target] : List XFunctor).length 0 (([a0.Source, a0.Target] : List XFunctor).flatMap (eP eXFunctor).b)] [] (bv v1)), (5, .val (bv false)), (8, .call [] [] [.pt (eXFunctor.b a0.Source) 0, .pt (eXFunctor.b a0.Target) 0] [] (bv v3)), (11, .val (bv false)), (24, .val (bv false)), (32, .call [] [] [.pt (eXCategory.b a0.Source.Target) 0] [] (iv v6)), (33, .call [] [] [.sl a0.Components.length 0 (a0.Components.flatMap eI.b), iv v6] [] (bv v7))] [0, 6, 8, 96] [(0, .d (.pt (eXTransformation.b a0) 0)), (6, .d (.pt (eXTransformation.b a0) 0)), (8, .d (.pt (eXTransformation.b a0) 12)), (96, .d (bv (!v7)))] (cc (B := [1015]) (ρ := []) (rB := [(1015, .arr 1 [.pt (eXTransformation.b a0) 0, .pt (eXTransformation.b a0) 12] [])]) ok69 (impl_areFunctors_c ([a0.Source, a0.Target] : List XFunctor) _ hv1) (.cons (.of1 (.rs (r := 1015) (sz := 1) (cells := [.pt (eXTransformation.b a0) 0, .pt (eXTransformation.b a0) 12]) (refs := []) (memB (by kernel_rfl)) (by kernel_rfl) (.cons (.ptk (ds := eXTransformation.b a0) (ds' := eXFunctor.b a0.Source) (off := 0) (n := 12) (by kernel_rfl) (by kernel_rfl) (by kernel_rfl)) (.cons (.ptk (ds := eXTransformation.b a0) (ds' := eXFunctor.b a0.Target) (off := 12) (n := 12) (by kernel_rfl) (by kernel_rfl) (by kernel_rfl)) .nil)))) .nil) (.inr ⟨.v, trivial⟩) (.cons (congrArg (fun b => bv b) (congrArg not h2)) (cc (B := []) (ρ := []) (rB := []) ok172 (impl_parallelFunctors_c a0.Source a0.Target _ hv3) (.cons (.pass (.ptk (ds := eXTransformation.b a0) (ds' := eXFunctor.b a0.Source) (off := 0) (n := 12) (by kernel_rfl) (by kernel_rfl) (by kernel_rfl))) (.cons (.pass (.ptk (ds := eXTransformation.b a0) (ds' := eXFunctor.b a0.Target) (off := 12) (n := 12) (by kernel_rfl) (by kernel_rfl) (by kernel_rfl))) .nil)) (.inl rfl) (.cons (congrArg (fun b => bv b) (congrArg not h4)) (.cons (congrArg (fun b => bv b) h5) (cc (B := []) (ρ := []) (rB := []) ok81 (impl_Category_arrows_c a0.Source.Target _ hv6) (.cons (.pass (.ptk (ds := eXTransformation.b a0) (ds' := eXCategory.b a0.Source.Target) (off := 5) (n := 5) (by kernel_rfl) (by kernel_rfl) (by kernel_rfl))) .nil) (.inl rfl) (cc0 ok148 (impl_within_c a0.Components v6 _ hv7) (by kernel_rfl) .nil))))))) (by kernel_rfl) (by kernel_rfl) ?_
        rcases Bool.eq_false_or_eq_true v7 with h8 | h8
        · have hM := ite_true' hM h8
          refine tr_condFe (e := !v7) (congrArg not h8) (by kernel_rfl) ?_
          refine tr_skip (q_n ?_)
          refine tr_seq ?_
          refine tr_sr hT hm [] [6, 8, 104, 106, 108] [(6, .d (.pt (eXTransformation.b a0) 0)), (8, .d (.pt (eXTransformation.b a0) 12)), (104, .d (.sl a0.Components.length 0 (a0.Components.flatMap eI.b))), (106, .d (iv (a0.Components.length : Int))), (108, .d (iv 0))] .nil (by kernel_rfl) (by kernel_rfl) ?_
          refine tr_block ?_
          refine tr_iterS (fun (s9 : Int) => [(6, .d (.pt (eXTransformation.b a0) 0)), (8, .d (.pt (eXTransformation.b a0) 12)), (104, .d (.sl a0.Components.length 0 (a0.Components.flatMap eI.b))), (106, .d (iv (a0.Components.length : Int))), (108, .d (iv s9))]) 0 [6, 8, 104, 106, 108] (by kernel_rfl) hM ?_
          intro n12 next10 ih11 s9 hM
          refine tr_sr hT hm [] [6, 8, 104, 106, 108, 110] [(6, .d (.pt (eXTransformation.b a0) 0)), (8, .d (.pt (eXTransformation.b a0) 12)), (104, .d (.sl a0.Components.length 0 (a0.Components.flatMap eI.b))), (106, .d (iv (a0.Components.length : Int))), (108, .d (iv s9)), (110, .d (bv (decide (s9 < (a0.Components.length : Int)))))] .nil (by kernel_rfl) (by kernel_rfl) ?_
          refine tr_seq ?_
          rcases Bool.eq_false_or_eq_true (decide (s9 < (a0.Components.length : Int))) with h13 | h13
          · have hM := ite_true' hM h13
            refine tr_condTe (e := decide (s9 < (a0.Components.length : Int))) h13 (by kernel_rfl) ?_
            refine tr_skip (q_n ?_)
            refine tr_seq ?_
            refine tr_block ?_
            obtain ⟨y14, hy14, hM⟩ := bind_some' hM
            have hy14' := idx_some hy14
            refine tr_sr hT hm [(2, .val (iv y14))] [6, 8, 10, 12, 104, 106, 108] [(6, .d (.pt (eXTransformation.b a0) 0)), (8, .d (.pt (eXTransformation.b a0) 12)), (10, .d (iv s9)), (12, .d (iv y14)), (104, .d (.sl a0.Components.length 0 (a0.Components.flatMap eI.b))), (106, .d (iv (a0.Components.length : Int))), (108, .d (iv s9))] (.cons hy14'.1 (.cons hy14'.2.1 (.cons (at_b0 eI_ok hy14'.2.2 (d := iv y14) (by kernel_rfl)) .nil))) (by kernel_rfl) (by kernel_rfl) ?_
            obtain ⟨v15, hv15, hM⟩ := bind_some' hM
            obtain ⟨y16, hy16, hM⟩ := bind_some' hM
            have hy16' := idx_some hy16
            obtain ⟨y17, hy17, hM⟩ := bind_some' hM
            have hy17' := idx_some hy17
            refine tr_sr hT hm [(4, .call [] [] [.pt (eXCategory.b a0.Source.Target) 0, iv y14] [] (.agg (eXends.o v15))), (11, .val (iv y16)), (18, .val (iv y17))] [6, 8, 104, 106, 108, 158] [(6, .d (.pt (eXTransformation.b a0) 0)), (8, .d (.pt (eXTransformation.b a0) 12)), (104, .d (.sl a0.Components.length 0 (a0.Components.flatMap eI.b))), (106, .d (iv (a0.Components.length : Int))), (108, .d (iv s9)), (158, .d (bv (((v15.from_ == y16) && (v15.to_ == y17)) == false)))] (cc (B := []) (ρ := []) (rB := []) ok173 (impl_Category_ends_c a0.Source.Target y14 _ hv15) (.cons (.pass (.ptk (ds := eXTransformation.b a0) (ds' := eXCategory.b a0.Source.Target) (off := 5) (n := 5) (by kernel_rfl) (by kernel_rfl) (by kernel_rfl))) (.cons (.same rfl) .nil)) (.inl rfl) (.cons hy16'.1 (.cons hy16'.2.1 (.cons (at_b0 eI_ok hy16'.2.2 (d := iv y16) (by kernel_rfl)) (.cons hy17'.1 (.cons hy17'.2.1 (.cons (at_b0 eI_ok hy17'.2.2 (d := iv y17) (by kernel_rfl)) (.cons (by kernel_rfl : Try.prog.stoodInHeld 168 = false) (.cons (by kernel_rfl : Try.prog.eqGuardType Try.prog.depth 168 = false) .nil))))))))) (by kernel_rfl) (by kernel_rfl) ?_
            rcases Bool.eq_false_or_eq_true (((v15.from_ == y16) && (v15.to_ == y17)) == false) with h18 | h18
            · have hM := ite_true' hM h18
              refine tr_condTe (e := ((v15.from_ == y16) && (v15.to_ == y17)) == false) h18 (by kernel_rfl) ?_
              refine tr_sr hT hm [] [4] [(4, .d (bv false))] .nil (by kernel_rfl) (by kernel_rfl) ?_
              refine tr_ret (b_r (q_r (l_r (b_r (q_r (rg_r ?_))))))
              obtain rfl := Option.some.inj hM
              exact retg (names := []) .nil (by kernel_rfl)
            · have hM := ite_false' hM h18
              refine tr_condFe (e := ((v15.from_ == y16) && (v15.to_ == y17)) == false) h18 (by kernel_rfl) ?_
              refine tr_skip (b_n (q_n ?_))
              refine tr_r hT hm [] [6, 8, 104, 106, 108] [(6, .d (.pt (eXTransformation.b a0) 0)), (8, .d (.pt (eXTransformation.b a0) 12)), (104, .d (.sl a0.Components.length 0 (a0.Components.flatMap eI.b))), (106, .d (iv (a0.Components.length : Int))), (108, .d (iv (IntKind.i64.wrap (s9 + 1))))] .nil (by kernel_rfl) (by kernel_rfl) (l_n ?_)
              exact trl_start (ks := [6, 8, 104, 106, 108]) (by kernel_rfl) (ih11 (IntKind.i64.wrap (s9 + 1)) hM)
          · have hM := ite_false' hM h13
            refine tr_condFe (e := decide (s9 < (a0.Components.length : Int))) h13 (by kernel_rfl) ?_
            refine tr_exit (q_x (l_x (b_h (q_n ?_))))
            refine tr_sr hT hm [] [4] [(4, .d (bv true))] .nil (by kernel_rfl) (by kernel_rfl) ?_
            refine tr_ret (rg_r ?_)
            obtain rfl := Option.some.inj hM
            exact retg (names := []) .nil (by kernel_rfl)
        · have hM := ite_false' hM h8
          refine tr_condTe (e := !v7) (congrArg not h8) (by kernel_rfl) ?_
          refine tr_sr hT hm [] [4] [(4, .d (bv false))] .nil (by kernel_rfl) (by kernel_rfl) ?_
          refine tr_ret (q_r (rg_r ?_))
          obtain rfl := Option.some.inj hM
          exact retg (names := []) .nil (by kernel_rfl)
    · have hM := ite_false' hM h4
      refine tr_sr hT hm [(3, .call [1015] [] [.sl ([a0.Source, a0.Target] : List XFunctor).length 0 (([a0.Source, a0.Target] : List XFunctor).flatMap (eP eXFunctor).b)] [] (bv v1)), (5, .val (bv false)), (8, .call [] [] [.pt (eXFunctor.b a0.Source) 0, .pt (eXFunctor.b a0.Target) 0] [] (bv v3)), (11, .val (bv true))] [0, 6, 8, 96] [(0, .d (.pt (eXTransformation.b a0) 0)), (6, .d (.pt (eXTransformation.b a0) 0)), (8, .d (.pt (eXTransformation.b a0) 12)), (96, .d (bv true))] (cc (B := [1015]) (ρ := []) (rB := [(1015, .arr 1 [.pt (eXTransformation.b a0) 0, .pt (eXTransformation.b a0) 12] [])]) ok69 (impl_areFunctors_c ([a0.Source, a0.Target] : List XFunctor) _ hv1) (.cons (.of1 (.rs (r := 1015) (sz := 1) (cells := [.pt (eXTransformation.b a0) 0, .pt (eXTransformation.b a0) 12]) (refs := []) (memB (by kernel_rfl)) (by kernel_rfl) (.cons (.ptk (ds := eXTransformation.b a0) (ds' := eXFunctor.b a0.Source) (off := 0) (n := 12) (by kernel_rfl) (by kernel_rfl) (by kernel_rfl)) (.cons (.ptk (ds := eXTransformation.b a0) (ds' := eXFunctor.b a0.Target) (off := 12) (n := 12) (by kernel_rfl) (by kernel_rfl) (by kernel_rfl)) .nil)))) .nil) (.inr ⟨.v, trivial⟩) (.cons (congrArg (fun b => bv b) (congrArg not h2)) (cc (B := []) (ρ := []) (rB := []) ok172 (impl_parallelFunctors_c a0.Source a0.Target _ hv3) (.cons (.pass (.ptk (ds := eXTransformation.b a0) (ds' := eXFunctor.b a0.Source) (off := 0) (n := 12) (by kernel_rfl) (by kernel_rfl) (by kernel_rfl))) (.cons (.pass (.ptk (ds := eXTransformation.b a0) (ds' := eXFunctor.b a0.Target) (off := 12) (n := 12) (by kernel_rfl) (by kernel_rfl) (by kernel_rfl))) .nil)) (.inl rfl) (.cons (congrArg (fun b => bv b) (congrArg not h4)) .nil)))) (by kernel_rfl) (by kernel_rfl) ?_
      refine tr_condT (by kernel_rfl) ?_
      refine tr_sr hT hm [] [4] [(4, .d (bv false))] .nil (by kernel_rfl) (by kernel_rfl) ?_
      refine tr_ret (q_r (rg_r ?_))
      obtain rfl := Option.some.inj hM
      exact retg (names := []) .nil (by kernel_rfl)
  · have hM := ite_false' hM h2
    refine tr_sr hT hm [(3, .call [1015] [] [.sl ([a0.Source, a0.Target] : List XFunctor).length 0 (([a0.Source, a0.Target] : List XFunctor).flatMap (eP eXFunctor).b)] [] (bv v1)), (5, .val (bv true))] [0, 6, 8, 96] [(0, .d (.pt (eXTransformation.b a0) 0)), (6, .d (.pt (eXTransformation.b a0) 0)), (8, .d (.pt (eXTransformation.b a0) 12)), (96, .d (bv true))] (cc (B := [1015]) (ρ := []) (rB := [(1015, .arr 1 [.pt (eXTransformation.b a0) 0, .pt (eXTransformation.b a0) 12] [])]) ok69 (impl_areFunctors_c ([a0.Source, a0.Target] : List XFunctor) _ hv1) (.cons (.of1 (.rs (r := 1015) (sz := 1) (cells := [.pt (eXTransformation.b a0) 0, .pt (eXTransformation.b a0) 12]) (refs := []) (memB (by kernel_rfl)) (by kernel_rfl) (.cons (.ptk (ds := eXTransformation.b a0) (ds' := eXFunctor.b a0.Source) (off := 0) (n := 12) (by kernel_rfl) (by kernel_rfl) (by kernel_rfl)) (.cons (.ptk (ds := eXTransformation.b a0) (ds' := eXFunctor.b a0.Target) (off := 12) (n := 12) (by kernel_rfl) (by kernel_rfl) (by kernel_rfl)) .nil)))) .nil) (.inr ⟨.v, trivial⟩) (.cons (congrArg (fun b => bv b) (congrArg not h2)) .nil)) (by kernel_rfl) (by kernel_rfl) ?_
    refine tr_condT (by kernel_rfl) ?_
    refine tr_sr hT hm [] [4] [(4, .d (bv false))] .nil (by kernel_rfl) (by kernel_rfl) ?_
    refine tr_ret (q_r (rg_r ?_))
    obtain rfl := Option.some.inj hM
    exact retg (names := []) .nil (by kernel_rfl)

theorem ok155 : CallOk Try.prog 155 := callOk_of Try.func155 (by kernel_rfl) (by kernel_rfl)
theorem impl_firstFailure_c (a0 : XTransformation) (f1 : Nat) (c1 : List D) (a1 : XFunctor → XFunctor → (List Int) → Int → Option Bool) (ok1_ : CallOk Try.prog f1) (hm1 : menL c1 = []) (hf1 : ∀ x0 x1 x2 x3 r, a1 x0 x1 x2 x3 = some r → FnC Try.prog f1 [] ([.pt (eXFunctor.b x0) 0, .pt (eXFunctor.b x1) 0, .sl x2.length 0 (x2.flatMap eI.b), iv x3] ++ c1) [] (bv r)) (r : Int) (hM : M.impl_firstFailure a0 a1 = some r) :
    FnC Try.prog 155 [] [.pt (eXTransformation.b a0) 0, .fb f1 c1] [] (iv r) := by
  refine fnc_startG (N := 31) (np := 500) hT Try.func155 rfl rfl (by kernel_rfl) ?_
  unfold M.impl_firstFailure at hM
  refine tr_start (ks := [0, 2]) (st' := [(0, .d (.pt (eXTransformation.b a0) 0)), (2, .d (.fb f1 c1))]) (by kernel_rfl) ?_
  refine tr_sr hT hm [] [0, 2] [(0, .d (.pt (eXTransformation.b a0) 0)), (2, .d (.fb f1 c1))] .nil (by kernel_rfl) (by kernel_rfl) ?_
  refine tr_seq ?_
  refine tr_sr hT hm [] [0, 2, 22, 24] [(0, .d (.pt (eXTransformation.b a0) 0)), (2, .d (.fb f1 c1)), (22, .d (iv (a0.Source.Arrows.length : Int))), (24, .d (iv 0))] .nil (by kernel_rfl) (by kernel_rfl) ?_
  refine tr_block ?_
  refine tr_iterS (fun (s1 : Int) => [(0, .d (.pt (eXTransformation.b a0) 0)), (2, .d (.fb f1 c1)), (22, .d (iv (a0.Source.Arrows.length : Int))), (24, .d (iv s1))]) 0 [0, 2, 22, 24] (by kernel_rfl) hM ?_
  intro n4 next2 ih3 s1 hM
  refine tr_sr hT hm [] [0, 2, 22, 24, 26] [(0, .d (.pt (eXTransformation.b a0) 0)), (2, .d (.fb f1 c1)), (22, .d (iv (a0.Source.Arrows.length : Int))), (24, .d (iv s1)), (26, .d (bv (decide (s1 < (a0.Source.Arrows.length : Int)))))] .nil (by kernel_rfl) (by kernel_rfl) ?_
  refine tr_seq ?_
  rcases Bool.eq_false_or_eq_true (decide (s1 < (a0.Source.Arrows.length : Int))) with h5 | h5
  · have hM := ite_true' hM h5
    refine tr_condTe (e := decide (s1 < (a0.Source.Arrows.length : Int))) h5 (by kernel_rfl) ?_
    refine tr_skip (q_n ?_)
    refine tr_seq ?_
    refine tr_block ?_
    refine tr_sr hT hm [] [0, 2, 10, 22, 24] [(0, .d (.pt (eXTransformation.b a0) 0)), (2, .d (.fb f1 c1)), (10, .d (iv s1)), (22, .d (iv (a0.Source.Arrows.length : Int))), (24, .d (iv s1))] .nil (by kernel_rfl) (by kernel_rfl) ?_
    obtain ⟨v6, hv6, hM⟩ := bind_some' hM
    refine tr_sr hT hm [(12, .call [] [] ([.pt (eXFunctor.b a0.Source) 0, .pt (eXFunctor.b a0.Target) 0, .sl a0.Components.length 0 (a0.Components.flatMap eI.b), iv s1] ++ c1) [] (bv v6))] [0, 2, 10, 22, 24, 56] [(0, .d (.pt (eXTransformation.b a0) 0)), (2, .d (.fb f1 c1)), (10, .d (iv s1)), (22, .d (iv (a0.Source.Arrows.length : Int))), (24, .d (iv s1)), (56, .d (bv (!v6)))] (cc (B := []) (ρ := []) (rB := []) ok1_ (hf1 a0.Source a0.Target a0.Components s1 _ hv6) (.cons (.pass (.ptk (ds := eXTransformation.b a0) (ds' := eXFunctor.b a0.Source) (off := 0) (n := 12) (by kernel_rfl) (by kernel_rfl) (by kernel_rfl))) (.cons (.pass (.ptk (ds := eXTransformation.b a0) (ds' := eXFunctor.b a0.Target) (off := 12) (n := 12) (by kernel_rfl) (by kernel_rfl) (by kernel_rfl))) (.cons (.same rfl) (.cons (.same rfl) (.keep hm1))))) (.inl rfl) .nil) (by kernel_rfl) (by kernel_rfl) ?_
    rcases Bool.eq_false_or_eq_true v6 with h7 | h7
    · have hM := ite_true' hM h7
      refine tr_condFe (e := !v6) (congrArg not h7) (by kernel_rfl) ?_
      refine tr_skip (b_n (q_n ?_))
      refine tr_r hT hm [] [0, 2, 22, 24] [(0, .d (.pt (eXTransformation.b a0) 0)), (2, .d (.fb f1 c1)), (22, .d (iv (a0.Source.Arrows.length : Int))), (24, .d (iv (IntKind.i64.wrap (s1 + 1))))] .nil (by kernel_rfl) (by kernel_rfl) (l_n ?_)
      exact trl_start (ks := [0, 2, 22, 24]) (by kernel_rfl) (ih3 (IntKind.i64.wrap (s1 + 1)) hM)
    · have hM := ite_false' hM h7
      refine tr_condTe (e := !v6) (congrArg not h7) (by kernel_rfl) ?_
      refine tr_sr hT hm [] [8] [(8, .d (iv s1))] .nil (by kernel_rfl) (by kernel_rfl) ?_
      refine tr_ret (b_r (q_r (l_r (b_r (q_r (rg_r ?_))))))
      obtain rfl := Option.some.inj hM
      exact retg (names := []) .nil (by kernel_rfl)
  · have hM := ite_false' hM h5
    refine tr_condFe (e := decide (s1 < (a0.Source.Arrows.length : Int))) h5 (by kernel_rfl) ?_
    refine tr_exit (q_x (l_x (b_h (q_n ?_))))
    refine tr_sr hT hm [] [8] [(8, .d (iv (-1)))] .nil (by kernel_rfl) (by kernel_rfl) ?_
    refine tr_ret (rg_r ?_)
    obtain rfl := Option.some.inj hM
    exact retg (names := []) .nil (by kernel_rfl)

theorem ok156 : CallOk Try.prog 156 := callOk_of Try.func156 (by kernel_rfl) (by kernel_rfl)
theorem impl_commutes_c (a0 : XFunctor) (a1 : XFunctor) (a2 : List Int) (a3 : Int) (r : Bool) (hM : M.impl_commutes a0 a1 a2 a3 = some r) :
    FnC Try.prog 156 [] [.pt (eXFunctor.b a0) 0, .pt (eXFunctor.b a1) 0, .sl a2.length 0 (a2.flatMap eI.b), iv a3] [] (bv r) := by
  refine fnc_startG (N := 56) (np := 500) hT Try.func156 rfl rfl (by kernel_rfl) ?_
  unfold M.impl_commutes at hM
  refine tr_start (ks := [0, 2, 4, 6]) (st' := [(0, .d (.pt (eXFunctor.b a0) 0)), (2, .d (.pt (eXFunctor.b a1) 0)), (4, .d (.sl a2.length 0 (a2.flatMap eI.b))), (6, .d (iv a3))]) (by kernel_rfl) ?_
  refine tr_sr hT hm [] [0, 2, 4, 6] [(0, .d (.pt (eXFunctor.b a0) 0)), (2, .d (.pt (eXFunctor.b a1) 0)), (4, .d (.sl a2.length 0 (a2.flatMap eI.b))), (6, .d (iv a3))] .nil (by kernel_rfl) (by kernel_rfl) ?_
  refine tr_sr hT hm [] [0, 2, 4, 6, 18, 20] [(0, .d (.pt (eXFunctor.b a0) 0)), (2, .d (.pt (eXFunctor.b a1) 0)), (4, .d (.sl a2.length 0 (a2.flatMap eI.b))), (6, .d (iv a3)), (18, .d (.pt (eXFunctor.b a0) 0)), (20, .d (.pt (eXFunctor.b a0) 5))] .nil (by kernel_rfl) (by kernel_rfl) ?_
  obtain ⟨y1, hy1, hM⟩ := bind_some' hM
  have hy1' := idx_some hy1
  obtain ⟨y2, hy2, hM⟩ := bind_some' hM
  have hy2' := idx_some hy2
  obtain ⟨y3, hy3, hM⟩ := bind_some' hM
  have hy3' := idx_some hy3
  obtain ⟨v4, hv4, hM⟩ := bind_some' hM
  obtain ⟨y5, hy5, hM⟩ := bind_some' hM
  have hy5' := idx_some hy5
  obtain ⟨y6, hy6, hM⟩ := bind_some' hM
  have hy6' := idx_some hy6
  obtain ⟨y7, hy7, hM⟩ := bind_some' hM
  have hy7' := idx_some hy7
  obtain ⟨v8, hv8, hM⟩ := bind_some' hM
  refine tr_sr hT hm [(7, .val (iv y1)), (15, .val (iv y2)), (17, .val (iv y3)), (18, .call [] [] [.pt (eXCategory.b a0.Target) 0, iv y1, iv y3] [] (iv v4)), (27, .val (iv y5)), (29, .val (iv y6)), (36, .val (iv y7)), (37, .call [] [] [.pt (eXCategory.b a0.Target) 0, iv y6, iv y7] [] (iv v8))] [16] [(16, .d (bv (v4 == v8)))] (.cons hy1'.1 (.cons hy1'.2.1 (.cons (at_b0 eI_ok hy1'.2.2 (d := iv y1) (by kernel_rfl)) (.cons hy2'.1 (.cons hy2'.2.1 (.cons (at_b0 eI_ok hy2'.2.2 (d := iv y2) (by kernel_rfl)) (.cons hy3'.1 (.cons hy3'.2.1 (.cons (at_b0 eI_ok hy3'.2.2 (d := iv y3) (by kernel_rfl)) (cc (B := []) (ρ := []) (rB := []) ok130 (impl_Category_then_c a0.Target y1 y3 _ hv4) (.cons (.pass (.ptk (ds := eXFunctor.b a0) (ds' := eXCategory.b a0.Target) (off := 5) (n := 5) (by kernel_rfl) (by kernel_rfl) (by kernel_rfl))) (.cons (.same rfl) (.cons (.same rfl) .nil))) (.inl rfl) (.cons hy5'.1 (.cons hy5'.2.1 (.cons (at_b0 eI_ok hy5'.2.2 (d := iv y5) (by kernel_rfl)) (.cons hy6'.1 (.cons hy6'.2.1 (.cons (at_b0 eI_ok hy6'.2.2 (d := iv y6) (by kernel_rfl)) (.cons hy7'.1 (.cons hy7'.2.1 (.cons (at_b0 eI_ok hy7'.2.2 (d := iv y7) (by kernel_rfl)) (cc (B := []) (ρ := []) (rB := []) ok130 (impl_Category_then_c a0.Target y6 y7 _ hv8) (.cons (.pass (.ptk (ds := eXFunctor.b a0) (ds' := eXCategory.b a0.Target) (off := 5) (n := 5) (by kernel_rfl) (by kernel_rfl) (by kernel_rfl))) (.cons (.same rfl) (.cons (.same rfl) .nil))) (.inl rfl) .nil)))))))))))))))))))) (by kernel_rfl) (by kernel_rfl) ?_
  refine tr_ret (rg_r ?_)
  obtain rfl := Option.some.inj hM
  exact retg (names := []) .nil (by kernel_rfl)

theorem ok112 : CallOk Try.prog 112 := callOk_of Try.func112 (by kernel_rfl) (by kernel_rfl)
theorem impl_Transformation_isNatural_c (a0 : XTransformation) (r : Bool) (hM : M.impl_Transformation_isNatural a0 = some r) :
    FnC Try.prog 112 [] [.pt (eXTransformation.b a0) 0] [] (bv r) := by
  refine fnc_startG (N := 10) (np := 500) hT Try.func112 rfl rfl (by kernel_rfl) ?_
  unfold M.impl_Transformation_isNatural at hM
  refine tr_start (ks := [0]) (st' := [(0, .d (.pt (eXTransformation.b a0) 0))]) (by kernel_rfl) ?_
  refine tr_sr hT hm [] [0] [(0, .d (.pt (eXTransformation.b a0) 0))] .nil (by kernel_rfl) (by kernel_rfl) ?_
  obtain ⟨v1, hv1, hM⟩ := bind_some' hM
  rcases Bool.eq_false_or_eq_true v1 with h2 | h2
  · have hM := ite_true' hM h2
    obtain ⟨v3, hv3, hM⟩ := bind_some' hM
    refine tr_sr hT hm [(1, .call [] [] [.pt (eXTransformation.b a0) 0] [] (bv v1)), (2, .val (bv true)), (4, .call [] [] [.pt (eXTransformation.b a0) 0, .fb 156 []] [] (iv v3))] [4] [(4, .d (bv (decide (v3 < 0))))] (cc0 ok154 (impl_Transformation_isShape_c a0 _ hv1) (by kernel_rfl) (.cons (congrArg (fun b => bv b) h2) (cc (B := []) (ρ := []) (rB := []) ok155 (impl_firstFailure_c a0 156 ([] : List D) (fun (x0 : XFunctor) (x1 : XFunctor) (x2 : List Int) (x3 : Int) => M.impl_commutes x0 x1 x2 x3) ok156 (by kernel_rfl) (fun x0 x1 x2 x3 r h => impl_commutes_c x0 x1 x2 x3  r h) _ hv3) (.cons (.same rfl) (.cons (.fn .nil) .nil)) (.inl rfl) .nil))) (by kernel_rfl) (by kernel_rfl) ?_
    refine tr_ret (rg_r ?_)
    obtain rfl := Option.some.inj hM
    exact retg (names := []) .nil (by kernel_rfl)
  · have hM := ite_false' hM h2
    refine tr_sr hT hm [(1, .call [] [] [.pt (eXTransformation.b a0) 0] [] (bv v1)), (2, .val (bv false))] [4] [(4, .d (bv false))] (cc0 ok154 (impl_Transformation_isShape_c a0 _ hv1) (by kernel_rfl) (.cons (congrArg (fun b => bv b) h2) .nil)) (by kernel_rfl) (by kernel_rfl) ?_
    refine tr_ret (rg_r ?_)
    obtain rfl := Option.some.inj hM
    exact retg (names := []) .nil (by kernel_rfl)

theorem ok57 : CallOk Try.prog 57 := callOk_of Try.func57 (by kernel_rfl) (by kernel_rfl)
theorem laws_eqTransformation_c (a0 : XTransformation) (a1 : XTransformation) (r : Bool) (hM : M.laws_eqTransformation a0 a1 = some r) :
    FnC Try.prog 57 [] [.agg (eXTransformation.b a0), .agg (eXTransformation.b a1)] [] (bv r) := by
  refine fnc_startG (N := 23) (np := 500) hT Try.func57 rfl rfl (by kernel_rfl) ?_
  unfold M.laws_eqTransformation at hM
  refine tr_start (ks := [0, 2]) (st' := [(0, .d (.agg (eXTransformation.b a0))), (2, .d (.agg (eXTransformation.b a1)))]) (by kernel_rfl) ?_
  refine tr_sr hT hm [] [4, 6, 2005, 2007] [(4, .d (.rp 1002 0)), (6, .d (.rp 1003 0)), bxB 2005 (eXTransformation.b a0), bxB 2007 (eXTransformation.b a1)] .nil (by kernel_rfl) (by kernel_rfl) ?_
  refine tr_seq ?_
  obtain ⟨v1, hv1, hM⟩ := bind_some' hM
  refine tr_sr hT hm [(4, .call [] [] [.agg (eXFunctor.b a0.Source), .agg (eXFunctor.b a1.Source)] [] (bv v1))] [4, 6, 20, 2005, 2007] [(4, .d (.rp 1002 0)), (6, .d (.rp 1003 0)), (20, .d (bv (!v1))), bxB 2005 (eXTransformation.b a0), bxB 2007 (eXTransformation.b a1)] (cc0 ok19 (laws_eqFunctor_c a0.Source a1.Source _ hv1) (by kernel_rfl) .nil) (by kernel_rfl) (by kernel_rfl) ?_
  rcases Bool.eq_false_or_eq_true v1 with h2 | h2
  · have hM := ite_true' hM h2
    refine tr_condFe (e := !v1) (congrArg not h2) (by kernel_rfl) ?_
    refine tr_skip (q_n ?_)
    refine tr_seq ?_
    obtain ⟨v3, hv3, hM⟩ := bind_some' hM
    refine tr_sr hT hm [(4, .call [] [] [.agg (eXFunctor.b a0.Target), .agg (eXFunctor.b a1.Target)] [] (bv v3))] [4, 6, 32, 2005, 2007] [(4, .d (.rp 1002 0)), (6, .d (.rp 1003 0)), (32, .d (bv (!v3))), bxB 2005 (eXTransformation.b a0), bxB 2007 (eXTransformation.b a1)] (cc0 ok19 (laws_eqFunctor_c a0.Target a1.Target _ hv3) (by kernel_rfl) .nil) (by kernel_rfl) (by kernel_rfl) ?_
    rcases Bool.eq_false_or_eq_true v3 with h4 | h4
    · have hM := ite_true' hM h4
      refine tr_condFe (e := !v3) (congrArg not h4) (by kernel_rfl) ?_
      refine tr_skip (q_n ?_)
      refine tr_seq ?_
      obtain ⟨v5, hv5, hM⟩ := bind_some' hM
      refine tr_sr hT hm [(4, .call [] [] [.sl a0.Components.length 0 (a0.Components.flatMap eI.b), .sl a1.Components.length 0 (a1.Components.flatMap eI.b)] [] (bv v5))] [44] [(44, .d (bv (!v5)))] (cc0 ok72 (laws_eqInt64S_c a0.Components a1.Components _ hv5) (by kernel_rfl) .nil) (by kernel_rfl) (by kernel_rfl) ?_
      rcases Bool.eq_false_or_eq_true v5 with h6 | h6
      · have hM := ite_true' hM h6
        refine tr_condFe (e := !v5) (congrArg not h6) (by kernel_rfl) ?_
        refine tr_skip (q_n ?_)
        refine tr_sr hT hm [] [8] [(8, .d (bv true))] .nil (by kernel_rfl) (by kernel_rfl) ?_
        refine tr_ret (rg_r ?_)
        obtain rfl := Option.some.inj hM
        exact retg (names := []) .nil (by kernel_rfl)
      · have hM := ite_false' hM h6
        refine tr_condTe (e := !v5) (congrArg not h6) (by kernel_rfl) ?_
        refine tr_sr hT hm [] [8] [(8, .d (bv false))] .nil (by kernel_rfl) (by kernel_rfl) ?_
        refine tr_ret (q_r (rg_r ?_))
        obtain rfl := Option.some.inj hM
        exact retg (names := []) .nil (by kernel_rfl)
    · have hM := ite_false' hM h4
      refine tr_condTe (e := !v3) (congrArg not h4) (by kernel_rfl) ?_
      refine tr_sr hT hm [] [8] [(8, .d (bv false))] .nil (by kernel_rfl) (by kernel_rfl) ?_
      refine tr_ret (q_r (rg_r ?_))
      obtain rfl := Option.some.inj hM
      exact retg (names := []) .nil (by kernel_rfl)
  · have hM := ite_false' hM h2
    refine tr_condTe (e := !v1) (congrArg not h2) (by kernel_rfl) ?_
    refine tr_sr hT hm [] [8] [(8, .d (bv false))] .nil (by kernel_rfl) (by kernel_rfl) ?_
    refine tr_ret (q_r (rg_r ?_))
    obtain rfl := Option.some.inj hM
    exact retg (names := []) .nil (by kernel_rfl)

end Go.Proofs.Ytaijkiepcaobiaa.WvT
