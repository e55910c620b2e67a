/- Walks. Printed by wip/gen. -/
import Derived.Test.YtfihadfjmbfpgaaGxEM0
import Derived.Test.YtfihadfjmbfpgaaGxEO0
import Derived.Test.YtfihadfjmbfpgaaGxwNW
import Derived.Test.YtfihadfjmbfpgaaGxwUW
import Derived.Test.YtfihadfjmbfpgaaGxvHW
import Derived.Test.YtfihadfjmbfpgaaGxvIW
import Derived.KernelRfl
namespace Go.Proofs.Ytfihadfjmbfpgaa.WwM
open Go.Gx Go.Proofs.Ytfihadfjmbfpgaa.WvB Go.Proofs.Ytfihadfjmbfpgaa.WwN Go.Proofs.Ytfihadfjmbfpgaa.WvS Go.Proofs.Ytfihadfjmbfpgaa.WvF Go.Proofs.Ytfihadfjmbfpgaa.WwT Go.Proofs.Ytfihadfjmbfpgaa.WwU Go.Proofs.Ytfihadfjmbfpgaa.WvH Go.Proofs.Ytfihadfjmbfpgaa.WvI

theorem eXCategory_r : EncR eXCategory := (eA_r (eC_r eI_r _) (eA_r (eC_r (eS_r eI_ok) _) (eA_r (eC_r (eS_r eI_ok) _) (eA_r (eC_r (eS_r eI_ok) _) (eC_r (eS_r (eS_ok eI_ok)) _)))))
theorem eXFunctor_r : EncR eXFunctor := (eA_r (eC_r eXCategory_r _) (eA_r (eC_r eXCategory_r _) (eA_r (eC_r (eS_r eI_ok) _) (eC_r (eS_r eI_ok) _))))
theorem eXMonad_r : EncR eXMonad := (eA_r (eC_r eXFunctor_r _) (eA_r (eC_r (eS_r eI_ok) _) (eC_r (eS_r eI_ok) _)))
def T : Tab := [(2, ⟨.int .i64, 1, 8, [.int .i64 0]⟩),
  (3, ⟨.int .i64, 1, 8, [.int .i64 0]⟩),
  (22, ⟨.slice 2, 1, 24, [.slice .none 0 0]⟩),
  (23, ⟨.slice 22, 1, 24, [.slice .none 0 0]⟩),
  (25, ⟨.struct #[⟨"Objects", 2, 0, false, "", "", 0⟩, ⟨"From", 22, 1, false, "", "", 8⟩, ⟨"To", 22, 2, false, "", "", 32⟩, ⟨"Identity", 22, 3, false, "", "", 56⟩, ⟨"Composites", 23, 4, false, "", "", 80⟩], 5, 104, [.int .i64 0, .slice .none 0 0, .slice .none 0 0, .slice .none 0 0, .slice .none 0 0]⟩),
  (27, ⟨.struct #[⟨"Source", 25, 0, false, "", "", 0⟩, ⟨"Target", 25, 5, false, "", "", 104⟩, ⟨"Objects", 22, 10, false, "", "", 208⟩, ⟨"Arrows", 22, 11, false, "", "", 232⟩], 12, 256, [.int .i64 0, .slice .none 0 0, .slice .none 0 0, .slice .none 0 0, .slice .none 0 0, .int .i64 0, .slice .none 0 0, .slice .none 0 0, .slice .none 0 0, .slice .none 0 0, .slice .none 0 0, .slice .none 0 0]⟩),
  (29, ⟨.struct #[⟨"On", 27, 0, false, "", "", 0⟩, ⟨"Unit", 22, 12, false, "", "", 256⟩, ⟨"Join", 22, 13, false, "", "", 280⟩], 14, 304, [.int .i64 0, .slice .none 0 0, .slice .none 0 0, .slice .none 0 0, .slice .none 0 0, .int .i64 0, .slice .none 0 0, .slice .none 0 0, .slice .none 0 0, .slice .none 0 0, .slice .none 0 0, .slice .none 0 0, .slice .none 0 0, .slice .none 0 0]⟩),
  (33, ⟨.struct #[⟨"Objects", 2, 0, false, "", "", 0⟩, ⟨"From", 22, 1, false, "", "", 8⟩, ⟨"To", 22, 2, false, "", "", 32⟩, ⟨"Identity", 22, 3, false, "", "", 56⟩, ⟨"Composites", 23, 4, false, "", "", 80⟩], 5, 104, [.int .i64 0, .slice .none 0 0, .slice .none 0 0, .slice .none 0 0, .slice .none 0 0]⟩),
  (35, ⟨.struct #[⟨"Source", 33, 0, false, "", "", 0⟩, ⟨"Target", 33, 5, false, "", "", 104⟩, ⟨"Objects", 22, 10, false, "", "", 208⟩, ⟨"Arrows", 22, 11, false, "", "", 232⟩], 12, 256, [.int .i64 0, .slice .none 0 0, .slice .none 0 0, .slice .none 0 0, .slice .none 0 0, .int .i64 0, .slice .none 0 0, .slice .none 0 0, .slice .none 0 0, .slice .none 0 0, .slice .none 0 0, .slice .none 0 0]⟩),
  (37, ⟨.struct #[⟨"On", 35, 0, false, "", "", 0⟩, ⟨"Unit", 22, 12, false, "", "", 256⟩, ⟨"Join", 22, 13, false, "", "", 280⟩], 14, 304, [.int .i64 0, .slice .none 0 0, .slice .none 0 0, .slice .none 0 0, .slice .none 0 0, .int .i64 0, .slice .none 0 0, .slice .none 0 0, .slice .none 0 0, .slice .none 0 0, .slice .none 0 0, .slice .none 0 0, .slice .none 0 0, .slice .none 0 0]⟩),
  (87, ⟨.struct #[⟨"Source", 35, 0, false, "", "", 0⟩, ⟨"Target", 35, 12, false, "", "", 256⟩, ⟨"Components", 22, 24, false, "", "", 512⟩], 25, 536, [.int .i64 0, .slice .none 0 0, .slice .none 0 0, .slice .none 0 0, .slice .none 0 0, .int .i64 0, .slice .none 0 0, .slice .none 0 0, .slice .none 0 0, .slice .none 0 0, .slice .none 0 0, .slice .none 0 0, .int .i64 0, .slice .none 0 0, .slice .none 0 0, .slice .none 0 0, .slice .none 0 0, .int .i64 0, .slice .none 0 0, .slice .none 0 0, .slice .none 0 0, .slice .none 0 0, .slice .none 0 0, .slice .none 0 0, .slice .none 0 0]⟩),
  (89, ⟨.pointer 87, 1, 8, [.pointer .none]⟩),
  (117, ⟨.slice 89, 1, 24, [.slice .none 0 0]⟩)]
theorem hT : TabOk Try.prog T := ⟨tiok (by kernel_rfl) (by kernel_rfl), tiok (by kernel_rfl) (by kernel_rfl), tiok (by kernel_rfl) (by kernel_rfl), tiok (by kernel_rfl) (by kernel_rfl), tiok (by kernel_rfl) (by kernel_rfl), tiok (by kernel_rfl) (by kernel_rfl), tiok (by kernel_rfl) (by kernel_rfl), tiok (by kernel_rfl) (by kernel_rfl), tiok (by kernel_rfl) (by kernel_rfl), tiok (by kernel_rfl) (by kernel_rfl), tiok (by kernel_rfl) (by kernel_rfl), tiok (by kernel_rfl) (by kernel_rfl), tiok (by kernel_rfl) (by kernel_rfl), trivial⟩
theorem hm : Try.prog.follows .mixedOrders = true := by kernel_rfl

theorem ok5 : CallOk Try.prog 5 := callOk_of Try.func5 (by kernel_rfl) (by kernel_rfl)
theorem laws_szMonad_c (a0 : XMonad) (a1 : Int) (r : Int) (hM : M.laws_szMonad a0 a1 = some r) :
    FnC Try.prog 5 [] [.agg (eXMonad.b a0), iv a1] [] (iv r) := by
  refine fnc_startG (N := 24) (np := 500) hT Try.func5 rfl rfl (by kernel_rfl) ?_
  unfold M.laws_szMonad at hM
  refine tr_start (ks := [0, 2]) (st' := [(0, .d (.agg (eXMonad.b a0))), (2, .d (iv a1))]) (by kernel_rfl) ?_
  refine tr_sr hT hm [] [2, 4, 2005] [(2, .d (iv a1)), (4, .d (.rp 1002 0)), bxB 2005 (eXMonad.b a0)] .nil (by kernel_rfl) (by kernel_rfl) ?_
  obtain ⟨v1, hv1, hM⟩ := bind_some' hM
  refine tr_sr hT hm [(3, .call [] [] [.agg (eXFunctor.b a0.On), iv a1] [] (iv v1))] [2, 4, 2005] [(2, .d (iv v1)), (4, .d (.rp 1002 0)), bxB 2005 (eXMonad.b a0)] (cc0 ok17 (laws_szFunctor_c a0.On a1 _ hv1) (by kernel_rfl) .nil) (by kernel_rfl) (by kernel_rfl) ?_
  refine tr_seq ?_
  refine tr_sr hT hm [] [2, 4, 20, 2005] [(2, .d (iv v1)), (4, .d (.rp 1002 0)), (20, .d (bv (decide (v1 < 0)))), bxB 2005 (eXMonad.b a0)] .nil (by kernel_rfl) (by kernel_rfl) ?_
  rcases Bool.eq_false_or_eq_true (decide (v1 < 0)) with h2 | h2
  · have hM := ite_true' hM h2
    refine tr_condTe (e := decide (v1 < 0)) h2 (by kernel_rfl) ?_
    refine tr_sr hT hm [] [8] [(8, .d (iv (-1)))] .nil (by kernel_rfl) (by kernel_rfl) ?_
    refine tr_ret (q_r (rg_r ?_))
    obtain rfl := Option.some.inj hM
    exact retg (names := []) .nil (by kernel_rfl)
  · have hM := ite_false' hM h2
    refine tr_condFe (e := decide (v1 < 0)) h2 (by kernel_rfl) ?_
    refine tr_skip (q_n ?_)
    obtain ⟨v3, hv3, hM⟩ := bind_some' hM
    refine tr_sr hT hm [(3, .call [] [] [.sl a0.Unit.length 0 (a0.Unit.flatMap eI.b), iv v1] [] (iv v3))] [2, 4, 2005] [(2, .d (iv v3)), (4, .d (.rp 1002 0)), bxB 2005 (eXMonad.b a0)] (cc0 ok18 (laws_szInt64S_c a0.Unit v1 _ hv3) (by kernel_rfl) .nil) (by kernel_rfl) (by kernel_rfl) ?_
    refine tr_seq ?_
    refine tr_sr hT hm [] [2, 4, 32, 2005] [(2, .d (iv v3)), (4, .d (.rp 1002 0)), (32, .d (bv (decide (v3 < 0)))), bxB 2005 (eXMonad.b a0)] .nil (by kernel_rfl) (by kernel_rfl) ?_
    rcases Bool.eq_false_or_eq_true (decide (v3 < 0)) with h4 | h4
    · have hM := ite_true' hM h4
      refine tr_condTe (e := decide (v3 < 0)) h4 (by kernel_rfl) ?_
      refine tr_sr hT hm [] [8] [(8, .d (iv (-1)))] .nil (by kernel_rfl) (by kernel_rfl) ?_
      refine tr_ret (q_r (rg_r ?_))
      obtain rfl := Option.some.inj hM
      exact retg (names := []) .nil (by kernel_rfl)
    · have hM := ite_false' hM h4
      refine tr_condFe (e := decide (v3 < 0)) h4 (by kernel_rfl) ?_
      refine tr_skip (q_n ?_)
      obtain ⟨v5, hv5, hM⟩ := bind_some' hM
      refine tr_sr hT hm [(3, .call [] [] [.sl a0.Join.length 0 (a0.Join.flatMap eI.b), iv v3] [] (iv v5))] [2] [(2, .d (iv v5))] (cc0 ok18 (laws_szInt64S_c a0.Join v3 _ hv5) (by kernel_rfl) .nil) (by kernel_rfl) (by kernel_rfl) ?_
      refine tr_seq ?_
      refine tr_sr hT hm [] [2, 44] [(2, .d (iv v5)), (44, .d (bv (decide (v5 < 0))))] .nil (by kernel_rfl) (by kernel_rfl) ?_
      rcases Bool.eq_false_or_eq_true (decide (v5 < 0)) with h6 | h6
      · have hM := ite_true' hM h6
        refine tr_condTe (e := decide (v5 < 0)) h6 (by kernel_rfl) ?_
        refine tr_sr hT hm [] [8] [(8, .d (iv (-1)))] .nil (by kernel_rfl) (by kernel_rfl) ?_
        refine tr_ret (q_r (rg_r ?_))
        obtain rfl := Option.some.inj hM
        exact retg (names := []) .nil (by kernel_rfl)
      · have hM := ite_false' hM h6
        refine tr_condFe (e := decide (v5 < 0)) h6 (by kernel_rfl) ?_
        refine tr_skip (q_n ?_)
        refine tr_sr hT hm [] [8] [(8, .d (iv v5))] .nil (by kernel_rfl) (by kernel_rfl) ?_
        refine tr_ret (rg_r ?_)
        obtain rfl := Option.some.inj hM
        exact retg (names := []) .nil (by kernel_rfl)

theorem ok7 : CallOk Try.prog 7 := callOk_of Try.func7 (by kernel_rfl) (by kernel_rfl)
theorem laws_toMonad_c (a0 : XMonad) (r : XMonad) (hM : M.laws_toMonad a0 = some r) :
    FnC Try.prog 7 [] [.agg (eXMonad.b a0)] [] (.agg (eXMonad.o r)) := by
  refine fnc_startG (N := 17) (np := 500) hT Try.func7 rfl rfl (by kernel_rfl) ?_
  unfold M.laws_toMonad at hM
  refine tr_start (ks := [0]) (st' := [(0, .d (.agg (eXMonad.b a0)))]) (by kernel_rfl) ?_
  refine tr_sr hT hm [] [2, 4, 2003, 2005] [(2, .d (.rp 1001 0)), (4, .d (.rp 1002 0)), bxB 2003 (eXMonad.b a0), (2005, .r (.arr 1 [iv 0, nilv, nilv, nilv, nilv, iv 0, nilv, nilv, nilv, nilv, nilv, nilv, nilv, nilv] []))] .nil (by kernel_rfl) (by kernel_rfl) ?_
  refine tr_sr hT hm [] [2, 4, 6, 2003, 2005, 2007] [(2, .d (.rp 1001 0)), (4, .d (.rp 1002 0)), (6, .d (.rp 1003 0)), bxB 2003 (eXMonad.b a0), (2005, .r (.arr 1 [iv 0, nilv, nilv, nilv, nilv, iv 0, nilv, nilv, nilv, nilv, nilv, nilv, nilv, nilv] [])), (2007, .r (.arr 1 [iv 0, nilv, nilv, nilv, nilv, iv 0, nilv, nilv, nilv, nilv, nilv, nilv, nilv, nilv] []))] .nil (by kernel_rfl) (by kernel_rfl) ?_
  obtain ⟨v1, hv1, hM⟩ := bind_some' hM
  refine tr_sr hT hm [(2, .call [] [] [.agg (eXFunctor.b a0.On)] [] (.agg (eXFunctor.o v1)))] [2, 4, 6, 2003, 2005, 2007, 16003, 16005, 16007, 16009, 16013, 16015, 16017, 16019, 16021, 16023] ([(2, .d (.rp 1001 0)), (4, .d (.rp 1002 0)), (6, .d (.rp 1003 0)), bxB 2003 (eXMonad.b a0), (2005, .r (.arr 1 [iv 0, nilv, nilv, nilv, nilv, iv 0, nilv, nilv, nilv, nilv, nilv, nilv, nilv, nilv] [])), (2007, .r (.arr 1 [iv v1.Source.Objects, .rs 8001 0 v1.Source.From.length, .rs 8002 0 v1.Source.To.length, .rs 8003 0 v1.Source.Identity.length, .rs 8004 0 v1.Source.Composites.length, iv v1.Target.Objects, .rs 8006 0 v1.Target.From.length, .rs 8007 0 v1.Target.To.length, .rs 8008 0 v1.Target.Identity.length, .rs 8009 0 v1.Target.Composites.length, .rs 8010 0 v1.Objects.length, .rs 8011 0 v1.Arrows.length, nilv, nilv] [8001, 8002, 8003, 8004, 8006, 8007, 8008, 8009, 8010, 8011]))] ++ rsS 8000 (eXFunctor.o v1)) (cc0 ok23 (laws_toFunctor_c a0.On _ hv1) (by kernel_rfl) (.cons (Nat.le_of_ble_eq_true (n := 12) (m := 14) rfl) .nil)) (by kernel_rfl) (by kernel_rfl) ?_
  obtain ⟨v2, hv2, hM⟩ := bind_some' hM
  refine tr_sr hT hm [(2, .call [] [] [.sl a0.Unit.length 0 (a0.Unit.flatMap eI.b)] [] (.fr 1 v2.length (v2.flatMap eI.o)))] [2, 4, 6, 2003, 2005, 2007, 16003, 16005, 16007, 16009, 16013, 16015, 16017, 16019, 16021, 16023, 24001] ([(2, .d (.rp 1001 0)), (4, .d (.rp 1002 0)), (6, .d (.rp 1003 0)), bxB 2003 (eXMonad.b a0), (2005, .r (.arr 1 [iv 0, nilv, nilv, nilv, nilv, iv 0, nilv, nilv, nilv, nilv, nilv, nilv, nilv, nilv] [])), (2007, .r (.arr 1 [iv v1.Source.Objects, .rs 8001 0 v1.Source.From.length, .rs 8002 0 v1.Source.To.length, .rs 8003 0 v1.Source.Identity.length, .rs 8004 0 v1.Source.Composites.length, iv v1.Target.Objects, .rs 8006 0 v1.Target.From.length, .rs 8007 0 v1.Target.To.length, .rs 8008 0 v1.Target.Identity.length, .rs 8009 0 v1.Target.Composites.length, .rs 8010 0 v1.Objects.length, .rs 8011 0 v1.Arrows.length, .rs 12000 0 v2.length, nilv] [8001, 8002, 8003, 8004, 8006, 8007, 8008, 8009, 8010, 8011, 12000]))] ++ rsS 8000 (eXFunctor.o v1) ++ [(24001, .r (.arr 1 (v2.flatMap eI.o) []))]) (cc0 ok24 (laws_toInt64S_c a0.Unit _ hv2) (by kernel_rfl) (.cons (Nat.le_of_ble_eq_true (n := 13) (m := 14) rfl) .nil)) (by kernel_rfl) (by kernel_rfl) ?_
  obtain ⟨v3, hv3, hM⟩ := bind_some' hM
  refine tr_sr hT hm [(2, .call [] [] [.sl a0.Join.length 0 (a0.Join.flatMap eI.b)] [] (.fr 1 v3.length (v3.flatMap eI.o)))] [4, 6, 2005, 2007, 16003, 16005, 16007, 16009, 16013, 16015, 16017, 16019, 16021, 16023, 24001, 32001] ([(4, .d (.rp 1002 0)), (6, .d (.rp 1003 0)), (2005, .r (.arr 1 [iv 0, nilv, nilv, nilv, nilv, iv 0, nilv, nilv, nilv, nilv, nilv, nilv, nilv, nilv] [])), (2007, .r (.arr 1 [iv v1.Source.Objects, .rs 8001 0 v1.Source.From.length, .rs 8002 0 v1.Source.To.length, .rs 8003 0 v1.Source.Identity.length, .rs 8004 0 v1.Source.Composites.length, iv v1.Target.Objects, .rs 8006 0 v1.Target.From.length, .rs 8007 0 v1.Target.To.length, .rs 8008 0 v1.Target.Identity.length, .rs 8009 0 v1.Target.Composites.length, .rs 8010 0 v1.Objects.length, .rs 8011 0 v1.Arrows.length, .rs 12000 0 v2.length, .rs 16000 0 v3.length] [8001, 8002, 8003, 8004, 8006, 8007, 8008, 8009, 8010, 8011, 12000, 16000]))] ++ rsS 8000 (eXFunctor.o v1) ++ [(24001, .r (.arr 1 (v2.flatMap eI.o) [])), (32001, .r (.arr 1 (v3.flatMap eI.o) []))]) (cc0 ok24 (laws_toInt64S_c a0.Join _ hv3) (by kernel_rfl) (.cons (Nat.le_of_ble_eq_true (n := 14) (m := 14) rfl) .nil)) (by kernel_rfl) (by kernel_rfl) ?_
  refine tr_sr hT hm [] [4, 2005, 16003, 16005, 16007, 16009, 16013, 16015, 16017, 16019, 16021, 16023, 24001, 32001] ([(4, .d (.rp 1002 0)), (2005, .r (.arr 1 [iv v1.Source.Objects, .rs 8001 0 v1.Source.From.length, .rs 8002 0 v1.Source.To.length, .rs 8003 0 v1.Source.Identity.length, .rs 8004 0 v1.Source.Composites.length, iv v1.Target.Objects, .rs 8006 0 v1.Target.From.length, .rs 8007 0 v1.Target.To.length, .rs 8008 0 v1.Target.Identity.length, .rs 8009 0 v1.Target.Composites.length, .rs 8010 0 v1.Objects.length, .rs 8011 0 v1.Arrows.length, .rs 12000 0 v2.length, .rs 16000 0 v3.length] [8001, 8002, 8003, 8004, 8006, 8007, 8008, 8009, 8010, 8011, 12000, 16000]))] ++ rsS 8000 (eXFunctor.o v1) ++ [(24001, .r (.arr 1 (v2.flatMap eI.o) [])), (32001, .r (.arr 1 (v3.flatMap eI.o) []))]) (.cons (Nat.le_of_ble_eq_true (n := 14) (m := 14) rfl) .nil) (by kernel_rfl) (by kernel_rfl) ?_
  refine tr_ret (rg_r ?_)
  obtain rfl := Option.some.inj hM
  exact retg (names := []) (.cons (lenO_flat eI_ok v1.Source.From) (.cons (lenO_flat eI_ok v1.Source.To) (.cons (lenO_flat eI_ok v1.Source.Identity) (.cons (lenO_flat (eS_ok eI_ok) v1.Source.Composites) (.cons (lenO_flat eI_ok v1.Target.From) (.cons (lenO_flat eI_ok v1.Target.To) (.cons (lenO_flat eI_ok v1.Target.Identity) (.cons (lenO_flat (eS_ok eI_ok) v1.Target.Composites) (.cons (lenO_flat eI_ok v1.Objects) (.cons (lenO_flat eI_ok v1.Arrows) (.cons (lenO_flat eI_ok v2) (.cons (lenO_flat eI_ok v3) .nil)))))))))))) (by kernel_rfl)

theorem ok49 : CallOk Try.prog 49 := callOk_of Try.func49 (by kernel_rfl) (by kernel_rfl)
theorem spec_l16Twice_c (a0 : XFunctor) (r : XFunctor) (hM : M.spec_l16Twice a0 = some r) :
    FnC Try.prog 49 [] [.agg (eXFunctor.b a0)] [] (.agg (eXFunctor.o r)) := by
  refine fnc_startG (N := 6) (np := 500) hT Try.func49 rfl rfl (by kernel_rfl) ?_
  unfold M.spec_l16Twice at hM
  refine tr_start (ks := [0]) (st' := [(0, .d (.agg (eXFunctor.b a0)))]) (by kernel_rfl) ?_
  refine tr_sr hT hm [] [2, 4, 2003, 2005] [(2, .d (.rp 1001 0)), (4, .d (.rp 1002 0)), bxB 2003 (eXFunctor.b a0), (2005, .r (.arr 1 [iv 0, nilv, nilv, nilv, nilv, iv 0, nilv, nilv, nilv, nilv, nilv, nilv] []))] .nil (by kernel_rfl) (by kernel_rfl) ?_
  obtain ⟨v1, hv1, hM⟩ := bind_some' hM
  refine tr_sr hT hm [(2, .call [] [] [.agg (eXFunctor.b a0), .agg (eXFunctor.b a0)] [] (.agg (eXFunctor.o v1)))] [4, 2005, 14003, 14005, 14007, 14009, 14013, 14015, 14017, 14019, 14021, 14023] ([(4, .d (.rp 1002 0)), bxO 2005 7000 (eXFunctor.o v1)] ++ rsS 7000 (eXFunctor.o v1)) (cc0 ok83 (spec_l06Then_c a0 a0 _ hv1) (by kernel_rfl) (.cons (Nat.le_of_ble_eq_true (n := 12) (m := 12) rfl) .nil)) (by kernel_rfl) (by kernel_rfl) ?_
  refine tr_ret (rg_r ?_)
  obtain rfl := Option.some.inj hM
  exact retg (names := []) (.cons (lenO_flat eI_ok v1.Source.From) (.cons (lenO_flat eI_ok v1.Source.To) (.cons (lenO_flat eI_ok v1.Source.Identity) (.cons (lenO_flat (eS_ok eI_ok) v1.Source.Composites) (.cons (lenO_flat eI_ok v1.Target.From) (.cons (lenO_flat eI_ok v1.Target.To) (.cons (lenO_flat eI_ok v1.Target.Identity) (.cons (lenO_flat (eS_ok eI_ok) v1.Target.Composites) (.cons (lenO_flat eI_ok v1.Objects) (.cons (lenO_flat eI_ok v1.Arrows) .nil)))))))))) (by kernel_rfl)

theorem ok50 : CallOk Try.prog 50 := callOk_of Try.func50 (by kernel_rfl) (by kernel_rfl)
theorem spec_l16Laws_c (a0 : XFunctor) (a1 : List Int) (a2 : List Int) (r : Bool) (hM : M.spec_l16Laws a0 a1 a2 = some r) :
    FnC Try.prog 50 [] [.agg (eXFunctor.b a0), .sl a1.length 0 (a1.flatMap eI.b), .sl a2.length 0 (a2.flatMap eI.b)] [] (bv r) := by
  refine fnc_startG (N := 80) (np := 500) hT Try.func50 rfl rfl (by kernel_rfl) ?_
  unfold M.spec_l16Laws at hM
  refine tr_start (ks := [0, 2, 4]) (st' := [(0, .d (.agg (eXFunctor.b a0))), (2, .d (.sl a1.length 0 (a1.flatMap eI.b))), (4, .d (.sl a2.length 0 (a2.flatMap eI.b)))]) (by kernel_rfl) ?_
  refine tr_sr hT hm [] [2, 4, 6, 2007] [(2, .d (.sl a1.length 0 (a1.flatMap eI.b))), (4, .d (.sl a2.length 0 (a2.flatMap eI.b))), (6, .d (.rp 1003 0)), bxB 2007 (eXFunctor.b a0)] .nil (by kernel_rfl) (by kernel_rfl) ?_
  refine tr_sr hT hm [] [2, 4, 6, 14, 2007, 2015] [(2, .d (.sl a1.length 0 (a1.flatMap eI.b))), (4, .d (.sl a2.length 0 (a2.flatMap eI.b))), (6, .d (.rp 1003 0)), (14, .d (.rp 1007 0)), bxB 2007 (eXFunctor.b a0), bxB 2015 (eXCategory.b a0.Source)] (.cons (Nat.le_of_ble_eq_true (n := 5) (m := 5) rfl) .nil) (by kernel_rfl) (by kernel_rfl) ?_
  refine tr_seq ?_
  refine tr_sr hT hm [] [2, 4, 6, 14, 16, 2007, 2015] [(2, .d (.sl a1.length 0 (a1.flatMap eI.b))), (4, .d (.sl a2.length 0 (a2.flatMap eI.b))), (6, .d (.rp 1003 0)), (14, .d (.rp 1007 0)), (16, .d (iv 0)), bxB 2007 (eXFunctor.b a0), bxB 2015 (eXCategory.b a0.Source)] .nil (by kernel_rfl) (by kernel_rfl) ?_
  refine tr_block ?_
  refine tr_iterS (fun (s1 : Int) => [(2, .d (.sl a1.length 0 (a1.flatMap eI.b))), (4, .d (.sl a2.length 0 (a2.flatMap eI.b))), (6, .d (.rp 1003 0)), (14, .d (.rp 1007 0)), (16, .d (iv s1)), bxB 2007 (eXFunctor.b a0), bxB 2015 (eXCategory.b a0.Source)]) 0 [2, 4, 6, 14, 16, 2007, 2015] (by kernel_rfl) hM ?_
  intro n4 next2 ih3 s1 hM
  refine tr_seq ?_
  refine tr_sr hT hm [] [2, 4, 6, 14, 16, 30, 2007, 2015] [(2, .d (.sl a1.length 0 (a1.flatMap eI.b))), (4, .d (.sl a2.length 0 (a2.flatMap eI.b))), (6, .d (.rp 1003 0)), (14, .d (.rp 1007 0)), (16, .d (iv s1)), (30, .d (bv (decide (s1 < a0.Source.Objects)))), bxB 2007 (eXFunctor.b a0), bxB 2015 (eXCategory.b a0.Source)] .nil (by kernel_rfl) (by kernel_rfl) ?_
  rcases Bool.eq_false_or_eq_true (decide (s1 < a0.Source.Objects)) with h5 | h5
  · have hM := ite_true' hM h5
    refine tr_condTe (e := decide (s1 < a0.Source.Objects)) h5 (by kernel_rfl) ?_
    refine tr_skip (q_n ?_)
    refine tr_seq ?_
    refine tr_block ?_
    obtain ⟨y6, hy6, hM⟩ := bind_some' hM
    have hy6' := idx_some hy6
    refine tr_sr hT hm [(4, .val (iv y6))] [2, 4, 6, 14, 16, 18, 2007, 2015] [(2, .d (.sl a1.length 0 (a1.flatMap eI.b))), (4, .d (.sl a2.length 0 (a2.flatMap eI.b))), (6, .d (.rp 1003 0)), (14, .d (.rp 1007 0)), (16, .d (iv s1)), (18, .d (iv y6)), bxB 2007 (eXFunctor.b a0), bxB 2015 (eXCategory.b a0.Source)] (.cons hy6'.1 (.cons hy6'.2.1 (.cons (at_b0 eI_ok hy6'.2.2 (d := iv y6) (by kernel_rfl)) .nil))) (by kernel_rfl) (by kernel_rfl) ?_
    refine tr_seq ?_
    obtain ⟨y7, hy7, hM⟩ := bind_some' hM
    have hy7' := idx_some hy7
    obtain ⟨y8, hy8, hM⟩ := bind_some' hM
    have hy8' := idx_some hy8
    obtain ⟨y9, hy9, hM⟩ := bind_some' hM
    have hy9' := idx_some hy9
    obtain ⟨v10, hv10, hM⟩ := bind_some' hM
    obtain ⟨v11, hv11, hM⟩ := bind_some' hM
    rcases Bool.eq_false_or_eq_true v11 with h12 | h12
    · have hM := ite_true' hM h12
      obtain ⟨y13, hy13, hM⟩ := bind_some' hM
      have hy13' := idx_some hy13
      obtain ⟨v14, hv14, hM⟩ := bind_some' hM
      obtain ⟨v15, hv15, hM⟩ := bind_some' hM
      refine tr_sr hT hm [(7, .val (iv y7)), (9, .val (iv y8)), (13, .val (iv y9)), (14, .call [] [] [.agg (eXCategory.b a0.Source), iv y8, iv y9] [] (iv v10)), (15, .call [] [] [.agg (eXCategory.b a0.Source), iv v10] [] (bv v11)), (17, .val (bv false)), (23, .val (iv y13)), (27, .val (iv y9)), (28, .call [] [] [.agg (eXCategory.b a0.Source), iv y13, iv y9] [] (iv v14)), (29, .call [] [] [.agg (eXCategory.b a0.Source), iv v14] [] (bv v15))] [2, 4, 6, 14, 16, 18, 108, 2007, 2015] [(2, .d (.sl a1.length 0 (a1.flatMap eI.b))), (4, .d (.sl a2.length 0 (a2.flatMap eI.b))), (6, .d (.rp 1003 0)), (14, .d (.rp 1007 0)), (16, .d (iv s1)), (18, .d (iv y6)), (108, .d (bv (!v15))), bxB 2007 (eXFunctor.b a0), bxB 2015 (eXCategory.b a0.Source)] (.cons hy7'.1 (.cons hy7'.2.1 (.cons (at_b0 eI_ok hy7'.2.2 (d := iv y7) (by kernel_rfl)) (.cons hy8'.1 (.cons hy8'.2.1 (.cons (at_b0 eI_ok hy8'.2.2 (d := iv y8) (by kernel_rfl)) (.cons hy9'.1 (.cons hy9'.2.1 (.cons (at_b0 eI_ok hy9'.2.2 (d := iv y9) (by kernel_rfl)) (cc0 ok51 (spec_l02Then_c a0.Source y8 y9 _ hv10) (by kernel_rfl) (cc0 ok84 (spec_l02Unit_c a0.Source v10 _ hv11) (by kernel_rfl) (.cons (congrArg (fun b => bv b) (congrArg not h12)) (.cons hy13'.1 (.cons hy13'.2.1 (.cons (at_b0 eI_ok hy13'.2.2 (d := iv y13) (by kernel_rfl)) (.cons hy9'.1 (.cons hy9'.2.1 (.cons (at_b0 eI_ok hy9'.2.2 (d := iv y9) (by kernel_rfl)) (cc0 ok51 (spec_l02Then_c a0.Source y13 y9 _ hv14) (by kernel_rfl) (cc0 ok84 (spec_l02Unit_c a0.Source v14 _ hv15) (by kernel_rfl) .nil)))))))))))))))))))) (by kernel_rfl) (by kernel_rfl) ?_
      rcases Bool.eq_false_or_eq_true v15 with h16 | h16
      · have hM := ite_true' hM h16
        refine tr_condFe (e := !v15) (congrArg not h16) (by kernel_rfl) ?_
        refine tr_skip (q_n ?_)
        obtain ⟨y17, hy17, hM⟩ := bind_some' hM
        have hy17' := idx_some hy17
        obtain ⟨v18, hv18, hM⟩ := bind_some' hM
        obtain ⟨y19, hy19, hM⟩ := bind_some' hM
        have hy19' := idx_some hy19
        obtain ⟨v20, hv20, hM⟩ := bind_some' hM
        refine tr_sr hT hm [(6, .val (iv y9)), (8, .val (iv y17)), (12, .val (iv y9)), (13, .call [] [] [.agg (eXCategory.b a0.Source), iv y17, iv y9] [] (iv v18)), (18, .val (iv y19)), (22, .val (iv y9)), (23, .call [] [] [.agg (eXCategory.b a0.Source), iv y19, iv y9] [] (iv v20))] [2, 4, 6, 14, 16, 158, 2007, 2015] [(2, .d (.sl a1.length 0 (a1.flatMap eI.b))), (4, .d (.sl a2.length 0 (a2.flatMap eI.b))), (6, .d (.rp 1003 0)), (14, .d (.rp 1007 0)), (16, .d (iv s1)), (158, .d (bv (v18 != v20))), bxB 2007 (eXFunctor.b a0), bxB 2015 (eXCategory.b a0.Source)] (.cons hy9'.1 (.cons hy9'.2.1 (.cons (at_b0 eI_ok hy9'.2.2 (d := iv y9) (by kernel_rfl)) (.cons hy17'.1 (.cons hy17'.2.1 (.cons (at_b0 eI_ok hy17'.2.2 (d := iv y17) (by kernel_rfl)) (.cons hy9'.1 (.cons hy9'.2.1 (.cons (at_b0 eI_ok hy9'.2.2 (d := iv y9) (by kernel_rfl)) (cc0 ok51 (spec_l02Then_c a0.Source y17 y9 _ hv18) (by kernel_rfl) (.cons hy19'.1 (.cons hy19'.2.1 (.cons (at_b0 eI_ok hy19'.2.2 (d := iv y19) (by kernel_rfl)) (.cons hy9'.1 (.cons hy9'.2.1 (.cons (at_b0 eI_ok hy9'.2.2 (d := iv y9) (by kernel_rfl)) (cc0 ok51 (spec_l02Then_c a0.Source y19 y9 _ hv20) (by kernel_rfl) .nil))))))))))))))))) (by kernel_rfl) (by kernel_rfl) ?_
        rcases Bool.eq_false_or_eq_true (v18 != v20) with h21 | h21
        · have hM := ite_true' hM h21
          refine tr_condTe (e := v18 != v20) h21 (by kernel_rfl) ?_
          refine tr_sr hT hm [] [12] [(12, .d (bv false))] .nil (by kernel_rfl) (by kernel_rfl) ?_
          refine tr_ret (b_r (q_r (l_r (b_r (q_r (rg_r ?_))))))
          obtain rfl := Option.some.inj hM
          exact retg (names := []) .nil (by kernel_rfl)
        · have hM := ite_false' hM h21
          refine tr_condFe (e := v18 != v20) h21 (by kernel_rfl) ?_
          refine tr_skip (b_n (q_n ?_))
          refine tr_r hT hm [] [2, 4, 6, 14, 16, 2007, 2015] [(2, .d (.sl a1.length 0 (a1.flatMap eI.b))), (4, .d (.sl a2.length 0 (a2.flatMap eI.b))), (6, .d (.rp 1003 0)), (14, .d (.rp 1007 0)), (16, .d (iv (IntKind.i64.wrap (s1 + 1)))), bxB 2007 (eXFunctor.b a0), bxB 2015 (eXCategory.b a0.Source)] .nil (by kernel_rfl) (by kernel_rfl) (l_n ?_)
          exact trl_start (ks := [2, 4, 6, 14, 16, 2007, 2015]) (by kernel_rfl) (ih3 (IntKind.i64.wrap (s1 + 1)) hM)
      · have hM := ite_false' hM h16
        refine tr_condTe (e := !v15) (congrArg not h16) (by kernel_rfl) ?_
        refine tr_sr hT hm [] [12] [(12, .d (bv false))] .nil (by kernel_rfl) (by kernel_rfl) ?_
        refine tr_ret (q_r (b_r (q_r (l_r (b_r (q_r (rg_r ?_)))))))
        obtain rfl := Option.some.inj hM
        exact retg (names := []) .nil (by kernel_rfl)
    · have hM := ite_false' hM h12
      refine tr_sr hT hm [(7, .val (iv y7)), (9, .val (iv y8)), (13, .val (iv y9)), (14, .call [] [] [.agg (eXCategory.b a0.Source), iv y8, iv y9] [] (iv v10)), (15, .call [] [] [.agg (eXCategory.b a0.Source), iv v10] [] (bv v11)), (17, .val (bv true))] [2, 4, 6, 14, 16, 18, 108, 2007, 2015] [(2, .d (.sl a1.length 0 (a1.flatMap eI.b))), (4, .d (.sl a2.length 0 (a2.flatMap eI.b))), (6, .d (.rp 1003 0)), (14, .d (.rp 1007 0)), (16, .d (iv s1)), (18, .d (iv y6)), (108, .d (bv true)), bxB 2007 (eXFunctor.b a0), bxB 2015 (eXCategory.b a0.Source)] (.cons hy7'.1 (.cons hy7'.2.1 (.cons (at_b0 eI_ok hy7'.2.2 (d := iv y7) (by kernel_rfl)) (.cons hy8'.1 (.cons hy8'.2.1 (.cons (at_b0 eI_ok hy8'.2.2 (d := iv y8) (by kernel_rfl)) (.cons hy9'.1 (.cons hy9'.2.1 (.cons (at_b0 eI_ok hy9'.2.2 (d := iv y9) (by kernel_rfl)) (cc0 ok51 (spec_l02Then_c a0.Source y8 y9 _ hv10) (by kernel_rfl) (cc0 ok84 (spec_l02Unit_c a0.Source v10 _ hv11) (by kernel_rfl) (.cons (congrArg (fun b => bv b) (congrArg not h12)) .nil)))))))))))) (by kernel_rfl) (by kernel_rfl) ?_
      refine tr_condT (by kernel_rfl) ?_
      refine tr_sr hT hm [] [12] [(12, .d (bv false))] .nil (by kernel_rfl) (by kernel_rfl) ?_
      refine tr_ret (q_r (b_r (q_r (l_r (b_r (q_r (rg_r ?_)))))))
      obtain rfl := Option.some.inj hM
      exact retg (names := []) .nil (by kernel_rfl)
  · have hM := ite_false' hM h5
    refine tr_condFe (e := decide (s1 < a0.Source.Objects)) h5 (by kernel_rfl) ?_
    refine tr_exit (q_x (l_x (b_h (q_n ?_))))
    refine tr_sr hT hm [] [12] [(12, .d (bv true))] .nil (by kernel_rfl) (by kernel_rfl) ?_
    refine tr_ret (rg_r ?_)
    obtain rfl := Option.some.inj hM
    exact retg (names := []) .nil (by kernel_rfl)

theorem ok19 : CallOk Try.prog 19 := callOk_of Try.func19 (by kernel_rfl) (by kernel_rfl)
theorem spec_l16Is_c (a0 : XMonad) (r : Bool) (hM : M.spec_l16Is a0 = some r) :
    FnC Try.prog 19 [] [.agg (eXMonad.b a0)] [] (bv r) := by
  refine fnc_startG (N := 40) (np := 500) hT Try.func19 rfl rfl (by kernel_rfl) ?_
  unfold M.spec_l16Is at hM
  refine tr_start (ks := [0]) (st' := [(0, .d (.agg (eXMonad.b a0)))]) (by kernel_rfl) ?_
  refine tr_sr hT hm [] [2, 2003] [(2, .d (.rp 1001 0)), bxB 2003 (eXMonad.b a0)] .nil (by kernel_rfl) (by kernel_rfl) ?_
  refine tr_sr hT hm [] [2, 6, 2003, 2007] [(2, .d (.rp 1001 0)), (6, .d (.rp 1003 0)), bxB 2003 (eXMonad.b a0), bxB 2007 (eXFunctor.b a0.On)] (.cons (Nat.le_of_ble_eq_true (n := 12) (m := 12) rfl) .nil) (by kernel_rfl) (by kernel_rfl) ?_
  refine tr_seq ?_
  obtain ⟨v1, hv1, hM⟩ := bind_some' hM
  rcases Bool.eq_false_or_eq_true v1 with h2 | h2
  · have hM := ite_true' hM h2
    obtain ⟨v3, hv3, hM⟩ := bind_some' hM
    refine tr_sr hT hm [(1, .call [] [] [.agg (eXFunctor.b a0.On)] [] (bv v1)), (3, .val (bv false)), (8, .call [] [] [.agg (eXCategory.b a0.On.Source), .agg (eXCategory.b a0.On.Target)] [] (bv v3))] [2, 6, 32, 2003, 2007] [(2, .d (.rp 1001 0)), (6, .d (.rp 1003 0)), (32, .d (bv (!v3))), bxB 2003 (eXMonad.b a0), bxB 2007 (eXFunctor.b a0.On)] (cc0 ok45 (spec_l06Is_c a0.On _ hv1) (by kernel_rfl) (.cons (congrArg (fun b => bv b) (congrArg not h2)) (cc0 ok46 (spec_l02Same_c a0.On.Source a0.On.Target _ hv3) (by kernel_rfl) .nil))) (by kernel_rfl) (by kernel_rfl) ?_
    rcases Bool.eq_false_or_eq_true v3 with h4 | h4
    · have hM := ite_true' hM h4
      refine tr_condFe (e := !v3) (congrArg not h4) (by kernel_rfl) ?_
      refine tr_skip (q_n ?_)
      refine tr_seq ?_
      obtain ⟨v5, hv5, hM⟩ := bind_some' hM
      obtain ⟨v6, hv6, hM⟩ := bind_some' hM
      rcases Bool.eq_false_or_eq_true v6 with h7 | h7
      · have hM := ite_true' hM h7
        obtain ⟨v8, hv8, hM⟩ := bind_some' hM
        obtain ⟨v9, hv9, hM⟩ := bind_some' hM
        refine tr_sr hT hm [(2, .call [] [] [.agg (eXCategory.b a0.On.Source)] [] (.agg (eXFunctor.o v5))), (6, .call (rsR 21000 (eXFunctor.o v5)) [] [.agg (eXFunctor.b v5), .agg (eXFunctor.b a0.On), .sl a0.Unit.length 0 (a0.Unit.flatMap eI.b)] [] (bv v6)), (8, .val (bv false)), (10, .call [] [] [.agg (eXFunctor.b a0.On)] [] (.agg (eXFunctor.o v8))), (14, .call (rsR 29000 (eXFunctor.o v8)) [] [.agg (eXFunctor.b v8), .agg (eXFunctor.b a0.On), .sl a0.Join.length 0 (a0.Join.flatMap eI.b)] [] (bv v9))] [2, 6, 66, 2003, 2007] [(2, .d (.rp 1001 0)), (6, .d (.rp 1003 0)), (66, .d (bv (!v9))), bxB 2003 (eXMonad.b a0), bxB 2007 (eXFunctor.b a0.On)] (cc0 ok48 (spec_l06Self_c a0.On.Source _ hv5) (by kernel_rfl) (cc (B := (rsR 21000 (eXFunctor.o v5))) (ρ := []) (rB := (rsP 21000 (eXFunctor.o v5))) ok47 (spec_l15Natural_c v5 a0.On a0.Unit _ hv6) (.cons (bor_rs eXFunctor_r (q := 21000) (x := v5) (by kernel_rfl) (by kernel_rfl)) (.cons (.same rfl) (.cons (.same rfl) .nil))) (.inr ⟨.v, trivial⟩) (.cons (congrArg (fun b => bv b) (congrArg not h7)) (cc0 ok49 (spec_l16Twice_c a0.On _ hv8) (by kernel_rfl) (cc (B := (rsR 29000 (eXFunctor.o v8))) (ρ := []) (rB := (rsP 29000 (eXFunctor.o v8))) ok47 (spec_l15Natural_c v8 a0.On a0.Join _ hv9) (.cons (bor_rs eXFunctor_r (q := 29000) (x := v8) (by kernel_rfl) (by kernel_rfl)) (.cons (.same rfl) (.cons (.same rfl) .nil))) (.inr ⟨.v, trivial⟩) .nil))))) (by kernel_rfl) (by kernel_rfl) ?_
        rcases Bool.eq_false_or_eq_true v9 with h10 | h10
        · have hM := ite_true' hM h10
          refine tr_condFe (e := !v9) (congrArg not h10) (by kernel_rfl) ?_
          refine tr_skip (q_n ?_)
          obtain ⟨v11, hv11, hM⟩ := bind_some' hM
          refine tr_sr hT hm [(5, .call [] [] [.agg (eXFunctor.b a0.On), .sl a0.Unit.length 0 (a0.Unit.flatMap eI.b), .sl a0.Join.length 0 (a0.Join.flatMap eI.b)] [] (bv v11))] [4] [(4, .d (bv v11))] (cc0 ok50 (spec_l16Laws_c a0.On a0.Unit a0.Join _ hv11) (by kernel_rfl) .nil) (by kernel_rfl) (by kernel_rfl) ?_
          refine tr_ret (rg_r ?_)
          obtain rfl := Option.some.inj hM
          exact retg (names := []) .nil (by kernel_rfl)
        · have hM := ite_false' hM h10
          refine tr_condTe (e := !v9) (congrArg not h10) (by kernel_rfl) ?_
          refine tr_sr hT hm [] [4] [(4, .d (bv false))] .nil (by kernel_rfl) (by kernel_rfl) ?_
          refine tr_ret (q_r (rg_r ?_))
          obtain rfl := Option.some.inj hM
          exact retg (names := []) .nil (by kernel_rfl)
      · have hM := ite_false' hM h7
        refine tr_sr hT hm [(2, .call [] [] [.agg (eXCategory.b a0.On.Source)] [] (.agg (eXFunctor.o v5))), (6, .call (rsR 21000 (eXFunctor.o v5)) [] [.agg (eXFunctor.b v5), .agg (eXFunctor.b a0.On), .sl a0.Unit.length 0 (a0.Unit.flatMap eI.b)] [] (bv v6)), (8, .val (bv true))] [2, 6, 66, 2003, 2007] [(2, .d (.rp 1001 0)), (6, .d (.rp 1003 0)), (66, .d (bv true)), bxB 2003 (eXMonad.b a0), bxB 2007 (eXFunctor.b a0.On)] (cc0 ok48 (spec_l06Self_c a0.On.Source _ hv5) (by kernel_rfl) (cc (B := (rsR 21000 (eXFunctor.o v5))) (ρ := []) (rB := (rsP 21000 (eXFunctor.o v5))) ok47 (spec_l15Natural_c v5 a0.On a0.Unit _ hv6) (.cons (bor_rs eXFunctor_r (q := 21000) (x := v5) (by kernel_rfl) (by kernel_rfl)) (.cons (.same rfl) (.cons (.same rfl) .nil))) (.inr ⟨.v, trivial⟩) (.cons (congrArg (fun b => bv b) (congrArg not h7)) .nil))) (by kernel_rfl) (by kernel_rfl) ?_
        refine tr_condT (by kernel_rfl) ?_
        refine tr_sr hT hm [] [4] [(4, .d (bv false))] .nil (by kernel_rfl) (by kernel_rfl) ?_
        refine tr_ret (q_r (rg_r ?_))
        obtain rfl := Option.some.inj hM
        exact retg (names := []) .nil (by kernel_rfl)
    · have hM := ite_false' hM h4
      refine tr_condTe (e := !v3) (congrArg not h4) (by kernel_rfl) ?_
      refine tr_sr hT hm [] [4] [(4, .d (bv false))] .nil (by kernel_rfl) (by kernel_rfl) ?_
      refine tr_ret (q_r (rg_r ?_))
      obtain rfl := Option.some.inj hM
      exact retg (names := []) .nil (by kernel_rfl)
  · have hM := ite_false' hM h2
    refine tr_sr hT hm [(1, .call [] [] [.agg (eXFunctor.b a0.On)] [] (bv v1)), (3, .val (bv true))] [2, 6, 32, 2003, 2007] [(2, .d (.rp 1001 0)), (6, .d (.rp 1003 0)), (32, .d (bv true)), bxB 2003 (eXMonad.b a0), bxB 2007 (eXFunctor.b a0.On)] (cc0 ok45 (spec_l06Is_c a0.On _ hv1) (by kernel_rfl) (.cons (congrArg (fun b => bv b) (congrArg not h2)) .nil)) (by kernel_rfl) (by kernel_rfl) ?_
    refine tr_condT (by kernel_rfl) ?_
    refine tr_sr hT hm [] [4] [(4, .d (bv false))] .nil (by kernel_rfl) (by kernel_rfl) ?_
    refine tr_ret (q_r (rg_r ?_))
    obtain rfl := Option.some.inj hM
    exact retg (names := []) .nil (by kernel_rfl)

theorem ok28 : CallOk Try.prog 28 := callOk_of Try.func28 (by kernel_rfl) (by kernel_rfl)
theorem impl_Monad_object_c (a0 : XMonad) (a1 : Int) (r : Int) (hM : M.impl_Monad_object a0 a1 = some r) :
    FnC Try.prog 28 [] [.pt (eXMonad.b a0) 0, iv a1] [] (iv r) := by
  refine fnc_startG (N := 13) (np := 500) hT Try.func28 rfl rfl (by kernel_rfl) ?_
  unfold M.impl_Monad_object at hM
  refine tr_start (ks := [0, 2]) (st' := [(0, .d (.pt (eXMonad.b a0) 0)), (2, .d (iv a1))]) (by kernel_rfl) ?_
  refine tr_sr hT hm [] [0, 2] [(0, .d (.pt (eXMonad.b a0) 0)), (2, .d (iv a1))] .nil (by kernel_rfl) (by kernel_rfl) ?_
  obtain ⟨y1, hy1, hM⟩ := bind_some' hM
  have hy1' := idx_some hy1
  refine tr_sr hT hm [(7, .val (iv y1))] [8] [(8, .d (iv y1))] (.cons hy1'.1 (.cons hy1'.2.1 (.cons (at_b0 eI_ok hy1'.2.2 (d := iv y1) (by kernel_rfl)) .nil))) (by kernel_rfl) (by kernel_rfl) ?_
  refine tr_ret (rg_r ?_)
  obtain rfl := Option.some.inj hM
  exact retg (names := []) .nil (by kernel_rfl)

theorem ok92 : CallOk Try.prog 92 := callOk_of Try.func92 (by kernel_rfl) (by kernel_rfl)
theorem impl_Monad_arrow_c (a0 : XMonad) (a1 : Int) (r : Int) (hM : M.impl_Monad_arrow a0 a1 = some r) :
    FnC Try.prog 92 [] [.pt (eXMonad.b a0) 0, iv a1] [] (iv r) := by
  refine fnc_startG (N := 13) (np := 500) hT Try.func92 rfl rfl (by kernel_rfl) ?_
  unfold M.impl_Monad_arrow at hM
  refine tr_start (ks := [0, 2]) (st' := [(0, .d (.pt (eXMonad.b a0) 0)), (2, .d (iv a1))]) (by kernel_rfl) ?_
  refine tr_sr hT hm [] [0, 2] [(0, .d (.pt (eXMonad.b a0) 0)), (2, .d (iv a1))] .nil (by kernel_rfl) (by kernel_rfl) ?_
  obtain ⟨y1, hy1, hM⟩ := bind_some' hM
  have hy1' := idx_some hy1
  refine tr_sr hT hm [(7, .val (iv y1))] [8] [(8, .d (iv y1))] (.cons hy1'.1 (.cons hy1'.2.1 (.cons (at_b0 eI_ok hy1'.2.2 (d := iv y1) (by kernel_rfl)) .nil))) (by kernel_rfl) (by kernel_rfl) ?_
  refine tr_ret (rg_r ?_)
  obtain rfl := Option.some.inj hM
  exact retg (names := []) .nil (by kernel_rfl)

theorem ok57 : CallOk Try.prog 57 := callOk_of Try.func57 (by kernel_rfl) (by kernel_rfl)
theorem impl_Monad_isLawful_c (a0 : XMonad) (r : Bool) (hM : M.impl_Monad_isLawful a0 = some r) :
    FnC Try.prog 57 [] [.pt (eXMonad.b a0) 0] [] (bv r) := by
  refine fnc_startG (N := 108) (np := 500) hT Try.func57 rfl rfl (by kernel_rfl) ?_
  unfold M.impl_Monad_isLawful at hM
  refine tr_start (ks := [0]) (st' := [(0, .d (.pt (eXMonad.b a0) 0))]) (by kernel_rfl) ?_
  refine tr_sr hT hm [] [0] [(0, .d (.pt (eXMonad.b a0) 0))] .nil (by kernel_rfl) (by kernel_rfl) ?_
  refine tr_sr hT hm [] [0, 6] [(0, .d (.pt (eXMonad.b a0) 0)), (6, .d (.pt (eXMonad.b a0) 0))] .nil (by kernel_rfl) (by kernel_rfl) ?_
  refine tr_seq ?_
  refine tr_sr hT hm [] [0, 6, 8] [(0, .d (.pt (eXMonad.b a0) 0)), (6, .d (.pt (eXMonad.b a0) 0)), (8, .d (iv 0))] .nil (by kernel_rfl) (by kernel_rfl) ?_
  refine tr_block ?_
  refine tr_iterS (fun (s1 : Int) => [(0, .d (.pt (eXMonad.b a0) 0)), (6, .d (.pt (eXMonad.b a0) 0)), (8, .d (iv s1))]) 0 [0, 6, 8] (by kernel_rfl) hM ?_
  intro n4 next2 ih3 s1 hM
  refine tr_seq ?_
  refine tr_sr hT hm [] [0, 6, 8, 30] [(0, .d (.pt (eXMonad.b a0) 0)), (6, .d (.pt (eXMonad.b a0) 0)), (8, .d (iv s1)), (30, .d (bv (decide (s1 < a0.On.Source.Objects))))] .nil (by kernel_rfl) (by kernel_rfl) ?_
  rcases Bool.eq_false_or_eq_true (decide (s1 < a0.On.Source.Objects)) with h5 | h5
  · have hM := ite_true' hM h5
    refine tr_condTe (e := decide (s1 < a0.On.Source.Objects)) h5 (by kernel_rfl) ?_
    refine tr_skip (q_n ?_)
    refine tr_seq ?_
    refine tr_block ?_
    obtain ⟨v6, hv6, hM⟩ := bind_some' hM
    refine tr_sr hT hm [(2, .call [] [] [.pt (eXMonad.b a0) 0, iv s1] [] (iv v6))] [0, 6, 8, 10] [(0, .d (.pt (eXMonad.b a0) 0)), (6, .d (.pt (eXMonad.b a0) 0)), (8, .d (iv s1)), (10, .d (iv v6))] (cc0 ok28 (impl_Monad_object_c a0 s1 _ hv6) (by kernel_rfl) .nil) (by kernel_rfl) (by kernel_rfl) ?_
    refine tr_seq ?_
    obtain ⟨y7, hy7, hM⟩ := bind_some' hM
    have hy7' := idx_some hy7
    obtain ⟨v8, hv8, hM⟩ := bind_some' hM
    obtain ⟨y9, hy9, hM⟩ := bind_some' hM
    have hy9' := idx_some hy9
    obtain ⟨v10, hv10, hM⟩ := bind_some' hM
    obtain ⟨y11, hy11, hM⟩ := bind_some' hM
    have hy11' := idx_some hy11
    rcases Bool.eq_false_or_eq_true (v10 != y11) with h12 | h12
    · have hM := ite_true' hM h12
      refine tr_sr hT hm [(8, .val (iv y7)), (9, .call [] [] [.pt (eXMonad.b a0) 0, iv y7] [] (iv v8)), (16, .val (iv y9)), (17, .call [] [] [.pt (eXCategory.b a0.On.Source) 0, iv v8, iv y9] [] (iv v10)), (24, .val (iv y11)), (26, .val (bv true))] [0, 6, 8, 10, 144] [(0, .d (.pt (eXMonad.b a0) 0)), (6, .d (.pt (eXMonad.b a0) 0)), (8, .d (iv s1)), (10, .d (iv v6)), (144, .d (bv true))] (.cons hy7'.1 (.cons hy7'.2.1 (.cons (at_b0 eI_ok hy7'.2.2 (d := iv y7) (by kernel_rfl)) (cc0 ok92 (impl_Monad_arrow_c a0 y7 _ hv8) (by kernel_rfl) (.cons hy9'.1 (.cons hy9'.2.1 (.cons (at_b0 eI_ok hy9'.2.2 (d := iv y9) (by kernel_rfl)) (cc (B := []) (ρ := []) (rB := []) ok60 (impl_Category_then_c a0.On.Source v8 y9 _ hv10) (.cons (.pass (.ptk (ds := eXMonad.b a0) (ds' := eXCategory.b a0.On.Source) (off := 0) (n := 5) (by kernel_rfl) (by kernel_rfl) (by kernel_rfl))) (.cons (.same rfl) (.cons (.same rfl) .nil))) (.inl rfl) (.cons hy11'.1 (.cons hy11'.2.1 (.cons (at_b0 eI_ok hy11'.2.2 (d := iv y11) (by kernel_rfl)) (.cons (congrArg (fun b => bv b) h12) .nil)))))))))))) (by kernel_rfl) (by kernel_rfl) ?_
      refine tr_condT (by kernel_rfl) ?_
      refine tr_sr hT hm [] [4] [(4, .d (bv false))] .nil (by kernel_rfl) (by kernel_rfl) ?_
      refine tr_ret (q_r (b_r (q_r (l_r (b_r (q_r (rg_r ?_)))))))
      obtain rfl := Option.some.inj hM
      exact retg (names := []) .nil (by kernel_rfl)
    · have hM := ite_false' hM h12
      obtain ⟨y13, hy13, hM⟩ := bind_some' hM
      have hy13' := idx_some hy13
      obtain ⟨v14, hv14, hM⟩ := bind_some' hM
      refine tr_sr hT hm [(8, .val (iv y7)), (9, .call [] [] [.pt (eXMonad.b a0) 0, iv y7] [] (iv v8)), (16, .val (iv y9)), (17, .call [] [] [.pt (eXCategory.b a0.On.Source) 0, iv v8, iv y9] [] (iv v10)), (24, .val (iv y11)), (26, .val (bv false)), (34, .val (iv y13)), (41, .val (iv y9)), (42, .call [] [] [.pt (eXCategory.b a0.On.Source) 0, iv y13, iv y9] [] (iv v14)), (49, .val (iv y11))] [0, 6, 8, 10, 144] [(0, .d (.pt (eXMonad.b a0) 0)), (6, .d (.pt (eXMonad.b a0) 0)), (8, .d (iv s1)), (10, .d (iv v6)), (144, .d (bv (v14 != y11)))] (.cons hy7'.1 (.cons hy7'.2.1 (.cons (at_b0 eI_ok hy7'.2.2 (d := iv y7) (by kernel_rfl)) (cc0 ok92 (impl_Monad_arrow_c a0 y7 _ hv8) (by kernel_rfl) (.cons hy9'.1 (.cons hy9'.2.1 (.cons (at_b0 eI_ok hy9'.2.2 (d := iv y9) (by kernel_rfl)) (cc (B := []) (ρ := []) (rB := []) ok60 (impl_Category_then_c a0.On.Source v8 y9 _ hv10) (.cons (.pass (.ptk (ds := eXMonad.b a0) (ds' := eXCategory.b a0.On.Source) (off := 0) (n := 5) (by kernel_rfl) (by kernel_rfl) (by kernel_rfl))) (.cons (.same rfl) (.cons (.same rfl) .nil))) (.inl rfl) (.cons hy11'.1 (.cons hy11'.2.1 (.cons (at_b0 eI_ok hy11'.2.2 (d := iv y11) (by kernel_rfl)) (.cons (congrArg (fun b => bv b) h12) (.cons hy13'.1 (.cons hy13'.2.1 (.cons (at_b0 eI_ok hy13'.2.2 (d := iv y13) (by kernel_rfl)) (.cons hy9'.1 (.cons hy9'.2.1 (.cons (at_b0 eI_ok hy9'.2.2 (d := iv y9) (by kernel_rfl)) (cc (B := []) (ρ := []) (rB := []) ok60 (impl_Category_then_c a0.On.Source y13 y9 _ hv14) (.cons (.pass (.ptk (ds := eXMonad.b a0) (ds' := eXCategory.b a0.On.Source) (off := 0) (n := 5) (by kernel_rfl) (by kernel_rfl) (by kernel_rfl))) (.cons (.same rfl) (.cons (.same rfl) .nil))) (.inl rfl) (.cons hy11'.1 (.cons hy11'.2.1 (.cons (at_b0 eI_ok hy11'.2.2 (d := iv y11) (by kernel_rfl)) .nil)))))))))))))))))))))) (by kernel_rfl) (by kernel_rfl) ?_
      rcases Bool.eq_false_or_eq_true (v14 != y11) with h15 | h15
      · have hM := ite_true' hM h15
        refine tr_condTe (e := v14 != y11) h15 (by kernel_rfl) ?_
        refine tr_sr hT hm [] [4] [(4, .d (bv false))] .nil (by kernel_rfl) (by kernel_rfl) ?_
        refine tr_ret (q_r (b_r (q_r (l_r (b_r (q_r (rg_r ?_)))))))
        obtain rfl := Option.some.inj hM
        exact retg (names := []) .nil (by kernel_rfl)
      · have hM := ite_false' hM h15
        refine tr_condFe (e := v14 != y11) h15 (by kernel_rfl) ?_
        refine tr_skip (q_n ?_)
        obtain ⟨v16, hv16, hM⟩ := bind_some' hM
        obtain ⟨v17, hv17, hM⟩ := bind_some' hM
        obtain ⟨y18, hy18, hM⟩ := bind_some' hM
        have hy18' := idx_some hy18
        obtain ⟨v19, hv19, hM⟩ := bind_some' hM
        refine tr_sr hT hm [(8, .val (iv y9)), (9, .call [] [] [.pt (eXMonad.b a0) 0, iv y9] [] (iv v16)), (16, .val (iv y9)), (17, .call [] [] [.pt (eXCategory.b a0.On.Source) 0, iv v16, iv y9] [] (iv v17)), (25, .val (iv y18)), (32, .val (iv y9)), (33, .call [] [] [.pt (eXCategory.b a0.On.Source) 0, iv y18, iv y9] [] (iv v19))] [0, 6, 8, 214] [(0, .d (.pt (eXMonad.b a0) 0)), (6, .d (.pt (eXMonad.b a0) 0)), (8, .d (iv s1)), (214, .d (bv (v17 != v19)))] (.cons hy9'.1 (.cons hy9'.2.1 (.cons (at_b0 eI_ok hy9'.2.2 (d := iv y9) (by kernel_rfl)) (cc0 ok92 (impl_Monad_arrow_c a0 y9 _ hv16) (by kernel_rfl) (.cons hy9'.1 (.cons hy9'.2.1 (.cons (at_b0 eI_ok hy9'.2.2 (d := iv y9) (by kernel_rfl)) (cc (B := []) (ρ := []) (rB := []) ok60 (impl_Category_then_c a0.On.Source v16 y9 _ hv17) (.cons (.pass (.ptk (ds := eXMonad.b a0) (ds' := eXCategory.b a0.On.Source) (off := 0) (n := 5) (by kernel_rfl) (by kernel_rfl) (by kernel_rfl))) (.cons (.same rfl) (.cons (.same rfl) .nil))) (.inl rfl) (.cons hy18'.1 (.cons hy18'.2.1 (.cons (at_b0 eI_ok hy18'.2.2 (d := iv y18) (by kernel_rfl)) (.cons hy9'.1 (.cons hy9'.2.1 (.cons (at_b0 eI_ok hy9'.2.2 (d := iv y9) (by kernel_rfl)) (cc (B := []) (ρ := []) (rB := []) ok60 (impl_Category_then_c a0.On.Source y18 y9 _ hv19) (.cons (.pass (.ptk (ds := eXMonad.b a0) (ds' := eXCategory.b a0.On.Source) (off := 0) (n := 5) (by kernel_rfl) (by kernel_rfl) (by kernel_rfl))) (.cons (.same rfl) (.cons (.same rfl) .nil))) (.inl rfl) .nil))))))))))))))) (by kernel_rfl) (by kernel_rfl) ?_
        rcases Bool.eq_false_or_eq_true (v17 != v19) with h20 | h20
        · have hM := ite_true' hM h20
          refine tr_condTe (e := v17 != v19) h20 (by kernel_rfl) ?_
          refine tr_sr hT hm [] [4] [(4, .d (bv false))] .nil (by kernel_rfl) (by kernel_rfl) ?_
          refine tr_ret (b_r (q_r (l_r (b_r (q_r (rg_r ?_))))))
          obtain rfl := Option.some.inj hM
          exact retg (names := []) .nil (by kernel_rfl)
        · have hM := ite_false' hM h20
          refine tr_condFe (e := v17 != v19) h20 (by kernel_rfl) ?_
          refine tr_skip (b_n (q_n ?_))
          refine tr_r hT hm [] [0, 6, 8] [(0, .d (.pt (eXMonad.b a0) 0)), (6, .d (.pt (eXMonad.b a0) 0)), (8, .d (iv (IntKind.i64.wrap (s1 + 1))))] .nil (by kernel_rfl) (by kernel_rfl) (l_n ?_)
          exact trl_start (ks := [0, 6, 8]) (by kernel_rfl) (ih3 (IntKind.i64.wrap (s1 + 1)) hM)
  · have hM := ite_false' hM h5
    refine tr_condFe (e := decide (s1 < a0.On.Source.Objects)) h5 (by kernel_rfl) ?_
    refine tr_exit (q_x (l_x (b_h (q_n ?_))))
    refine tr_sr hT hm [] [4] [(4, .d (bv true))] .nil (by kernel_rfl) (by kernel_rfl) ?_
    refine tr_ret (rg_r ?_)
    obtain rfl := Option.some.inj hM
    exact retg (names := []) .nil (by kernel_rfl)

theorem ok25 : CallOk Try.prog 25 := callOk_of Try.func25 (by kernel_rfl) (by kernel_rfl)
theorem impl_Monad_isMonad_c (a0 : XMonad) (r : Bool) (hM : M.impl_Monad_isMonad a0 = some r) :
    FnC Try.prog 25 [] [.pt (eXMonad.b a0) 0] [] (bv r) := by
  refine fnc_startG (N := 62) (np := 500) hT Try.func25 rfl rfl (by kernel_rfl) ?_
  unfold M.impl_Monad_isMonad at hM
  refine tr_start (ks := [0]) (st' := [(0, .d (.pt (eXMonad.b a0) 0))]) (by kernel_rfl) ?_
  refine tr_sr hT hm [] [0] [(0, .d (.pt (eXMonad.b a0) 0))] .nil (by kernel_rfl) (by kernel_rfl) ?_
  refine tr_seq ?_
  obtain ⟨v1, hv1, hM⟩ := bind_some' hM
  rcases Bool.eq_false_or_eq_true v1 with h2 | h2
  · have hM := ite_true' hM h2
    obtain ⟨v3, hv3, hM⟩ := bind_some' hM
    refine tr_sr hT hm [(3, .call [] [] [.pt (eXFunctor.b a0.On) 0] [] (bv v1)), (5, .val (bv false)), (14, .call [] [] [.pt (eXCategory.b a0.On.Source) 0, .pt (eXCategory.b a0.On.Target) 0] [] (bv v3))] [0, 46] [(0, .d (.pt (eXMonad.b a0) 0)), (46, .d (bv (!v3)))] (cc (B := []) (ρ := []) (rB := []) ok52 (impl_Functor_isFunctor_c a0.On _ hv1) (.cons (.pass (.ptk (ds := eXMonad.b a0) (ds' := eXFunctor.b a0.On) (off := 0) (n := 12) (by kernel_rfl) (by kernel_rfl) (by kernel_rfl))) .nil) (.inl rfl) (.cons (congrArg (fun b => bv b) (congrArg not h2)) (cc (B := []) (ρ := []) (rB := []) ok53 (impl_sameCategory_c a0.On.Source a0.On.Target _ hv3) (.cons (.pass (.ptk (ds := eXMonad.b a0) (ds' := eXCategory.b a0.On.Source) (off := 0) (n := 5) (by kernel_rfl) (by kernel_rfl) (by kernel_rfl))) (.cons (.pass (.ptk (ds := eXMonad.b a0) (ds' := eXCategory.b a0.On.Target) (off := 5) (n := 5) (by kernel_rfl) (by kernel_rfl) (by kernel_rfl))) .nil)) (.inl rfl) .nil))) (by kernel_rfl) (by kernel_rfl) ?_
    rcases Bool.eq_false_or_eq_true v3 with h4 | h4
    · have hM := ite_true' hM h4
      refine tr_condFe (e := !v3) (congrArg not h4) (by kernel_rfl) ?_
      refine tr_skip (q_n ?_)
      obtain ⟨v5, hv5, hM⟩ := bind_some' hM
      obtain ⟨v6, hv6, hM⟩ := bind_some' hM
      refine tr_sr hT hm [(4, .call [] [] [.pt (eXCategory.b a0.On.Source) 0] [] (.agg (eXFunctor.o v5))), (11, .call [] [] [.pt (eXFunctor.b a0.On) 0, .pt (eXFunctor.b a0.On) 0] [] (.agg (eXFunctor.o v6)))] [0, 6, 8, 2007, 2009, 60003, 60005, 60007, 60009, 60013, 60015, 60017, 60019, 60021, 60023, 74003, 74005, 74007, 74009, 74013, 74015, 74017, 74019, 74021, 74023] ([(0, .d (.pt (eXMonad.b a0) 0)), (6, .d (.rp 1003 0)), (8, .d (.rp 1004 0)), bxO 2007 30000 (eXFunctor.o v5), bxO 2009 37000 (eXFunctor.o v6)] ++ rsS 30000 (eXFunctor.o v5) ++ rsS 37000 (eXFunctor.o v6)) (cc (B := []) (ρ := []) (rB := []) ok54 (impl_identity_c a0.On.Source _ hv5) (.cons (.pass (.ptk (ds := eXMonad.b a0) (ds' := eXCategory.b a0.On.Source) (off := 0) (n := 5) (by kernel_rfl) (by kernel_rfl) (by kernel_rfl))) .nil) (.inl rfl) (cc (B := []) (ρ := []) (rB := []) ok55 (impl_Functor_then_c a0.On a0.On _ hv6) (.cons (.pass (.ptk (ds := eXMonad.b a0) (ds' := eXFunctor.b a0.On) (off := 0) (n := 12) (by kernel_rfl) (by kernel_rfl) (by kernel_rfl))) (.cons (.pass (.ptk (ds := eXMonad.b a0) (ds' := eXFunctor.b a0.On) (off := 0) (n := 12) (by kernel_rfl) (by kernel_rfl) (by kernel_rfl))) .nil)) (.inl rfl) (.cons (Nat.le_of_ble_eq_true (n := 12) (m := 12) rfl) (.cons (Nat.le_of_ble_eq_true (n := 12) (m := 12) rfl) .nil)))) (by kernel_rfl) (by kernel_rfl) ?_
      refine tr_sr hT hm [] [0, 8, 10, 2009, 2011, 60003, 60005, 60007, 60009, 60013, 60015, 60017, 60019, 60021, 60023, 74003, 74005, 74007, 74009, 74013, 74015, 74017, 74019, 74021, 74023] ([(0, .d (.pt (eXMonad.b a0) 0)), (8, .d (.rp 1004 0)), (10, .d (.rp 1005 0)), bxO 2009 37000 (eXFunctor.o v6), (2011, .r (.arr 1 [iv v5.Source.Objects, .rs 30001 0 v5.Source.From.length, .rs 30002 0 v5.Source.To.length, .rs 30003 0 v5.Source.Identity.length, .rs 30004 0 v5.Source.Composites.length, iv v5.Target.Objects, .rs 30006 0 v5.Target.From.length, .rs 30007 0 v5.Target.To.length, .rs 30008 0 v5.Target.Identity.length, .rs 30009 0 v5.Target.Composites.length, .rs 30010 0 v5.Objects.length, .rs 30011 0 v5.Arrows.length, iv a0.On.Source.Objects, .sl a0.On.Source.From.length 0 (a0.On.Source.From.flatMap eI.b), .sl a0.On.Source.To.length 0 (a0.On.Source.To.flatMap eI.b), .sl a0.On.Source.Identity.length 0 (a0.On.Source.Identity.flatMap eI.b), .sl a0.On.Source.Composites.length 0 (a0.On.Source.Composites.flatMap (eS eI).b), iv a0.On.Target.Objects, .sl a0.On.Target.From.length 0 (a0.On.Target.From.flatMap eI.b), .sl a0.On.Target.To.length 0 (a0.On.Target.To.flatMap eI.b), .sl a0.On.Target.Identity.length 0 (a0.On.Target.Identity.flatMap eI.b), .sl a0.On.Target.Composites.length 0 (a0.On.Target.Composites.flatMap (eS eI).b), .sl a0.On.Objects.length 0 (a0.On.Objects.flatMap eI.b), .sl a0.On.Arrows.length 0 (a0.On.Arrows.flatMap eI.b), .sl a0.Unit.length 0 (a0.Unit.flatMap eI.b)] [30001, 30002, 30003, 30004, 30006, 30007, 30008, 30009, 30010, 30011]))] ++ rsS 30000 (eXFunctor.o v5) ++ rsS 37000 (eXFunctor.o v6)) (.cons (Nat.le_of_ble_eq_true (n := 25) (m := 25) rfl) .nil) (by kernel_rfl) (by kernel_rfl) ?_
      refine tr_sr hT hm [] [0, 10, 12, 2011, 2013, 60003, 60005, 60007, 60009, 60013, 60015, 60017, 60019, 60021, 60023, 74003, 74005, 74007, 74009, 74013, 74015, 74017, 74019, 74021, 74023] ([(0, .d (.pt (eXMonad.b a0) 0)), (10, .d (.rp 1005 0)), (12, .d (.rp 1006 0)), (2011, .r (.arr 1 [iv v5.Source.Objects, .rs 30001 0 v5.Source.From.length, .rs 30002 0 v5.Source.To.length, .rs 30003 0 v5.Source.Identity.length, .rs 30004 0 v5.Source.Composites.length, iv v5.Target.Objects, .rs 30006 0 v5.Target.From.length, .rs 30007 0 v5.Target.To.length, .rs 30008 0 v5.Target.Identity.length, .rs 30009 0 v5.Target.Composites.length, .rs 30010 0 v5.Objects.length, .rs 30011 0 v5.Arrows.length, iv a0.On.Source.Objects, .sl a0.On.Source.From.length 0 (a0.On.Source.From.flatMap eI.b), .sl a0.On.Source.To.length 0 (a0.On.Source.To.flatMap eI.b), .sl a0.On.Source.Identity.length 0 (a0.On.Source.Identity.flatMap eI.b), .sl a0.On.Source.Composites.length 0 (a0.On.Source.Composites.flatMap (eS eI).b), iv a0.On.Target.Objects, .sl a0.On.Target.From.length 0 (a0.On.Target.From.flatMap eI.b), .sl a0.On.Target.To.length 0 (a0.On.Target.To.flatMap eI.b), .sl a0.On.Target.Identity.length 0 (a0.On.Target.Identity.flatMap eI.b), .sl a0.On.Target.Composites.length 0 (a0.On.Target.Composites.flatMap (eS eI).b), .sl a0.On.Objects.length 0 (a0.On.Objects.flatMap eI.b), .sl a0.On.Arrows.length 0 (a0.On.Arrows.flatMap eI.b), .sl a0.Unit.length 0 (a0.Unit.flatMap eI.b)] [30001, 30002, 30003, 30004, 30006, 30007, 30008, 30009, 30010, 30011])), (2013, .r (.arr 1 [iv v6.Source.Objects, .rs 37001 0 v6.Source.From.length, .rs 37002 0 v6.Source.To.length, .rs 37003 0 v6.Source.Identity.length, .rs 37004 0 v6.Source.Composites.length, iv v6.Target.Objects, .rs 37006 0 v6.Target.From.length, .rs 37007 0 v6.Target.To.length, .rs 37008 0 v6.Target.Identity.length, .rs 37009 0 v6.Target.Composites.length, .rs 37010 0 v6.Objects.length, .rs 37011 0 v6.Arrows.length, iv a0.On.Source.Objects, .sl a0.On.Source.From.length 0 (a0.On.Source.From.flatMap eI.b), .sl a0.On.Source.To.length 0 (a0.On.Source.To.flatMap eI.b), .sl a0.On.Source.Identity.length 0 (a0.On.Source.Identity.flatMap eI.b), .sl a0.On.Source.Composites.length 0 (a0.On.Source.Composites.flatMap (eS eI).b), iv a0.On.Target.Objects, .sl a0.On.Target.From.length 0 (a0.On.Target.From.flatMap eI.b), .sl a0.On.Target.To.length 0 (a0.On.Target.To.flatMap eI.b), .sl a0.On.Target.Identity.length 0 (a0.On.Target.Identity.flatMap eI.b), .sl a0.On.Target.Composites.length 0 (a0.On.Target.Composites.flatMap (eS eI).b), .sl a0.On.Objects.length 0 (a0.On.Objects.flatMap eI.b), .sl a0.On.Arrows.length 0 (a0.On.Arrows.flatMap eI.b), .sl a0.Join.length 0 (a0.Join.flatMap eI.b)] [37001, 37002, 37003, 37004, 37006, 37007, 37008, 37009, 37010, 37011]))] ++ rsS 30000 (eXFunctor.o v5) ++ rsS 37000 (eXFunctor.o v6)) (.cons (Nat.le_of_ble_eq_true (n := 25) (m := 25) rfl) .nil) (by kernel_rfl) (by kernel_rfl) ?_
      obtain ⟨v7, hv7, hM⟩ := bind_some' hM
      rcases Bool.eq_false_or_eq_true v7 with h8 | h8
      · have hM := ite_true' hM h8
        obtain ⟨v9, hv9, hM⟩ := bind_some' hM
        refine tr_sr hT hm [(1, .call ([1056, 1005] ++ rsR 30000 (eXFunctor.o v5) ++ [1006] ++ rsR 37000 (eXFunctor.o v6)) [] [.sl ([(⟨v5, a0.On, a0.Unit⟩ : XTransformation), (⟨v6, a0.On, a0.Join⟩ : XTransformation)] : List XTransformation).length 0 (([(⟨v5, a0.On, a0.Unit⟩ : XTransformation), (⟨v6, a0.On, a0.Join⟩ : XTransformation)] : List XTransformation).flatMap (eP eXTransformation).b)] [] (bv v7)), (2, .val (bv true)), (4, .call [] [] [.pt (eXMonad.b a0) 0] [] (bv v9))] [4] [(4, .d (bv v9))] (cc (B := ([1056, 1005] ++ rsR 30000 (eXFunctor.o v5) ++ [1006] ++ rsR 37000 (eXFunctor.o v6))) (ρ := []) (rB := ([(1056, .arr 1 [.rp 1005 0, .rp 1006 0] [1005, 1006]), (1005, .arr 1 [iv v5.Source.Objects, .rs 30001 0 v5.Source.From.length, .rs 30002 0 v5.Source.To.length, .rs 30003 0 v5.Source.Identity.length, .rs 30004 0 v5.Source.Composites.length, iv v5.Target.Objects, .rs 30006 0 v5.Target.From.length, .rs 30007 0 v5.Target.To.length, .rs 30008 0 v5.Target.Identity.length, .rs 30009 0 v5.Target.Composites.length, .rs 30010 0 v5.Objects.length, .rs 30011 0 v5.Arrows.length, iv a0.On.Source.Objects, .sl a0.On.Source.From.length 0 (a0.On.Source.From.flatMap eI.b), .sl a0.On.Source.To.length 0 (a0.On.Source.To.flatMap eI.b), .sl a0.On.Source.Identity.length 0 (a0.On.Source.Identity.flatMap eI.b), .sl a0.On.Source.Composites.length 0 (a0.On.Source.Composites.flatMap (eS eI).b), iv a0.On.Target.Objects, .sl a0.On.Target.From.length 0 (a0.On.Target.From.flatMap eI.b), .sl a0.On.Target.To.length 0 (a0.On.Target.To.flatMap eI.b), .sl a0.On.Target.Identity.length 0 (a0.On.Target.Identity.flatMap eI.b), .sl a0.On.Target.Composites.length 0 (a0.On.Target.Composites.flatMap (eS eI).b), .sl a0.On.Objects.length 0 (a0.On.Objects.flatMap eI.b), .sl a0.On.Arrows.length 0 (a0.On.Arrows.flatMap eI.b), .sl a0.Unit.length 0 (a0.Unit.flatMap eI.b)] [30001, 30002, 30003, 30004, 30006, 30007, 30008, 30009, 30010, 30011])] ++ rsP 30000 (eXFunctor.o v5) ++ [(1006, .arr 1 [iv v6.Source.Objects, .rs 37001 0 v6.Source.From.length, .rs 37002 0 v6.Source.To.length, .rs 37003 0 v6.Source.Identity.length, .rs 37004 0 v6.Source.Composites.length, iv v6.Target.Objects, .rs 37006 0 v6.Target.From.length, .rs 37007 0 v6.Target.To.length, .rs 37008 0 v6.Target.Identity.length, .rs 37009 0 v6.Target.Composites.length, .rs 37010 0 v6.Objects.length, .rs 37011 0 v6.Arrows.length, iv a0.On.Source.Objects, .sl a0.On.Source.From.length 0 (a0.On.Source.From.flatMap eI.b), .sl a0.On.Source.To.length 0 (a0.On.Source.To.flatMap eI.b), .sl a0.On.Source.Identity.length 0 (a0.On.Source.Identity.flatMap eI.b), .sl a0.On.Source.Composites.length 0 (a0.On.Source.Composites.flatMap (eS eI).b), iv a0.On.Target.Objects, .sl a0.On.Target.From.length 0 (a0.On.Target.From.flatMap eI.b), .sl a0.On.Target.To.length 0 (a0.On.Target.To.flatMap eI.b), .sl a0.On.Target.Identity.length 0 (a0.On.Target.Identity.flatMap eI.b), .sl a0.On.Target.Composites.length 0 (a0.On.Target.Composites.flatMap (eS eI).b), .sl a0.On.Objects.length 0 (a0.On.Objects.flatMap eI.b), .sl a0.On.Arrows.length 0 (a0.On.Arrows.flatMap eI.b), .sl a0.Join.length 0 (a0.Join.flatMap eI.b)] [37001, 37002, 37003, 37004, 37006, 37007, 37008, 37009, 37010, 37011])] ++ rsP 37000 (eXFunctor.o v6))) ok56 (impl_areNatural_c ([(⟨v5, a0.On, a0.Unit⟩ : XTransformation), (⟨v6, a0.On, a0.Join⟩ : XTransformation)] : List XTransformation) _ hv7) (.cons (.of1 (.rs (r := 1056) (sz := 1) (cells := [.rp 1005 0, .rp 1006 0]) (refs := [1005, 1006]) (memB (by kernel_rfl)) (by kernel_rfl) (.cons (.rp (r := 1005) (sz := 1) (cells := [iv v5.Source.Objects, .rs 30001 0 v5.Source.From.length, .rs 30002 0 v5.Source.To.length, .rs 30003 0 v5.Source.Identity.length, .rs 30004 0 v5.Source.Composites.length, iv v5.Target.Objects, .rs 30006 0 v5.Target.From.length, .rs 30007 0 v5.Target.To.length, .rs 30008 0 v5.Target.Identity.length, .rs 30009 0 v5.Target.Composites.length, .rs 30010 0 v5.Objects.length, .rs 30011 0 v5.Arrows.length, iv a0.On.Source.Objects, .sl a0.On.Source.From.length 0 (a0.On.Source.From.flatMap eI.b), .sl a0.On.Source.To.length 0 (a0.On.Source.To.flatMap eI.b), .sl a0.On.Source.Identity.length 0 (a0.On.Source.Identity.flatMap eI.b), .sl a0.On.Source.Composites.length 0 (a0.On.Source.Composites.flatMap (eS eI).b), iv a0.On.Target.Objects, .sl a0.On.Target.From.length 0 (a0.On.Target.From.flatMap eI.b), .sl a0.On.Target.To.length 0 (a0.On.Target.To.flatMap eI.b), .sl a0.On.Target.Identity.length 0 (a0.On.Target.Identity.flatMap eI.b), .sl a0.On.Target.Composites.length 0 (a0.On.Target.Composites.flatMap (eS eI).b), .sl a0.On.Objects.length 0 (a0.On.Objects.flatMap eI.b), .sl a0.On.Arrows.length 0 (a0.On.Arrows.flatMap eI.b), .sl a0.Unit.length 0 (a0.Unit.flatMap eI.b)]) (refs := [30001, 30002, 30003, 30004, 30006, 30007, 30008, 30009, 30010, 30011]) (memB (by kernel_rfl)) (by kernel_rfl) (.cons .v (.cons (.rs (r := 30001) (sz := 1) (refs := []) (memB (by kernel_rfl)) (by kernel_rfl) (bor_flat eI_ok _ _ _)) (.cons (.rs (r := 30002) (sz := 1) (refs := []) (memB (by kernel_rfl)) (by kernel_rfl) (bor_flat eI_ok _ _ _)) (.cons (.rs (r := 30003) (sz := 1) (refs := []) (memB (by kernel_rfl)) (by kernel_rfl) (bor_flat eI_ok _ _ _)) (.cons (.rs (r := 30004) (sz := 1) (refs := []) (memB (by kernel_rfl)) (by kernel_rfl) (bor_flat (eS_ok eI_ok) _ _ _)) (.cons .v (.cons (.rs (r := 30006) (sz := 1) (refs := []) (memB (by kernel_rfl)) (by kernel_rfl) (bor_flat eI_ok _ _ _)) (.cons (.rs (r := 30007) (sz := 1) (refs := []) (memB (by kernel_rfl)) (by kernel_rfl) (bor_flat eI_ok _ _ _)) (.cons (.rs (r := 30008) (sz := 1) (refs := []) (memB (by kernel_rfl)) (by kernel_rfl) (bor_flat eI_ok _ _ _)) (.cons (.rs (r := 30009) (sz := 1) (refs := []) (memB (by kernel_rfl)) (by kernel_rfl) (bor_flat (eS_ok eI_ok) _ _ _)) (.cons (.rs (r := 30010) (sz := 1) (refs := []) (memB (by kernel_rfl)) (by kernel_rfl) (bor_flat eI_ok _ _ _)) (.cons (.rs (r := 30011) (sz := 1) (refs := []) (memB (by kernel_rfl)) (by kernel_rfl) (bor_flat eI_ok _ _ _)) (.cons .v (.cons (.same rfl rfl) (.cons (.same rfl rfl) (.cons (.same rfl rfl) (.cons (.same rfl rfl) (.cons .v (.cons (.same rfl rfl) (.cons (.same rfl rfl) (.cons (.same rfl rfl) (.cons (.same rfl rfl) (.cons (.same rfl rfl) (.cons (.same rfl rfl) (.cons (.same rfl rfl) .nil)))))))))))))))))))))))))) (.cons (.rp (r := 1006) (sz := 1) (cells := [iv v6.Source.Objects, .rs 37001 0 v6.Source.From.length, .rs 37002 0 v6.Source.To.length, .rs 37003 0 v6.Source.Identity.length, .rs 37004 0 v6.Source.Composites.length, iv v6.Target.Objects, .rs 37006 0 v6.Target.From.length, .rs 37007 0 v6.Target.To.length, .rs 37008 0 v6.Target.Identity.length, .rs 37009 0 v6.Target.Composites.length, .rs 37010 0 v6.Objects.length, .rs 37011 0 v6.Arrows.length, iv a0.On.Source.Objects, .sl a0.On.Source.From.length 0 (a0.On.Source.From.flatMap eI.b), .sl a0.On.Source.To.length 0 (a0.On.Source.To.flatMap eI.b), .sl a0.On.Source.Identity.length 0 (a0.On.Source.Identity.flatMap eI.b), .sl a0.On.Source.Composites.length 0 (a0.On.Source.Composites.flatMap (eS eI).b), iv a0.On.Target.Objects, .sl a0.On.Target.From.length 0 (a0.On.Target.From.flatMap eI.b), .sl a0.On.Target.To.length 0 (a0.On.Target.To.flatMap eI.b), .sl a0.On.Target.Identity.length 0 (a0.On.Target.Identity.flatMap eI.b), .sl a0.On.Target.Composites.length 0 (a0.On.Target.Composites.flatMap (eS eI).b), .sl a0.On.Objects.length 0 (a0.On.Objects.flatMap eI.b), .sl a0.On.Arrows.length 0 (a0.On.Arrows.flatMap eI.b), .sl a0.Join.length 0 (a0.Join.flatMap eI.b)]) (refs := [37001, 37002, 37003, 37004, 37006, 37007, 37008, 37009, 37010, 37011]) (memB (by kernel_rfl)) (by kernel_rfl) (.cons .v (.cons (.rs (r := 37001) (sz := 1) (refs := []) (memB (by kernel_rfl)) (by kernel_rfl) (bor_flat eI_ok _ _ _)) (.cons (.rs (r := 37002) (sz := 1) (refs := []) (memB (by kernel_rfl)) (by kernel_rfl) (bor_flat eI_ok _ _ _)) (.cons (.rs (r := 37003) (sz := 1) (refs := []) (memB (by kernel_rfl)) (by kernel_rfl) (bor_flat eI_ok _ _ _)) (.cons (.rs (r := 37004) (sz := 1) (refs := []) (memB (by kernel_rfl)) (by kernel_rfl) (bor_flat (eS_ok eI_ok) _ _ _)) (.cons .v (.cons (.rs (r := 37006) (sz := 1) (refs := []) (memB (by kernel_rfl)) (by kernel_rfl) (bor_flat eI_ok _ _ _)) (.cons (.rs (r := 37007) (sz := 1) (refs := []) (memB (by kernel_rfl)) (by kernel_rfl) (bor_flat eI_ok _ _ _)) (.cons (.rs (r := 37008) (sz := 1) (refs := []) (memB (by kernel_rfl)) (by kernel_rfl) (bor_flat eI_ok _ _ _)) (.cons (.rs (r := 37009) (sz := 1) (refs := []) (memB (by kernel_rfl)) (by kernel_rfl) (bor_flat (eS_ok eI_ok) _ _ _)) (.cons (.rs (r := 37010) (sz := 1) (refs := []) (memB (by kernel_rfl)) (by kernel_rfl) (bor_flat eI_ok _ _ _)) (.cons (.rs (r := 37011) (sz := 1) (refs := []) (memB (by kernel_rfl)) (by kernel_rfl) (bor_flat eI_ok _ _ _)) (.cons .v (.cons (.same rfl rfl) (.cons (.same rfl rfl) (.cons (.same rfl rfl) (.cons (.same rfl rfl) (.cons .v (.cons (.same rfl rfl) (.cons (.same rfl rfl) (.cons (.same rfl rfl) (.cons (.same rfl rfl) (.cons (.same rfl rfl) (.cons (.same rfl rfl) (.cons (.same rfl rfl) .nil)))))))))))))))))))))))))) .nil)))) .nil) (.inr ⟨.v, trivial⟩) (.cons (congrArg (fun b => bv b) h8) (cc0 ok57 (impl_Monad_isLawful_c a0 _ hv9) (by kernel_rfl) .nil))) (by kernel_rfl) (by kernel_rfl) ?_
        refine tr_ret (rg_r ?_)
        obtain rfl := Option.some.inj hM
        exact retg (names := []) .nil (by kernel_rfl)
      · have hM := ite_false' hM h8
        refine tr_sr hT hm [(1, .call ([1056, 1005] ++ rsR 30000 (eXFunctor.o v5) ++ [1006] ++ rsR 37000 (eXFunctor.o v6)) [] [.sl ([(⟨v5, a0.On, a0.Unit⟩ : XTransformation), (⟨v6, a0.On, a0.Join⟩ : XTransformation)] : List XTransformation).length 0 (([(⟨v5, a0.On, a0.Unit⟩ : XTransformation), (⟨v6, a0.On, a0.Join⟩ : XTransformation)] : List XTransformation).flatMap (eP eXTransformation).b)] [] (bv v7)), (2, .val (bv false))] [4] [(4, .d (bv false))] (cc (B := ([1056, 1005] ++ rsR 30000 (eXFunctor.o v5) ++ [1006] ++ rsR 37000 (eXFunctor.o v6))) (ρ := []) (rB := ([(1056, .arr 1 [.rp 1005 0, .rp 1006 0] [1005, 1006]), (1005, .arr 1 [iv v5.Source.Objects, .rs 30001 0 v5.Source.From.length, .rs 30002 0 v5.Source.To.length, .rs 30003 0 v5.Source.Identity.length, .rs 30004 0 v5.Source.Composites.length, iv v5.Target.Objects, .rs 30006 0 v5.Target.From.length, .rs 30007 0 v5.Target.To.length, .rs 30008 0 v5.Target.Identity.length, .rs 30009 0 v5.Target.Composites.length, .rs 30010 0 v5.Objects.length, .rs 30011 0 v5.Arrows.length, iv a0.On.Source.Objects, .sl a0.On.Source.From.length 0 (a0.On.Source.From.flatMap eI.b), .sl a0.On.Source.To.length 0 (a0.On.Source.To.flatMap eI.b), .sl a0.On.Source.Identity.length 0 (a0.On.Source.Identity.flatMap eI.b), .sl a0.On.Source.Composites.length 0 (a0.On.Source.Composites.flatMap (eS eI).b), iv a0.On.Target.Objects, .sl a0.On.Target.From.length 0 (a0.On.Target.From.flatMap eI.b), .sl a0.On.Target.To.length 0 (a0.On.Target.To.flatMap eI.b), .sl a0.On.Target.Identity.length 0 (a0.On.Target.Identity.flatMap eI.b), .sl a0.On.Target.Composites.length 0 (a0.On.Target.Composites.flatMap (eS eI).b), .sl a0.On.Objects.length 0 (a0.On.Objects.flatMap eI.b), .sl a0.On.Arrows.length 0 (a0.On.Arrows.flatMap eI.b), .sl a0.Unit.length 0 (a0.Unit.flatMap eI.b)] [30001, 30002, 30003, 30004, 30006, 30007, 30008, 30009, 30010, 30011])] ++ rsP 30000 (eXFunctor.o v5) ++ [(1006, .arr 1 [iv v6.Source.Objects, .rs 37001 0 v6.Source.From.length, .rs 37002 0 v6.Source.To.length, .rs 37003 0 v6.Source.Identity.length, .rs 37004 0 v6.Source.Composites.length, iv v6.Target.Objects, .rs 37006 0 v6.Target.From.length, .rs 37007 0 v6.Target.To.length, .rs 37008 0 v6.Target.Identity.length, .rs 37009 0 v6.Target.Composites.length, .rs 37010 0 v6.Objects.length, .rs 37011 0 v6.Arrows.length, iv a0.On.Source.Objects, .sl a0.On.Source.From.length 0 (a0.On.Source.From.flatMap eI.b), .sl a0.On.Source.To.length 0 (a0.On.Source.To.flatMap eI.b), .sl a0.On.Source.Identity.length 0 (a0.On.Source.Identity.flatMap eI.b), .sl a0.On.Source.Composites.length 0 (a0.On.Source.Composites.flatMap (eS eI).b), iv a0.On.Target.Objects, .sl a0.On.Target.From.length 0 (a0.On.Target.From.flatMap eI.b), .sl a0.On.Target.To.length 0 (a0.On.Target.To.flatMap eI.b), .sl a0.On.Target.Identity.length 0 (a0.On.Target.Identity.flatMap eI.b), .sl a0.On.Target.Composites.length 0 (a0.On.Target.Composites.flatMap (eS eI).b), .sl a0.On.Objects.length 0 (a0.On.Objects.flatMap eI.b), .sl a0.On.Arrows.length 0 (a0.On.Arrows.flatMap eI.b), .sl a0.Join.length 0 (a0.Join.flatMap eI.b)] [37001, 37002, 37003, 37004, 37006, 37007, 37008, 37009, 37010, 37011])] ++ rsP 37000 (eXFunctor.o v6))) ok56 (impl_areNatural_c ([(⟨v5, a0.On, a0.Unit⟩ : XTransformation), (⟨v6, a0.On, a0.Join⟩ : XTransformation)] : List XTransformation) _ hv7) (.cons (.of1 (.rs (r := 1056) (sz := 1) (cells := [.rp 1005 0, .rp 1006 0]) (refs := [1005, 1006]) (memB (by kernel_rfl)) (by kernel_rfl) (.cons (.rp (r := 1005) (sz := 1) (cells := [iv v5.Source.Objects, .rs 30001 0 v5.Source.From.length, .rs 30002 0 v5.Source.To.length, .rs 30003 0 v5.Source.Identity.length, .rs 30004 0 v5.Source.Composites.length, iv v5.Target.Objects, .rs 30006 0 v5.Target.From.length, .rs 30007 0 v5.Target.To.length, .rs 30008 0 v5.Target.Identity.length, .rs 30009 0 v5.Target.Composites.length, .rs 30010 0 v5.Objects.length, .rs 30011 0 v5.Arrows.length, iv a0.On.Source.Objects, .sl a0.On.Source.From.length 0 (a0.On.Source.From.flatMap eI.b), .sl a0.On.Source.To.length 0 (a0.On.Source.To.flatMap eI.b), .sl a0.On.Source.Identity.length 0 (a0.On.Source.Identity.flatMap eI.b), .sl a0.On.Source.Composites.length 0 (a0.On.Source.Composites.flatMap (eS eI).b), iv a0.On.Target.Objects, .sl a0.On.Target.From.length 0 (a0.On.Target.From.flatMap eI.b), .sl a0.On.Target.To.length 0 (a0.On.Target.To.flatMap eI.b), .sl a0.On.Target.Identity.length 0 (a0.On.Target.Identity.flatMap eI.b), .sl a0.On.Target.Composites.length 0 (a0.On.Target.Composites.flatMap (eS eI).b), .sl a0.On.Objects.length 0 (a0.On.Objects.flatMap eI.b), .sl a0.On.Arrows.length 0 (a0.On.Arrows.flatMap eI.b), .sl a0.Unit.length 0 (a0.Unit.flatMap eI.b)]) (refs := [30001, 30002, 30003, 30004, 30006, 30007, 30008, 30009, 30010, 30011]) (memB (by kernel_rfl)) (by kernel_rfl) (.cons .v (.cons (.rs (r := 30001) (sz := 1) (refs := []) (memB (by kernel_rfl)) (by kernel_rfl) (bor_flat eI_ok _ _ _)) (.cons (.rs (r := 30002) (sz := 1) (refs := []) (memB (by kernel_rfl)) (by kernel_rfl) (bor_flat eI_ok _ _ _)) (.cons (.rs (r := 30003) (sz := 1) (refs := []) (memB (by kernel_rfl)) (by kernel_rfl) (bor_flat eI_ok _ _ _)) (.cons (.rs (r := 30004) (sz := 1) (refs := []) (memB (by kernel_rfl)) (by kernel_rfl) (bor_flat (eS_ok eI_ok) _ _ _)) (.cons .v (.cons (.rs (r := 30006) (sz := 1) (refs := []) (memB (by kernel_rfl)) (by kernel_rfl) (bor_flat eI_ok _ _ _)) (.cons (.rs (r := 30007) (sz := 1) (refs := []) (memB (by kernel_rfl)) (by kernel_rfl) (bor_flat eI_ok _ _ _)) (.cons (.rs (r := 30008) (sz := 1) (refs := []) (memB (by kernel_rfl)) (by kernel_rfl) (bor_flat eI_ok _ _ _)) (.cons (.rs (r := 30009) (sz := 1) (refs := []) (memB (by kernel_rfl)) (by kernel_rfl) (bor_flat (eS_ok eI_ok) _ _ _)) (.cons (.rs (r := 30010) (sz := 1) (refs := []) (memB (by kernel_rfl)) (by kernel_rfl) (bor_flat eI_ok _ _ _)) (.cons (.rs (r := 30011) (sz := 1) (refs := []) (memB (by kernel_rfl)) (by kernel_rfl) (bor_flat eI_ok _ _ _)) (.cons .v (.cons (.same rfl rfl) (.cons (.same rfl rfl) (.cons (.same rfl rfl) (.cons (.same rfl rfl) (.cons .v (.cons (.same rfl rfl) (.cons (.same rfl rfl) (.cons (.same rfl rfl) (.cons (.same rfl rfl) (.cons (.same rfl rfl) (.cons (.same rfl rfl) (.cons (.same rfl rfl) .nil)))))))))))))))))))))))))) (.cons (.rp (r := 1006) (sz := 1) (cells := [iv v6.Source.Objects, .rs 37001 0 v6.Source.From.length, .rs 37002 0 v6.Source.To.length, .rs 37003 0 v6.Source.Identity.length, .rs 37004 0 v6.Source.Composites.length, iv v6.Target.Objects, .rs 37006 0 v6.Target.From.length, .rs 37007 0 v6.Target.To.length, .rs 37008 0 v6.Target.Identity.length, .rs 37009 0 v6.Target.Composites.length, .rs 37010 0 v6.Objects.length, .rs 37011 0 v6.Arrows.length, iv a0.On.Source.Objects, .sl a0.On.Source.From.length 0 (a0.On.Source.From.flatMap eI.b), .sl a0.On.Source.To.length 0 (a0.On.Source.To.flatMap eI.b), .sl a0.On.Source.Identity.length 0 (a0.On.Source.Identity.flatMap eI.b), .sl a0.On.Source.Composites.length 0 (a0.On.Source.Composites.flatMap (eS eI).b), iv a0.On.Target.Objects, .sl a0.On.Target.From.length 0 (a0.On.Target.From.flatMap eI.b), .sl a0.On.Target.To.length 0 (a0.On.Target.To.flatMap eI.b), .sl a0.On.Target.Identity.length 0 (a0.On.Target.Identity.flatMap eI.b), .sl a0.On.Target.Composites.length 0 (a0.On.Target.Composites.flatMap (eS eI).b), .sl a0.On.Objects.length 0 (a0.On.Objects.flatMap eI.b), .sl a0.On.Arrows.length 0 (a0.On.Arrows.flatMap eI.b), .sl a0.Join.length 0 (a0.Join.flatMap eI.b)]) (refs := [37001, 37002, 37003, 37004, 37006, 37007, 37008, 37009, 37010, 37011]) (memB (by kernel_rfl)) (by kernel_rfl) (.cons .v (.cons (.rs (r := 37001) (sz := 1) (refs := []) (memB (by kernel_rfl)) (by kernel_rfl) (bor_flat eI_ok _ _ _)) (.cons (.rs (r := 37002) (sz := 1) (refs := []) (memB (by kernel_rfl)) (by kernel_rfl) (bor_flat eI_ok _ _ _)) (.cons (.rs (r := 37003) (sz := 1) (refs := []) (memB (by kernel_rfl)) (by kernel_rfl) (bor_flat eI_ok _ _ _)) (.cons (.rs (r := 37004) (sz := 1) (refs := []) (memB (by kernel_rfl)) (by kernel_rfl) (bor_flat (eS_ok eI_ok) _ _ _)) (.cons .v (.cons (.rs (r := 37006) (sz := 1) (refs := []) (memB (by kernel_rfl)) (by kernel_rfl) (bor_flat eI_ok _ _ _)) (.cons (.rs (r := 37007) (sz := 1) (refs := []) (memB (by kernel_rfl)) (by kernel_rfl) (bor_flat eI_ok _ _ _)) (.cons (.rs (r := 37008) (sz := 1) (refs := []) (memB (by kernel_rfl)) (by kernel_rfl) (bor_flat eI_ok _ _ _)) (.cons (.rs (r := 37009) (sz := 1) (refs := []) (memB (by kernel_rfl)) (by kernel_rfl) (bor_flat (eS_ok eI_ok) _ _ _)) (.cons (.rs (r := 37010) (sz := 1) (refs := []) (memB (by kernel_rfl)) (by kernel_rfl) (bor_flat eI_ok _ _ _)) (.cons (.rs (r := 37011) (sz := 1) (refs := []) (memB (by kernel_rfl)) (by kernel_rfl) (bor_flat eI_ok _ _ _)) (.cons .v (.cons (.same rfl rfl) (.cons (.same rfl rfl) (.cons (.same rfl rfl) (.cons (.same rfl rfl) (.cons .v (.cons (.same rfl rfl) (.cons (.same rfl rfl) (.cons (.same rfl rfl) (.cons (.same rfl rfl) (.cons (.same rfl rfl) (.cons (.same rfl rfl) (.cons (.same rfl rfl) .nil)))))))))))))))))))))))))) .nil)))) .nil) (.inr ⟨.v, trivial⟩) (.cons (congrArg (fun b => bv b) h8) .nil)) (by kernel_rfl) (by kernel_rfl) ?_
        refine tr_ret (rg_r ?_)
        obtain rfl := Option.some.inj hM
        exact retg (names := []) .nil (by kernel_rfl)
    · have hM := ite_false' hM h4
      refine tr_condTe (e := !v3) (congrArg not h4) (by kernel_rfl) ?_
      refine tr_sr hT hm [] [4] [(4, .d (bv false))] .nil (by kernel_rfl) (by kernel_rfl) ?_
      refine tr_ret (q_r (rg_r ?_))
      obtain rfl := Option.some.inj hM
      exact retg (names := []) .nil (by kernel_rfl)
  · have hM := ite_false' hM h2
    refine tr_sr hT hm [(3, .call [] [] [.pt (eXFunctor.b a0.On) 0] [] (bv v1)), (5, .val (bv true))] [0, 46] [(0, .d (.pt (eXMonad.b a0) 0)), (46, .d (bv true))] (cc (B := []) (ρ := []) (rB := []) ok52 (impl_Functor_isFunctor_c a0.On _ hv1) (.cons (.pass (.ptk (ds := eXMonad.b a0) (ds' := eXFunctor.b a0.On) (off := 0) (n := 12) (by kernel_rfl) (by kernel_rfl) (by kernel_rfl))) .nil) (.inl rfl) (.cons (congrArg (fun b => bv b) (congrArg not h2)) .nil)) (by kernel_rfl) (by kernel_rfl) ?_
    refine tr_condT (by kernel_rfl) ?_
    refine tr_sr hT hm [] [4] [(4, .d (bv false))] .nil (by kernel_rfl) (by kernel_rfl) ?_
    refine tr_ret (q_r (rg_r ?_))
    obtain rfl := Option.some.inj hM
    exact retg (names := []) .nil (by kernel_rfl)

theorem ok9 : CallOk Try.prog 9 := callOk_of Try.func9 (by kernel_rfl) (by kernel_rfl)
theorem laws_eqMonad_c (a0 : XMonad) (a1 : XMonad) (r : Bool) (hM : M.laws_eqMonad a0 a1 = some r) :
    FnC Try.prog 9 [] [.agg (eXMonad.b a0), .agg (eXMonad.b a1)] [] (bv r) := by
  refine fnc_startG (N := 23) (np := 500) hT Try.func9 rfl rfl (by kernel_rfl) ?_
  unfold M.laws_eqMonad at hM
  refine tr_start (ks := [0, 2]) (st' := [(0, .d (.agg (eXMonad.b a0))), (2, .d (.agg (eXMonad.b a1)))]) (by kernel_rfl) ?_
  refine tr_sr hT hm [] [4, 6, 2005, 2007] [(4, .d (.rp 1002 0)), (6, .d (.rp 1003 0)), bxB 2005 (eXMonad.b a0), bxB 2007 (eXMonad.b a1)] .nil (by kernel_rfl) (by kernel_rfl) ?_
  refine tr_seq ?_
  obtain ⟨v1, hv1, hM⟩ := bind_some' hM
  refine tr_sr hT hm [(4, .call [] [] [.agg (eXFunctor.b a0.On), .agg (eXFunctor.b a1.On)] [] (bv v1))] [4, 6, 20, 2005, 2007] [(4, .d (.rp 1002 0)), (6, .d (.rp 1003 0)), (20, .d (bv (!v1))), bxB 2005 (eXMonad.b a0), bxB 2007 (eXMonad.b a1)] (cc0 ok31 (laws_eqFunctor_c a0.On a1.On _ hv1) (by kernel_rfl) .nil) (by kernel_rfl) (by kernel_rfl) ?_
  rcases Bool.eq_false_or_eq_true v1 with h2 | h2
  · have hM := ite_true' hM h2
    refine tr_condFe (e := !v1) (congrArg not h2) (by kernel_rfl) ?_
    refine tr_skip (q_n ?_)
    refine tr_seq ?_
    obtain ⟨v3, hv3, hM⟩ := bind_some' hM
    refine tr_sr hT hm [(4, .call [] [] [.sl a0.Unit.length 0 (a0.Unit.flatMap eI.b), .sl a1.Unit.length 0 (a1.Unit.flatMap eI.b)] [] (bv v3))] [4, 6, 32, 2005, 2007] [(4, .d (.rp 1002 0)), (6, .d (.rp 1003 0)), (32, .d (bv (!v3))), bxB 2005 (eXMonad.b a0), bxB 2007 (eXMonad.b a1)] (cc0 ok32 (laws_eqInt64S_c a0.Unit a1.Unit _ hv3) (by kernel_rfl) .nil) (by kernel_rfl) (by kernel_rfl) ?_
    rcases Bool.eq_false_or_eq_true v3 with h4 | h4
    · have hM := ite_true' hM h4
      refine tr_condFe (e := !v3) (congrArg not h4) (by kernel_rfl) ?_
      refine tr_skip (q_n ?_)
      refine tr_seq ?_
      obtain ⟨v5, hv5, hM⟩ := bind_some' hM
      refine tr_sr hT hm [(4, .call [] [] [.sl a0.Join.length 0 (a0.Join.flatMap eI.b), .sl a1.Join.length 0 (a1.Join.flatMap eI.b)] [] (bv v5))] [44] [(44, .d (bv (!v5)))] (cc0 ok32 (laws_eqInt64S_c a0.Join a1.Join _ hv5) (by kernel_rfl) .nil) (by kernel_rfl) (by kernel_rfl) ?_
      rcases Bool.eq_false_or_eq_true v5 with h6 | h6
      · have hM := ite_true' hM h6
        refine tr_condFe (e := !v5) (congrArg not h6) (by kernel_rfl) ?_
        refine tr_skip (q_n ?_)
        refine tr_sr hT hm [] [8] [(8, .d (bv true))] .nil (by kernel_rfl) (by kernel_rfl) ?_
        refine tr_ret (rg_r ?_)
        obtain rfl := Option.some.inj hM
        exact retg (names := []) .nil (by kernel_rfl)
      · have hM := ite_false' hM h6
        refine tr_condTe (e := !v5) (congrArg not h6) (by kernel_rfl) ?_
        refine tr_sr hT hm [] [8] [(8, .d (bv false))] .nil (by kernel_rfl) (by kernel_rfl) ?_
        refine tr_ret (q_r (rg_r ?_))
        obtain rfl := Option.some.inj hM
        exact retg (names := []) .nil (by kernel_rfl)
    · have hM := ite_false' hM h4
      refine tr_condTe (e := !v3) (congrArg not h4) (by kernel_rfl) ?_
      refine tr_sr hT hm [] [8] [(8, .d (bv false))] .nil (by kernel_rfl) (by kernel_rfl) ?_
      refine tr_ret (q_r (rg_r ?_))
      obtain rfl := Option.some.inj hM
      exact retg (names := []) .nil (by kernel_rfl)
  · have hM := ite_false' hM h2
    refine tr_condTe (e := !v1) (congrArg not h2) (by kernel_rfl) ?_
    refine tr_sr hT hm [] [8] [(8, .d (bv false))] .nil (by kernel_rfl) (by kernel_rfl) ?_
    refine tr_ret (q_r (rg_r ?_))
    obtain rfl := Option.some.inj hM
    exact retg (names := []) .nil (by kernel_rfl)

end Go.Proofs.Ytfihadfjmbfpgaa.WwM
