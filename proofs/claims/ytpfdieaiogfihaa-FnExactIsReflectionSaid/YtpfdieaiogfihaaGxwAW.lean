/- Walks. Printed by wip/gen. -/
import Derived.Test.YtpfdieaiogfihaaGxwAM
import Derived.Test.YtpfdieaiogfihaaGxwNW
import Derived.Test.YtpfdieaiogfihaaGxwUW
import Derived.Test.YtpfdieaiogfihaaGxvHW
import Derived.Test.YtpfdieaiogfihaaGxvIW
import Derived.KernelRfl
namespace Go.Proofs.Ytpfdieaiogfihaa.WwA
open Go.Gx Go.Proofs.Ytpfdieaiogfihaa.WvB Go.Proofs.Ytpfdieaiogfihaa.WwN Go.Proofs.Ytpfdieaiogfihaa.WvS Go.Proofs.Ytpfdieaiogfihaa.WvF Go.Proofs.Ytpfdieaiogfihaa.WwT Go.Proofs.Ytpfdieaiogfihaa.WwU Go.Proofs.Ytpfdieaiogfihaa.WvH Go.Proofs.Ytpfdieaiogfihaa.WvI

theorem eXCategory_r : EncR eXCategory := (eA_r (eC_r eI_r _) (eA_r (eC_r (eS_r eI_ok) _) (eA_r (eC_r (eS_r eI_ok) _) (eA_r (eC_r (eS_r eI_ok) _) (eC_r (eS_r (eS_ok eI_ok)) _)))))
theorem eXFunctor_r : EncR eXFunctor := (eA_r (eC_r eXCategory_r _) (eA_r (eC_r eXCategory_r _) (eA_r (eC_r (eS_r eI_ok) _) (eC_r (eS_r eI_ok) _))))
theorem eXends_r : EncR eXends := (eA_r (eC_r eI_r _) (eC_r eI_r _))
theorem eXTransformation_r : EncR eXTransformation := (eA_r (eC_r eXFunctor_r _) (eA_r (eC_r eXFunctor_r _) (eC_r (eS_r eI_ok) _)))
theorem eXAdjunction_r : EncR eXAdjunction := (eA_r (eC_r eXFunctor_r _) (eA_r (eC_r eXFunctor_r _) (eA_r (eC_r (eS_r eI_ok) _) (eC_r (eS_r eI_ok) _))))
def T : Tab := [(2, ⟨.int .i64, 1, 8, [.int .i64 0]⟩),
  (3, ⟨.int .i64, 1, 8, [.int .i64 0]⟩),
  (22, ⟨.slice 2, 1, 24, [.slice .none 0 0]⟩),
  (23, ⟨.slice 22, 1, 24, [.slice .none 0 0]⟩),
  (25, ⟨.struct #[⟨"Objects", 2, 0, false, "", "", 0⟩, ⟨"From", 22, 1, false, "", "", 8⟩, ⟨"To", 22, 2, false, "", "", 32⟩, ⟨"Identity", 22, 3, false, "", "", 56⟩, ⟨"Composites", 23, 4, false, "", "", 80⟩], 5, 104, [.int .i64 0, .slice .none 0 0, .slice .none 0 0, .slice .none 0 0, .slice .none 0 0]⟩),
  (27, ⟨.struct #[⟨"Source", 25, 0, false, "", "", 0⟩, ⟨"Target", 25, 5, false, "", "", 104⟩, ⟨"Objects", 22, 10, false, "", "", 208⟩, ⟨"Arrows", 22, 11, false, "", "", 232⟩], 12, 256, [.int .i64 0, .slice .none 0 0, .slice .none 0 0, .slice .none 0 0, .slice .none 0 0, .int .i64 0, .slice .none 0 0, .slice .none 0 0, .slice .none 0 0, .slice .none 0 0, .slice .none 0 0, .slice .none 0 0]⟩),
  (32, ⟨.struct #[⟨"Objects", 2, 0, false, "", "", 0⟩, ⟨"From", 22, 1, false, "", "", 8⟩, ⟨"To", 22, 2, false, "", "", 32⟩, ⟨"Identity", 22, 3, false, "", "", 56⟩, ⟨"Composites", 23, 4, false, "", "", 80⟩], 5, 104, [.int .i64 0, .slice .none 0 0, .slice .none 0 0, .slice .none 0 0, .slice .none 0 0]⟩),
  (34, ⟨.struct #[⟨"Source", 32, 0, false, "", "", 0⟩, ⟨"Target", 32, 5, false, "", "", 104⟩, ⟨"Objects", 22, 10, false, "", "", 208⟩, ⟨"Arrows", 22, 11, false, "", "", 232⟩], 12, 256, [.int .i64 0, .slice .none 0 0, .slice .none 0 0, .slice .none 0 0, .slice .none 0 0, .int .i64 0, .slice .none 0 0, .slice .none 0 0, .slice .none 0 0, .slice .none 0 0, .slice .none 0 0, .slice .none 0 0]⟩),
  (41, ⟨.struct #[⟨"Left", 27, 0, false, "", "", 0⟩, ⟨"Right", 27, 12, false, "", "", 256⟩, ⟨"Unit", 22, 24, false, "", "", 512⟩, ⟨"Counit", 22, 25, false, "", "", 536⟩], 26, 560, [.int .i64 0, .slice .none 0 0, .slice .none 0 0, .slice .none 0 0, .slice .none 0 0, .int .i64 0, .slice .none 0 0, .slice .none 0 0, .slice .none 0 0, .slice .none 0 0, .slice .none 0 0, .slice .none 0 0, .int .i64 0, .slice .none 0 0, .slice .none 0 0, .slice .none 0 0, .slice .none 0 0, .int .i64 0, .slice .none 0 0, .slice .none 0 0, .slice .none 0 0, .slice .none 0 0, .slice .none 0 0, .slice .none 0 0, .slice .none 0 0, .slice .none 0 0]⟩),
  (45, ⟨.struct #[⟨"Left", 34, 0, false, "", "", 0⟩, ⟨"Right", 34, 12, false, "", "", 256⟩, ⟨"Unit", 22, 24, false, "", "", 512⟩, ⟨"Counit", 22, 25, false, "", "", 536⟩], 26, 560, [.int .i64 0, .slice .none 0 0, .slice .none 0 0, .slice .none 0 0, .slice .none 0 0, .int .i64 0, .slice .none 0 0, .slice .none 0 0, .slice .none 0 0, .slice .none 0 0, .slice .none 0 0, .slice .none 0 0, .int .i64 0, .slice .none 0 0, .slice .none 0 0, .slice .none 0 0, .slice .none 0 0, .int .i64 0, .slice .none 0 0, .slice .none 0 0, .slice .none 0 0, .slice .none 0 0, .slice .none 0 0, .slice .none 0 0, .slice .none 0 0, .slice .none 0 0]⟩),
  (114, ⟨.pointer 34, 1, 8, [.pointer .none]⟩),
  (116, ⟨.struct #[⟨"Source", 34, 0, false, "", "", 0⟩, ⟨"Target", 34, 12, false, "", "", 256⟩, ⟨"Components", 22, 24, false, "", "", 512⟩], 25, 536, [.int .i64 0, .slice .none 0 0, .slice .none 0 0, .slice .none 0 0, .slice .none 0 0, .int .i64 0, .slice .none 0 0, .slice .none 0 0, .slice .none 0 0, .slice .none 0 0, .slice .none 0 0, .slice .none 0 0, .int .i64 0, .slice .none 0 0, .slice .none 0 0, .slice .none 0 0, .slice .none 0 0, .int .i64 0, .slice .none 0 0, .slice .none 0 0, .slice .none 0 0, .slice .none 0 0, .slice .none 0 0, .slice .none 0 0, .slice .none 0 0]⟩),
  (118, ⟨.pointer 116, 1, 8, [.pointer .none]⟩),
  (135, ⟨.slice 118, 1, 24, [.slice .none 0 0]⟩),
  (136, ⟨.slice 114, 1, 24, [.slice .none 0 0]⟩)]
theorem hT : TabOk Try.prog T := ⟨tiok (by kernel_rfl) (by kernel_rfl), tiok (by kernel_rfl) (by kernel_rfl), tiok (by kernel_rfl) (by kernel_rfl), tiok (by kernel_rfl) (by kernel_rfl), tiok (by kernel_rfl) (by kernel_rfl), tiok (by kernel_rfl) (by kernel_rfl), tiok (by kernel_rfl) (by kernel_rfl), tiok (by kernel_rfl) (by kernel_rfl), tiok (by kernel_rfl) (by kernel_rfl), tiok (by kernel_rfl) (by kernel_rfl), tiok (by kernel_rfl) (by kernel_rfl), tiok (by kernel_rfl) (by kernel_rfl), tiok (by kernel_rfl) (by kernel_rfl), tiok (by kernel_rfl) (by kernel_rfl), tiok (by kernel_rfl) (by kernel_rfl), trivial⟩
theorem hm : Try.prog.follows .mixedOrders = true := by kernel_rfl

theorem ok20 : CallOk Try.prog 20 := callOk_of Try.func20 (by kernel_rfl) (by kernel_rfl)
theorem laws_szAdjunction_c (a0 : XAdjunction) (a1 : Int) (r : Int) (hM : M.laws_szAdjunction a0 a1 = some r) :
    FnC Try.prog 20 [] [.agg (eXAdjunction.b a0), iv a1] [] (iv r) := by
  refine fnc_startG (N := 30) (np := 500) hT Try.func20 rfl rfl (by kernel_rfl) ?_
  unfold M.laws_szAdjunction at hM
  refine tr_start (ks := [0, 2]) (st' := [(0, .d (.agg (eXAdjunction.b a0))), (2, .d (iv a1))]) (by kernel_rfl) ?_
  refine tr_sr hT hm [] [2, 4, 2005] [(2, .d (iv a1)), (4, .d (.rp 1002 0)), bxB 2005 (eXAdjunction.b a0)] .nil (by kernel_rfl) (by kernel_rfl) ?_
  obtain ⟨v1, hv1, hM⟩ := bind_some' hM
  refine tr_sr hT hm [(3, .call [] [] [.agg (eXFunctor.b a0.Left), iv a1] [] (iv v1))] [2, 4, 2005] [(2, .d (iv v1)), (4, .d (.rp 1002 0)), bxB 2005 (eXAdjunction.b a0)] (cc0 ok47 (laws_szFunctor_c a0.Left a1 _ hv1) (by kernel_rfl) .nil) (by kernel_rfl) (by kernel_rfl) ?_
  refine tr_seq ?_
  refine tr_sr hT hm [] [2, 4, 20, 2005] [(2, .d (iv v1)), (4, .d (.rp 1002 0)), (20, .d (bv (decide (v1 < 0)))), bxB 2005 (eXAdjunction.b a0)] .nil (by kernel_rfl) (by kernel_rfl) ?_
  rcases Bool.eq_false_or_eq_true (decide (v1 < 0)) with h2 | h2
  · have hM := ite_true' hM h2
    refine tr_condTe (e := decide (v1 < 0)) h2 (by kernel_rfl) ?_
    refine tr_sr hT hm [] [8] [(8, .d (iv (-1)))] .nil (by kernel_rfl) (by kernel_rfl) ?_
    refine tr_ret (q_r (rg_r ?_))
    obtain rfl := Option.some.inj hM
    exact retg (names := []) .nil (by kernel_rfl)
  · have hM := ite_false' hM h2
    refine tr_condFe (e := decide (v1 < 0)) h2 (by kernel_rfl) ?_
    refine tr_skip (q_n ?_)
    obtain ⟨v3, hv3, hM⟩ := bind_some' hM
    refine tr_sr hT hm [(3, .call [] [] [.agg (eXFunctor.b a0.Right), iv v1] [] (iv v3))] [2, 4, 2005] [(2, .d (iv v3)), (4, .d (.rp 1002 0)), bxB 2005 (eXAdjunction.b a0)] (cc0 ok47 (laws_szFunctor_c a0.Right v1 _ hv3) (by kernel_rfl) .nil) (by kernel_rfl) (by kernel_rfl) ?_
    refine tr_seq ?_
    refine tr_sr hT hm [] [2, 4, 32, 2005] [(2, .d (iv v3)), (4, .d (.rp 1002 0)), (32, .d (bv (decide (v3 < 0)))), bxB 2005 (eXAdjunction.b a0)] .nil (by kernel_rfl) (by kernel_rfl) ?_
    rcases Bool.eq_false_or_eq_true (decide (v3 < 0)) with h4 | h4
    · have hM := ite_true' hM h4
      refine tr_condTe (e := decide (v3 < 0)) h4 (by kernel_rfl) ?_
      refine tr_sr hT hm [] [8] [(8, .d (iv (-1)))] .nil (by kernel_rfl) (by kernel_rfl) ?_
      refine tr_ret (q_r (rg_r ?_))
      obtain rfl := Option.some.inj hM
      exact retg (names := []) .nil (by kernel_rfl)
    · have hM := ite_false' hM h4
      refine tr_condFe (e := decide (v3 < 0)) h4 (by kernel_rfl) ?_
      refine tr_skip (q_n ?_)
      obtain ⟨v5, hv5, hM⟩ := bind_some' hM
      refine tr_sr hT hm [(3, .call [] [] [.sl a0.Unit.length 0 (a0.Unit.flatMap eI.b), iv v3] [] (iv v5))] [2, 4, 2005] [(2, .d (iv v5)), (4, .d (.rp 1002 0)), bxB 2005 (eXAdjunction.b a0)] (cc0 ok48 (laws_szInt64S_c a0.Unit v3 _ hv5) (by kernel_rfl) .nil) (by kernel_rfl) (by kernel_rfl) ?_
      refine tr_seq ?_
      refine tr_sr hT hm [] [2, 4, 44, 2005] [(2, .d (iv v5)), (4, .d (.rp 1002 0)), (44, .d (bv (decide (v5 < 0)))), bxB 2005 (eXAdjunction.b a0)] .nil (by kernel_rfl) (by kernel_rfl) ?_
      rcases Bool.eq_false_or_eq_true (decide (v5 < 0)) with h6 | h6
      · have hM := ite_true' hM h6
        refine tr_condTe (e := decide (v5 < 0)) h6 (by kernel_rfl) ?_
        refine tr_sr hT hm [] [8] [(8, .d (iv (-1)))] .nil (by kernel_rfl) (by kernel_rfl) ?_
        refine tr_ret (q_r (rg_r ?_))
        obtain rfl := Option.some.inj hM
        exact retg (names := []) .nil (by kernel_rfl)
      · have hM := ite_false' hM h6
        refine tr_condFe (e := decide (v5 < 0)) h6 (by kernel_rfl) ?_
        refine tr_skip (q_n ?_)
        obtain ⟨v7, hv7, hM⟩ := bind_some' hM
        refine tr_sr hT hm [(3, .call [] [] [.sl a0.Counit.length 0 (a0.Counit.flatMap eI.b), iv v5] [] (iv v7))] [2] [(2, .d (iv v7))] (cc0 ok48 (laws_szInt64S_c a0.Counit v5 _ hv7) (by kernel_rfl) .nil) (by kernel_rfl) (by kernel_rfl) ?_
        refine tr_seq ?_
        refine tr_sr hT hm [] [2, 56] [(2, .d (iv v7)), (56, .d (bv (decide (v7 < 0))))] .nil (by kernel_rfl) (by kernel_rfl) ?_
        rcases Bool.eq_false_or_eq_true (decide (v7 < 0)) with h8 | h8
        · have hM := ite_true' hM h8
          refine tr_condTe (e := decide (v7 < 0)) h8 (by kernel_rfl) ?_
          refine tr_sr hT hm [] [8] [(8, .d (iv (-1)))] .nil (by kernel_rfl) (by kernel_rfl) ?_
          refine tr_ret (q_r (rg_r ?_))
          obtain rfl := Option.some.inj hM
          exact retg (names := []) .nil (by kernel_rfl)
        · have hM := ite_false' hM h8
          refine tr_condFe (e := decide (v7 < 0)) h8 (by kernel_rfl) ?_
          refine tr_skip (q_n ?_)
          refine tr_sr hT hm [] [8] [(8, .d (iv v7))] .nil (by kernel_rfl) (by kernel_rfl) ?_
          refine tr_ret (rg_r ?_)
          obtain rfl := Option.some.inj hM
          exact retg (names := []) .nil (by kernel_rfl)

theorem ok22 : CallOk Try.prog 22 := callOk_of Try.func22 (by kernel_rfl) (by kernel_rfl)
theorem laws_toAdjunction_c (a0 : XAdjunction) (r : XAdjunction) (hM : M.laws_toAdjunction a0 = some r) :
    FnC Try.prog 22 [] [.agg (eXAdjunction.b a0)] [] (.agg (eXAdjunction.o r)) := by
  refine fnc_startG (N := 21) (np := 500) hT Try.func22 rfl rfl (by kernel_rfl) ?_
  unfold M.laws_toAdjunction at hM
  refine tr_start (ks := [0]) (st' := [(0, .d (.agg (eXAdjunction.b a0)))]) (by kernel_rfl) ?_
  refine tr_sr hT hm [] [2, 4, 2003, 2005] [(2, .d (.rp 1001 0)), (4, .d (.rp 1002 0)), bxB 2003 (eXAdjunction.b a0), (2005, .r (.arr 1 [iv 0, nilv, nilv, nilv, nilv, iv 0, nilv, nilv, nilv, nilv, nilv, nilv, iv 0, nilv, nilv, nilv, nilv, iv 0, nilv, nilv, nilv, nilv, nilv, nilv, nilv, nilv] []))] .nil (by kernel_rfl) (by kernel_rfl) ?_
  refine tr_sr hT hm [] [2, 4, 6, 2003, 2005, 2007] [(2, .d (.rp 1001 0)), (4, .d (.rp 1002 0)), (6, .d (.rp 1003 0)), bxB 2003 (eXAdjunction.b a0), (2005, .r (.arr 1 [iv 0, nilv, nilv, nilv, nilv, iv 0, nilv, nilv, nilv, nilv, nilv, nilv, iv 0, nilv, nilv, nilv, nilv, iv 0, nilv, nilv, nilv, nilv, nilv, nilv, nilv, nilv] [])), (2007, .r (.arr 1 [iv 0, nilv, nilv, nilv, nilv, iv 0, nilv, nilv, nilv, nilv, nilv, nilv, iv 0, nilv, nilv, nilv, nilv, iv 0, nilv, nilv, nilv, nilv, nilv, nilv, nilv, nilv] []))] .nil (by kernel_rfl) (by kernel_rfl) ?_
  obtain ⟨v1, hv1, hM⟩ := bind_some' hM
  refine tr_sr hT hm [(2, .call [] [] [.agg (eXFunctor.b a0.Left)] [] (.agg (eXFunctor.o v1)))] [2, 4, 6, 2003, 2005, 2007, 16003, 16005, 16007, 16009, 16013, 16015, 16017, 16019, 16021, 16023] ([(2, .d (.rp 1001 0)), (4, .d (.rp 1002 0)), (6, .d (.rp 1003 0)), bxB 2003 (eXAdjunction.b a0), (2005, .r (.arr 1 [iv 0, nilv, nilv, nilv, nilv, iv 0, nilv, nilv, nilv, nilv, nilv, nilv, iv 0, nilv, nilv, nilv, nilv, iv 0, nilv, nilv, nilv, nilv, nilv, nilv, nilv, nilv] [])), (2007, .r (.arr 1 [iv v1.Source.Objects, .rs 8001 0 v1.Source.From.length, .rs 8002 0 v1.Source.To.length, .rs 8003 0 v1.Source.Identity.length, .rs 8004 0 v1.Source.Composites.length, iv v1.Target.Objects, .rs 8006 0 v1.Target.From.length, .rs 8007 0 v1.Target.To.length, .rs 8008 0 v1.Target.Identity.length, .rs 8009 0 v1.Target.Composites.length, .rs 8010 0 v1.Objects.length, .rs 8011 0 v1.Arrows.length, iv 0, nilv, nilv, nilv, nilv, iv 0, nilv, nilv, nilv, nilv, nilv, nilv, nilv, nilv] [8001, 8002, 8003, 8004, 8006, 8007, 8008, 8009, 8010, 8011]))] ++ rsS 8000 (eXFunctor.o v1)) (cc0 ok50 (laws_toFunctor_c a0.Left _ hv1) (by kernel_rfl) (.cons (Nat.le_of_ble_eq_true (n := 12) (m := 26) rfl) .nil)) (by kernel_rfl) (by kernel_rfl) ?_
  obtain ⟨v2, hv2, hM⟩ := bind_some' hM
  refine tr_sr hT hm [(2, .call [] [] [.agg (eXFunctor.b a0.Right)] [] (.agg (eXFunctor.o v2)))] [2, 4, 6, 2003, 2005, 2007, 16003, 16005, 16007, 16009, 16013, 16015, 16017, 16019, 16021, 16023, 24003, 24005, 24007, 24009, 24013, 24015, 24017, 24019, 24021, 24023] ([(2, .d (.rp 1001 0)), (4, .d (.rp 1002 0)), (6, .d (.rp 1003 0)), bxB 2003 (eXAdjunction.b a0), (2005, .r (.arr 1 [iv 0, nilv, nilv, nilv, nilv, iv 0, nilv, nilv, nilv, nilv, nilv, nilv, iv 0, nilv, nilv, nilv, nilv, iv 0, nilv, nilv, nilv, nilv, nilv, nilv, nilv, nilv] [])), (2007, .r (.arr 1 [iv v1.Source.Objects, .rs 8001 0 v1.Source.From.length, .rs 8002 0 v1.Source.To.length, .rs 8003 0 v1.Source.Identity.length, .rs 8004 0 v1.Source.Composites.length, iv v1.Target.Objects, .rs 8006 0 v1.Target.From.length, .rs 8007 0 v1.Target.To.length, .rs 8008 0 v1.Target.Identity.length, .rs 8009 0 v1.Target.Composites.length, .rs 8010 0 v1.Objects.length, .rs 8011 0 v1.Arrows.length, iv v2.Source.Objects, .rs 12001 0 v2.Source.From.length, .rs 12002 0 v2.Source.To.length, .rs 12003 0 v2.Source.Identity.length, .rs 12004 0 v2.Source.Composites.length, iv v2.Target.Objects, .rs 12006 0 v2.Target.From.length, .rs 12007 0 v2.Target.To.length, .rs 12008 0 v2.Target.Identity.length, .rs 12009 0 v2.Target.Composites.length, .rs 12010 0 v2.Objects.length, .rs 12011 0 v2.Arrows.length, nilv, nilv] [8001, 8002, 8003, 8004, 8006, 8007, 8008, 8009, 8010, 8011, 12001, 12002, 12003, 12004, 12006, 12007, 12008, 12009, 12010, 12011]))] ++ rsS 8000 (eXFunctor.o v1) ++ rsS 12000 (eXFunctor.o v2)) (cc0 ok50 (laws_toFunctor_c a0.Right _ hv2) (by kernel_rfl) (.cons (Nat.le_of_ble_eq_true (n := 24) (m := 26) rfl) .nil)) (by kernel_rfl) (by kernel_rfl) ?_
  obtain ⟨v3, hv3, hM⟩ := bind_some' hM
  refine tr_sr hT hm [(2, .call [] [] [.sl a0.Unit.length 0 (a0.Unit.flatMap eI.b)] [] (.fr 1 v3.length (v3.flatMap eI.o)))] [2, 4, 6, 2003, 2005, 2007, 16003, 16005, 16007, 16009, 16013, 16015, 16017, 16019, 16021, 16023, 24003, 24005, 24007, 24009, 24013, 24015, 24017, 24019, 24021, 24023, 32001] ([(2, .d (.rp 1001 0)), (4, .d (.rp 1002 0)), (6, .d (.rp 1003 0)), bxB 2003 (eXAdjunction.b a0), (2005, .r (.arr 1 [iv 0, nilv, nilv, nilv, nilv, iv 0, nilv, nilv, nilv, nilv, nilv, nilv, iv 0, nilv, nilv, nilv, nilv, iv 0, nilv, nilv, nilv, nilv, nilv, nilv, nilv, nilv] [])), (2007, .r (.arr 1 [iv v1.Source.Objects, .rs 8001 0 v1.Source.From.length, .rs 8002 0 v1.Source.To.length, .rs 8003 0 v1.Source.Identity.length, .rs 8004 0 v1.Source.Composites.length, iv v1.Target.Objects, .rs 8006 0 v1.Target.From.length, .rs 8007 0 v1.Target.To.length, .rs 8008 0 v1.Target.Identity.length, .rs 8009 0 v1.Target.Composites.length, .rs 8010 0 v1.Objects.length, .rs 8011 0 v1.Arrows.length, iv v2.Source.Objects, .rs 12001 0 v2.Source.From.length, .rs 12002 0 v2.Source.To.length, .rs 12003 0 v2.Source.Identity.length, .rs 12004 0 v2.Source.Composites.length, iv v2.Target.Objects, .rs 12006 0 v2.Target.From.length, .rs 12007 0 v2.Target.To.length, .rs 12008 0 v2.Target.Identity.length, .rs 12009 0 v2.Target.Composites.length, .rs 12010 0 v2.Objects.length, .rs 12011 0 v2.Arrows.length, .rs 16000 0 v3.length, nilv] [8001, 8002, 8003, 8004, 8006, 8007, 8008, 8009, 8010, 8011, 12001, 12002, 12003, 12004, 12006, 12007, 12008, 12009, 12010, 12011, 16000]))] ++ rsS 8000 (eXFunctor.o v1) ++ rsS 12000 (eXFunctor.o v2) ++ [(32001, .r (.arr 1 (v3.flatMap eI.o) []))]) (cc0 ok34 (laws_toInt64S_c a0.Unit _ hv3) (by kernel_rfl) (.cons (Nat.le_of_ble_eq_true (n := 25) (m := 26) rfl) .nil)) (by kernel_rfl) (by kernel_rfl) ?_
  obtain ⟨v4, hv4, hM⟩ := bind_some' hM
  refine tr_sr hT hm [(2, .call [] [] [.sl a0.Counit.length 0 (a0.Counit.flatMap eI.b)] [] (.fr 1 v4.length (v4.flatMap eI.o)))] [4, 6, 2005, 2007, 16003, 16005, 16007, 16009, 16013, 16015, 16017, 16019, 16021, 16023, 24003, 24005, 24007, 24009, 24013, 24015, 24017, 24019, 24021, 24023, 32001, 40001] ([(4, .d (.rp 1002 0)), (6, .d (.rp 1003 0)), (2005, .r (.arr 1 [iv 0, nilv, nilv, nilv, nilv, iv 0, nilv, nilv, nilv, nilv, nilv, nilv, iv 0, nilv, nilv, nilv, nilv, iv 0, nilv, nilv, nilv, nilv, nilv, nilv, nilv, nilv] [])), (2007, .r (.arr 1 [iv v1.Source.Objects, .rs 8001 0 v1.Source.From.length, .rs 8002 0 v1.Source.To.length, .rs 8003 0 v1.Source.Identity.length, .rs 8004 0 v1.Source.Composites.length, iv v1.Target.Objects, .rs 8006 0 v1.Target.From.length, .rs 8007 0 v1.Target.To.length, .rs 8008 0 v1.Target.Identity.length, .rs 8009 0 v1.Target.Composites.length, .rs 8010 0 v1.Objects.length, .rs 8011 0 v1.Arrows.length, iv v2.Source.Objects, .rs 12001 0 v2.Source.From.length, .rs 12002 0 v2.Source.To.length, .rs 12003 0 v2.Source.Identity.length, .rs 12004 0 v2.Source.Composites.length, iv v2.Target.Objects, .rs 12006 0 v2.Target.From.length, .rs 12007 0 v2.Target.To.length, .rs 12008 0 v2.Target.Identity.length, .rs 12009 0 v2.Target.Composites.length, .rs 12010 0 v2.Objects.length, .rs 12011 0 v2.Arrows.length, .rs 16000 0 v3.length, .rs 20000 0 v4.length] [8001, 8002, 8003, 8004, 8006, 8007, 8008, 8009, 8010, 8011, 12001, 12002, 12003, 12004, 12006, 12007, 12008, 12009, 12010, 12011, 16000, 20000]))] ++ rsS 8000 (eXFunctor.o v1) ++ rsS 12000 (eXFunctor.o v2) ++ [(32001, .r (.arr 1 (v3.flatMap eI.o) [])), (40001, .r (.arr 1 (v4.flatMap eI.o) []))]) (cc0 ok34 (laws_toInt64S_c a0.Counit _ hv4) (by kernel_rfl) (.cons (Nat.le_of_ble_eq_true (n := 26) (m := 26) rfl) .nil)) (by kernel_rfl) (by kernel_rfl) ?_
  refine tr_sr hT hm [] [4, 2005, 16003, 16005, 16007, 16009, 16013, 16015, 16017, 16019, 16021, 16023, 24003, 24005, 24007, 24009, 24013, 24015, 24017, 24019, 24021, 24023, 32001, 40001] ([(4, .d (.rp 1002 0)), (2005, .r (.arr 1 [iv v1.Source.Objects, .rs 8001 0 v1.Source.From.length, .rs 8002 0 v1.Source.To.length, .rs 8003 0 v1.Source.Identity.length, .rs 8004 0 v1.Source.Composites.length, iv v1.Target.Objects, .rs 8006 0 v1.Target.From.length, .rs 8007 0 v1.Target.To.length, .rs 8008 0 v1.Target.Identity.length, .rs 8009 0 v1.Target.Composites.length, .rs 8010 0 v1.Objects.length, .rs 8011 0 v1.Arrows.length, iv v2.Source.Objects, .rs 12001 0 v2.Source.From.length, .rs 12002 0 v2.Source.To.length, .rs 12003 0 v2.Source.Identity.length, .rs 12004 0 v2.Source.Composites.length, iv v2.Target.Objects, .rs 12006 0 v2.Target.From.length, .rs 12007 0 v2.Target.To.length, .rs 12008 0 v2.Target.Identity.length, .rs 12009 0 v2.Target.Composites.length, .rs 12010 0 v2.Objects.length, .rs 12011 0 v2.Arrows.length, .rs 16000 0 v3.length, .rs 20000 0 v4.length] [8001, 8002, 8003, 8004, 8006, 8007, 8008, 8009, 8010, 8011, 12001, 12002, 12003, 12004, 12006, 12007, 12008, 12009, 12010, 12011, 16000, 20000]))] ++ rsS 8000 (eXFunctor.o v1) ++ rsS 12000 (eXFunctor.o v2) ++ [(32001, .r (.arr 1 (v3.flatMap eI.o) [])), (40001, .r (.arr 1 (v4.flatMap eI.o) []))]) (.cons (Nat.le_of_ble_eq_true (n := 26) (m := 26) rfl) .nil) (by kernel_rfl) (by kernel_rfl) ?_
  refine tr_ret (rg_r ?_)
  obtain rfl := Option.some.inj hM
  exact retg (names := []) (.cons (lenO_flat eI_ok v1.Source.From) (.cons (lenO_flat eI_ok v1.Source.To) (.cons (lenO_flat eI_ok v1.Source.Identity) (.cons (lenO_flat (eS_ok eI_ok) v1.Source.Composites) (.cons (lenO_flat eI_ok v1.Target.From) (.cons (lenO_flat eI_ok v1.Target.To) (.cons (lenO_flat eI_ok v1.Target.Identity) (.cons (lenO_flat (eS_ok eI_ok) v1.Target.Composites) (.cons (lenO_flat eI_ok v1.Objects) (.cons (lenO_flat eI_ok v1.Arrows) (.cons (lenO_flat eI_ok v2.Source.From) (.cons (lenO_flat eI_ok v2.Source.To) (.cons (lenO_flat eI_ok v2.Source.Identity) (.cons (lenO_flat (eS_ok eI_ok) v2.Source.Composites) (.cons (lenO_flat eI_ok v2.Target.From) (.cons (lenO_flat eI_ok v2.Target.To) (.cons (lenO_flat eI_ok v2.Target.Identity) (.cons (lenO_flat (eS_ok eI_ok) v2.Target.Composites) (.cons (lenO_flat eI_ok v2.Objects) (.cons (lenO_flat eI_ok v2.Arrows) (.cons (lenO_flat eI_ok v3) (.cons (lenO_flat eI_ok v4) .nil)))))))))))))))))))))) (by kernel_rfl)

theorem ok101 : CallOk Try.prog 101 := callOk_of Try.func101 (by kernel_rfl) (by kernel_rfl)
theorem spec_l15Meets_c (a0 : XFunctor) (a1 : XFunctor) (r : Bool) (hM : M.spec_l15Meets a0 a1 = some r) :
    FnC Try.prog 101 [] [.agg (eXFunctor.b a0), .agg (eXFunctor.b a1)] [] (bv r) := by
  refine fnc_startG (N := 17) (np := 500) hT Try.func101 rfl rfl (by kernel_rfl) ?_
  unfold M.spec_l15Meets at hM
  refine tr_start (ks := [0, 2]) (st' := [(0, .d (.agg (eXFunctor.b a0))), (2, .d (.agg (eXFunctor.b a1)))]) (by kernel_rfl) ?_
  refine tr_sr hT hm [] [4, 6, 2005, 2007] [(4, .d (.rp 1002 0)), (6, .d (.rp 1003 0)), bxB 2005 (eXFunctor.b a0), bxB 2007 (eXFunctor.b a1)] .nil (by kernel_rfl) (by kernel_rfl) ?_
  obtain ⟨v1, hv1, hM⟩ := bind_some' hM
  rcases Bool.eq_false_or_eq_true v1 with h2 | h2
  · have hM := ite_true' hM h2
    obtain ⟨v3, hv3, hM⟩ := bind_some' hM
    refine tr_sr hT hm [(4, .call [] [] [.agg (eXCategory.b a0.Target), .agg (eXCategory.b a1.Source)] [] (bv v1)), (5, .val (bv true)), (10, .call [] [] [.agg (eXCategory.b a1.Target), .agg (eXCategory.b a0.Source)] [] (bv v3))] [8] [(8, .d (bv v3))] (cc0 ok88 (spec_l02Same_c a0.Target a1.Source _ hv1) (by kernel_rfl) (.cons (congrArg (fun b => bv b) h2) (cc0 ok88 (spec_l02Same_c a1.Target a0.Source _ hv3) (by kernel_rfl) .nil))) (by kernel_rfl) (by kernel_rfl) ?_
    refine tr_ret (rg_r ?_)
    obtain rfl := Option.some.inj hM
    exact retg (names := []) .nil (by kernel_rfl)
  · have hM := ite_false' hM h2
    refine tr_sr hT hm [(4, .call [] [] [.agg (eXCategory.b a0.Target), .agg (eXCategory.b a1.Source)] [] (bv v1)), (5, .val (bv false))] [8] [(8, .d (bv false))] (cc0 ok88 (spec_l02Same_c a0.Target a1.Source _ hv1) (by kernel_rfl) (.cons (congrArg (fun b => bv b) h2) .nil)) (by kernel_rfl) (by kernel_rfl) ?_
    refine tr_ret (rg_r ?_)
    obtain rfl := Option.some.inj hM
    exact retg (names := []) .nil (by kernel_rfl)

theorem ok53 : CallOk Try.prog 53 := callOk_of Try.func53 (by kernel_rfl) (by kernel_rfl)
theorem spec_l15Is_c (a0 : XAdjunction) (r : Bool) (hM : M.spec_l15Is a0 = some r) :
    FnC Try.prog 53 [] [.agg (eXAdjunction.b a0)] [] (bv r) := by
  refine fnc_startG (N := 109) (np := 500) hT Try.func53 rfl rfl (by kernel_rfl) ?_
  unfold M.spec_l15Is at hM
  refine tr_start (ks := [0]) (st' := [(0, .d (.agg (eXAdjunction.b a0)))]) (by kernel_rfl) ?_
  refine tr_sr hT hm [] [2, 2003] [(2, .d (.rp 1001 0)), bxB 2003 (eXAdjunction.b a0)] .nil (by kernel_rfl) (by kernel_rfl) ?_
  refine tr_sr hT hm [] [2, 6, 8, 2003, 2007, 2009] [(2, .d (.rp 1001 0)), (6, .d (.rp 1003 0)), (8, .d (.rp 1004 0)), bxB 2003 (eXAdjunction.b a0), bxB 2007 (eXFunctor.b a0.Left), bxB 2009 (eXFunctor.b a0.Right)] (.cons (Nat.le_of_ble_eq_true (n := 12) (m := 12) rfl) (.cons (Nat.le_of_ble_eq_true (n := 12) (m := 12) rfl) .nil)) (by kernel_rfl) (by kernel_rfl) ?_
  refine tr_seq ?_
  obtain ⟨v1, hv1, hM⟩ := bind_some' hM
  rcases Bool.eq_false_or_eq_true v1 with h2 | h2
  · have hM := ite_true' hM h2
    obtain ⟨v3, hv3, hM⟩ := bind_some' hM
    rcases Bool.eq_false_or_eq_true v3 with h4 | h4
    · have hM := ite_true' hM h4
      obtain ⟨v5, hv5, hM⟩ := bind_some' hM
      refine tr_sr hT hm [(1, .call [] [] [.agg (eXFunctor.b a0.Left)] [] (bv v1)), (3, .val (bv false)), (5, .call [] [] [.agg (eXFunctor.b a0.Right)] [] (bv v3)), (8, .val (bv false)), (11, .call [] [] [.agg (eXFunctor.b a0.Left), .agg (eXFunctor.b a0.Right)] [] (bv v5))] [2, 6, 8, 52, 2003, 2007, 2009] [(2, .d (.rp 1001 0)), (6, .d (.rp 1003 0)), (8, .d (.rp 1004 0)), (52, .d (bv (!v5))), bxB 2003 (eXAdjunction.b a0), bxB 2007 (eXFunctor.b a0.Left), bxB 2009 (eXFunctor.b a0.Right)] (cc0 ok87 (spec_l06Is_c a0.Left _ hv1) (by kernel_rfl) (.cons (congrArg (fun b => bv b) (congrArg not h2)) (cc0 ok87 (spec_l06Is_c a0.Right _ hv3) (by kernel_rfl) (.cons (congrArg (fun b => bv b) (congrArg not h4)) (cc0 ok101 (spec_l15Meets_c a0.Left a0.Right _ hv5) (by kernel_rfl) .nil))))) (by kernel_rfl) (by kernel_rfl) ?_
      rcases Bool.eq_false_or_eq_true v5 with h6 | h6
      · have hM := ite_true' hM h6
        refine tr_condFe (e := !v5) (congrArg not h6) (by kernel_rfl) ?_
        refine tr_skip (q_n ?_)
        refine tr_sr hT hm [] [2, 6, 8, 10, 12, 2003, 2007, 2009, 2011, 2013] [(2, .d (.rp 1001 0)), (6, .d (.rp 1003 0)), (8, .d (.rp 1004 0)), (10, .d (.rp 1005 0)), (12, .d (.rp 1006 0)), bxB 2003 (eXAdjunction.b a0), bxB 2007 (eXFunctor.b a0.Left), bxB 2009 (eXFunctor.b a0.Right), bxB 2011 (eXCategory.b a0.Left.Source), bxB 2013 (eXCategory.b a0.Left.Target)] (.cons (Nat.le_of_ble_eq_true (n := 5) (m := 5) rfl) (.cons (Nat.le_of_ble_eq_true (n := 5) (m := 5) rfl) .nil)) (by kernel_rfl) (by kernel_rfl) ?_
        refine tr_seq ?_
        obtain ⟨v7, hv7, hM⟩ := bind_some' hM
        obtain ⟨v8, hv8, hM⟩ := bind_some' hM
        obtain ⟨v9, hv9, hM⟩ := bind_some' hM
        rcases Bool.eq_false_or_eq_true v9 with h10 | h10
        · have hM := ite_true' hM h10
          obtain ⟨v11, hv11, hM⟩ := bind_some' hM
          obtain ⟨v12, hv12, hM⟩ := bind_some' hM
          obtain ⟨v13, hv13, hM⟩ := bind_some' hM
          refine tr_sr hT hm [(1, .call [] [] [.agg (eXCategory.b a0.Left.Source)] [] (.agg (eXFunctor.o v7))), (4, .call [] [] [.agg (eXFunctor.b a0.Left), .agg (eXFunctor.b a0.Right)] [] (.agg (eXFunctor.o v8))), (7, .call (rsR 34000 (eXFunctor.o v7) ++ rsR 37000 (eXFunctor.o v8)) [] [.agg (eXFunctor.b v7), .agg (eXFunctor.b v8), .sl a0.Unit.length 0 (a0.Unit.flatMap eI.b)] [] (bv v9)), (9, .val (bv false)), (12, .call [] [] [.agg (eXFunctor.b a0.Right), .agg (eXFunctor.b a0.Left)] [] (.agg (eXFunctor.o v11))), (14, .call [] [] [.agg (eXCategory.b a0.Left.Target)] [] (.agg (eXFunctor.o v12))), (17, .call (rsR 45000 (eXFunctor.o v11) ++ rsR 47000 (eXFunctor.o v12)) [] [.agg (eXFunctor.b v11), .agg (eXFunctor.b v12), .sl a0.Counit.length 0 (a0.Counit.flatMap eI.b)] [] (bv v13))] [2, 6, 8, 10, 12, 100, 2003, 2007, 2009, 2011, 2013] [(2, .d (.rp 1001 0)), (6, .d (.rp 1003 0)), (8, .d (.rp 1004 0)), (10, .d (.rp 1005 0)), (12, .d (.rp 1006 0)), (100, .d (bv (!v13))), bxB 2003 (eXAdjunction.b a0), bxB 2007 (eXFunctor.b a0.Left), bxB 2009 (eXFunctor.b a0.Right), bxB 2011 (eXCategory.b a0.Left.Source), bxB 2013 (eXCategory.b a0.Left.Target)] (cc0 ok90 (spec_l06Self_c a0.Left.Source _ hv7) (by kernel_rfl) (cc0 ok102 (spec_l06Then_c a0.Left a0.Right _ hv8) (by kernel_rfl) (cc (B := (rsR 34000 (eXFunctor.o v7) ++ rsR 37000 (eXFunctor.o v8))) (ρ := []) (rB := (rsP 34000 (eXFunctor.o v7) ++ rsP 37000 (eXFunctor.o v8))) ok89 (spec_l15Natural_c v7 v8 a0.Unit _ hv9) (.cons (bor_rs eXFunctor_r (q := 34000) (x := v7) (by kernel_rfl) (by kernel_rfl)) (.cons (bor_rs eXFunctor_r (q := 37000) (x := v8) (by kernel_rfl) (by kernel_rfl)) (.cons (.same rfl) .nil))) (.inr ⟨.v, trivial⟩) (.cons (congrArg (fun b => bv b) (congrArg not h10)) (cc0 ok102 (spec_l06Then_c a0.Right a0.Left _ hv11) (by kernel_rfl) (cc0 ok90 (spec_l06Self_c a0.Left.Target _ hv12) (by kernel_rfl) (cc (B := (rsR 45000 (eXFunctor.o v11) ++ rsR 47000 (eXFunctor.o v12))) (ρ := []) (rB := (rsP 45000 (eXFunctor.o v11) ++ rsP 47000 (eXFunctor.o v12))) ok89 (spec_l15Natural_c v11 v12 a0.Counit _ hv13) (.cons (bor_rs eXFunctor_r (q := 45000) (x := v11) (by kernel_rfl) (by kernel_rfl)) (.cons (bor_rs eXFunctor_r (q := 47000) (x := v12) (by kernel_rfl) (by kernel_rfl)) (.cons (.same rfl) .nil))) (.inr ⟨.v, trivial⟩) .nil))))))) (by kernel_rfl) (by kernel_rfl) ?_
          rcases Bool.eq_false_or_eq_true v13 with h14 | h14
          · have hM := ite_true' hM h14
            refine tr_condFe (e := !v13) (congrArg not h14) (by kernel_rfl) ?_
            refine tr_skip (q_n ?_)
            refine tr_seq ?_
            refine tr_sr hT hm [] [2, 6, 8, 10, 12, 14, 2003, 2007, 2009, 2011, 2013] [(2, .d (.rp 1001 0)), (6, .d (.rp 1003 0)), (8, .d (.rp 1004 0)), (10, .d (.rp 1005 0)), (12, .d (.rp 1006 0)), (14, .d (iv 0)), bxB 2003 (eXAdjunction.b a0), bxB 2007 (eXFunctor.b a0.Left), bxB 2009 (eXFunctor.b a0.Right), bxB 2011 (eXCategory.b a0.Left.Source), bxB 2013 (eXCategory.b a0.Left.Target)] .nil (by kernel_rfl) (by kernel_rfl) ?_
            refine tr_block ?_
            refine tr_iterS (fun (s15 : Int) => [(2, .d (.rp 1001 0)), (6, .d (.rp 1003 0)), (8, .d (.rp 1004 0)), (10, .d (.rp 1005 0)), (12, .d (.rp 1006 0)), (14, .d (iv s15)), bxB 2003 (eXAdjunction.b a0), bxB 2007 (eXFunctor.b a0.Left), bxB 2009 (eXFunctor.b a0.Right), bxB 2011 (eXCategory.b a0.Left.Source), bxB 2013 (eXCategory.b a0.Left.Target)]) 0 [2, 6, 8, 10, 12, 14, 2003, 2007, 2009, 2011, 2013] (by kernel_rfl) hM ?_
            intro n18 next16 ih17 s15 hM
            refine tr_seq ?_
            refine tr_sr hT hm [] [2, 6, 8, 10, 12, 14, 108, 2003, 2007, 2009, 2011, 2013] [(2, .d (.rp 1001 0)), (6, .d (.rp 1003 0)), (8, .d (.rp 1004 0)), (10, .d (.rp 1005 0)), (12, .d (.rp 1006 0)), (14, .d (iv s15)), (108, .d (bv (decide (s15 < a0.Left.Source.Objects)))), bxB 2003 (eXAdjunction.b a0), bxB 2007 (eXFunctor.b a0.Left), bxB 2009 (eXFunctor.b a0.Right), bxB 2011 (eXCategory.b a0.Left.Source), bxB 2013 (eXCategory.b a0.Left.Target)] .nil (by kernel_rfl) (by kernel_rfl) ?_
            rcases Bool.eq_false_or_eq_true (decide (s15 < a0.Left.Source.Objects)) with h19 | h19
            · have hM := ite_true' hM h19
              refine tr_condTe (e := decide (s15 < a0.Left.Source.Objects)) h19 (by kernel_rfl) ?_
              refine tr_skip (q_n ?_)
              refine tr_seq ?_
              refine tr_block ?_
              obtain ⟨y20, hy20, hM⟩ := bind_some' hM
              have hy20' := idx_some hy20
              obtain ⟨y21, hy21, hM⟩ := bind_some' hM
              have hy21' := idx_some hy21
              obtain ⟨y22, hy22, hM⟩ := bind_some' hM
              have hy22' := idx_some hy22
              obtain ⟨y23, hy23, hM⟩ := bind_some' hM
              have hy23' := idx_some hy23
              obtain ⟨v24, hv24, hM⟩ := bind_some' hM
              obtain ⟨v25, hv25, hM⟩ := bind_some' hM
              refine tr_sr hT hm [(8, .val (iv y20)), (10, .val (iv y21)), (17, .val (iv y22)), (19, .val (iv y23)), (20, .call [] [] [.agg (eXCategory.b a0.Left.Target), iv y21, iv y23] [] (iv v24)), (21, .call [] [] [.agg (eXCategory.b a0.Left.Target), iv v24] [] (bv v25))] [2, 6, 8, 10, 12, 14, 158, 2003, 2007, 2009, 2011, 2013] [(2, .d (.rp 1001 0)), (6, .d (.rp 1003 0)), (8, .d (.rp 1004 0)), (10, .d (.rp 1005 0)), (12, .d (.rp 1006 0)), (14, .d (iv s15)), (158, .d (bv (!v25))), bxB 2003 (eXAdjunction.b a0), bxB 2007 (eXFunctor.b a0.Left), bxB 2009 (eXFunctor.b a0.Right), bxB 2011 (eXCategory.b a0.Left.Source), bxB 2013 (eXCategory.b a0.Left.Target)] (.cons hy20'.1 (.cons hy20'.2.1 (.cons (at_b0 eI_ok hy20'.2.2 (d := iv y20) (by kernel_rfl)) (.cons hy21'.1 (.cons hy21'.2.1 (.cons (at_b0 eI_ok hy21'.2.2 (d := iv y21) (by kernel_rfl)) (.cons hy22'.1 (.cons hy22'.2.1 (.cons (at_b0 eI_ok hy22'.2.2 (d := iv y22) (by kernel_rfl)) (.cons hy23'.1 (.cons hy23'.2.1 (.cons (at_b0 eI_ok hy23'.2.2 (d := iv y23) (by kernel_rfl)) (cc0 ok68 (spec_l02Then_c a0.Left.Target y21 y23 _ hv24) (by kernel_rfl) (cc0 ok103 (spec_l02Unit_c a0.Left.Target v24 _ hv25) (by kernel_rfl) .nil)))))))))))))) (by kernel_rfl) (by kernel_rfl) ?_
              rcases Bool.eq_false_or_eq_true v25 with h26 | h26
              · have hM := ite_true' hM h26
                refine tr_condFe (e := !v25) (congrArg not h26) (by kernel_rfl) ?_
                refine tr_skip (b_n (q_n ?_))
                refine tr_r hT hm [] [2, 6, 8, 10, 12, 14, 2003, 2007, 2009, 2011, 2013] [(2, .d (.rp 1001 0)), (6, .d (.rp 1003 0)), (8, .d (.rp 1004 0)), (10, .d (.rp 1005 0)), (12, .d (.rp 1006 0)), (14, .d (iv (IntKind.i64.wrap (s15 + 1)))), bxB 2003 (eXAdjunction.b a0), bxB 2007 (eXFunctor.b a0.Left), bxB 2009 (eXFunctor.b a0.Right), bxB 2011 (eXCategory.b a0.Left.Source), bxB 2013 (eXCategory.b a0.Left.Target)] .nil (by kernel_rfl) (by kernel_rfl) (l_n ?_)
                exact trl_start (ks := [2, 6, 8, 10, 12, 14, 2003, 2007, 2009, 2011, 2013]) (by kernel_rfl) (ih17 (IntKind.i64.wrap (s15 + 1)) hM)
              · have hM := ite_false' hM h26
                refine tr_condTe (e := !v25) (congrArg not h26) (by kernel_rfl) ?_
                refine tr_sr hT hm [] [4] [(4, .d (bv false))] .nil (by kernel_rfl) (by kernel_rfl) ?_
                refine tr_ret (b_r (q_r (l_r (b_r (q_r (rg_r ?_))))))
                obtain rfl := Option.some.inj hM
                exact retg (names := []) .nil (by kernel_rfl)
            · have hM := ite_false' hM h19
              refine tr_condFe (e := decide (s15 < a0.Left.Source.Objects)) h19 (by kernel_rfl) ?_
              refine tr_exit (q_x (l_x (b_h (q_n ?_))))
              refine tr_seq ?_
              refine tr_sr hT hm [] [2, 8, 10, 12, 16, 2003, 2009, 2011, 2013] [(2, .d (.rp 1001 0)), (8, .d (.rp 1004 0)), (10, .d (.rp 1005 0)), (12, .d (.rp 1006 0)), (16, .d (iv 0)), bxB 2003 (eXAdjunction.b a0), bxB 2009 (eXFunctor.b a0.Right), bxB 2011 (eXCategory.b a0.Left.Source), bxB 2013 (eXCategory.b a0.Left.Target)] .nil (by kernel_rfl) (by kernel_rfl) ?_
              refine tr_block ?_
              refine tr_iterS (fun (s27 : Int) => [(2, .d (.rp 1001 0)), (8, .d (.rp 1004 0)), (10, .d (.rp 1005 0)), (12, .d (.rp 1006 0)), (16, .d (iv s27)), bxB 2003 (eXAdjunction.b a0), bxB 2009 (eXFunctor.b a0.Right), bxB 2011 (eXCategory.b a0.Left.Source), bxB 2013 (eXCategory.b a0.Left.Target)]) 0 [2, 8, 10, 12, 16, 2003, 2009, 2011, 2013] (by kernel_rfl) hM ?_
              intro n30 next28 ih29 s27 hM
              refine tr_seq ?_
              refine tr_sr hT hm [] [2, 8, 10, 12, 16, 166, 2003, 2009, 2011, 2013] [(2, .d (.rp 1001 0)), (8, .d (.rp 1004 0)), (10, .d (.rp 1005 0)), (12, .d (.rp 1006 0)), (16, .d (iv s27)), (166, .d (bv (decide (s27 < a0.Left.Target.Objects)))), bxB 2003 (eXAdjunction.b a0), bxB 2009 (eXFunctor.b a0.Right), bxB 2011 (eXCategory.b a0.Left.Source), bxB 2013 (eXCategory.b a0.Left.Target)] .nil (by kernel_rfl) (by kernel_rfl) ?_
              rcases Bool.eq_false_or_eq_true (decide (s27 < a0.Left.Target.Objects)) with h31 | h31
              · have hM := ite_true' hM h31
                refine tr_condTe (e := decide (s27 < a0.Left.Target.Objects)) h31 (by kernel_rfl) ?_
                refine tr_skip (q_n ?_)
                refine tr_seq ?_
                refine tr_block ?_
                obtain ⟨y32, hy32, hM⟩ := bind_some' hM
                have hy32' := idx_some hy32
                obtain ⟨y33, hy33, hM⟩ := bind_some' hM
                have hy33' := idx_some hy33
                obtain ⟨y34, hy34, hM⟩ := bind_some' hM
                have hy34' := idx_some hy34
                obtain ⟨y35, hy35, hM⟩ := bind_some' hM
                have hy35' := idx_some hy35
                obtain ⟨v36, hv36, hM⟩ := bind_some' hM
                obtain ⟨v37, hv37, hM⟩ := bind_some' hM
                refine tr_sr hT hm [(8, .val (iv y32)), (10, .val (iv y33)), (17, .val (iv y34)), (19, .val (iv y35)), (20, .call [] [] [.agg (eXCategory.b a0.Left.Source), iv y33, iv y35] [] (iv v36)), (21, .call [] [] [.agg (eXCategory.b a0.Left.Source), iv v36] [] (bv v37))] [2, 8, 10, 12, 16, 216, 2003, 2009, 2011, 2013] [(2, .d (.rp 1001 0)), (8, .d (.rp 1004 0)), (10, .d (.rp 1005 0)), (12, .d (.rp 1006 0)), (16, .d (iv s27)), (216, .d (bv (!v37))), bxB 2003 (eXAdjunction.b a0), bxB 2009 (eXFunctor.b a0.Right), bxB 2011 (eXCategory.b a0.Left.Source), bxB 2013 (eXCategory.b a0.Left.Target)] (.cons hy32'.1 (.cons hy32'.2.1 (.cons (at_b0 eI_ok hy32'.2.2 (d := iv y32) (by kernel_rfl)) (.cons hy33'.1 (.cons hy33'.2.1 (.cons (at_b0 eI_ok hy33'.2.2 (d := iv y33) (by kernel_rfl)) (.cons hy34'.1 (.cons hy34'.2.1 (.cons (at_b0 eI_ok hy34'.2.2 (d := iv y34) (by kernel_rfl)) (.cons hy35'.1 (.cons hy35'.2.1 (.cons (at_b0 eI_ok hy35'.2.2 (d := iv y35) (by kernel_rfl)) (cc0 ok68 (spec_l02Then_c a0.Left.Source y33 y35 _ hv36) (by kernel_rfl) (cc0 ok103 (spec_l02Unit_c a0.Left.Source v36 _ hv37) (by kernel_rfl) .nil)))))))))))))) (by kernel_rfl) (by kernel_rfl) ?_
                rcases Bool.eq_false_or_eq_true v37 with h38 | h38
                · have hM := ite_true' hM h38
                  refine tr_condFe (e := !v37) (congrArg not h38) (by kernel_rfl) ?_
                  refine tr_skip (b_n (q_n ?_))
                  refine tr_r hT hm [] [2, 8, 10, 12, 16, 2003, 2009, 2011, 2013] [(2, .d (.rp 1001 0)), (8, .d (.rp 1004 0)), (10, .d (.rp 1005 0)), (12, .d (.rp 1006 0)), (16, .d (iv (IntKind.i64.wrap (s27 + 1)))), bxB 2003 (eXAdjunction.b a0), bxB 2009 (eXFunctor.b a0.Right), bxB 2011 (eXCategory.b a0.Left.Source), bxB 2013 (eXCategory.b a0.Left.Target)] .nil (by kernel_rfl) (by kernel_rfl) (l_n ?_)
                  exact trl_start (ks := [2, 8, 10, 12, 16, 2003, 2009, 2011, 2013]) (by kernel_rfl) (ih29 (IntKind.i64.wrap (s27 + 1)) hM)
                · have hM := ite_false' hM h38
                  refine tr_condTe (e := !v37) (congrArg not h38) (by kernel_rfl) ?_
                  refine tr_sr hT hm [] [4] [(4, .d (bv false))] .nil (by kernel_rfl) (by kernel_rfl) ?_
                  refine tr_ret (b_r (q_r (l_r (b_r (q_r (rg_r ?_))))))
                  obtain rfl := Option.some.inj hM
                  exact retg (names := []) .nil (by kernel_rfl)
              · have hM := ite_false' hM h31
                refine tr_condFe (e := decide (s27 < a0.Left.Target.Objects)) h31 (by kernel_rfl) ?_
                refine tr_exit (q_x (l_x (b_h (q_n ?_))))
                refine tr_sr hT hm [] [4] [(4, .d (bv true))] .nil (by kernel_rfl) (by kernel_rfl) ?_
                refine tr_ret (rg_r ?_)
                obtain rfl := Option.some.inj hM
                exact retg (names := []) .nil (by kernel_rfl)
          · have hM := ite_false' hM h14
            refine tr_condTe (e := !v13) (congrArg not h14) (by kernel_rfl) ?_
            refine tr_sr hT hm [] [4] [(4, .d (bv false))] .nil (by kernel_rfl) (by kernel_rfl) ?_
            refine tr_ret (q_r (rg_r ?_))
            obtain rfl := Option.some.inj hM
            exact retg (names := []) .nil (by kernel_rfl)
        · have hM := ite_false' hM h10
          refine tr_sr hT hm [(1, .call [] [] [.agg (eXCategory.b a0.Left.Source)] [] (.agg (eXFunctor.o v7))), (4, .call [] [] [.agg (eXFunctor.b a0.Left), .agg (eXFunctor.b a0.Right)] [] (.agg (eXFunctor.o v8))), (7, .call (rsR 34000 (eXFunctor.o v7) ++ rsR 37000 (eXFunctor.o v8)) [] [.agg (eXFunctor.b v7), .agg (eXFunctor.b v8), .sl a0.Unit.length 0 (a0.Unit.flatMap eI.b)] [] (bv v9)), (9, .val (bv true))] [2, 6, 8, 10, 12, 100, 2003, 2007, 2009, 2011, 2013] [(2, .d (.rp 1001 0)), (6, .d (.rp 1003 0)), (8, .d (.rp 1004 0)), (10, .d (.rp 1005 0)), (12, .d (.rp 1006 0)), (100, .d (bv true)), bxB 2003 (eXAdjunction.b a0), bxB 2007 (eXFunctor.b a0.Left), bxB 2009 (eXFunctor.b a0.Right), bxB 2011 (eXCategory.b a0.Left.Source), bxB 2013 (eXCategory.b a0.Left.Target)] (cc0 ok90 (spec_l06Self_c a0.Left.Source _ hv7) (by kernel_rfl) (cc0 ok102 (spec_l06Then_c a0.Left a0.Right _ hv8) (by kernel_rfl) (cc (B := (rsR 34000 (eXFunctor.o v7) ++ rsR 37000 (eXFunctor.o v8))) (ρ := []) (rB := (rsP 34000 (eXFunctor.o v7) ++ rsP 37000 (eXFunctor.o v8))) ok89 (spec_l15Natural_c v7 v8 a0.Unit _ hv9) (.cons (bor_rs eXFunctor_r (q := 34000) (x := v7) (by kernel_rfl) (by kernel_rfl)) (.cons (bor_rs eXFunctor_r (q := 37000) (x := v8) (by kernel_rfl) (by kernel_rfl)) (.cons (.same rfl) .nil))) (.inr ⟨.v, trivial⟩) (.cons (congrArg (fun b => bv b) (congrArg not h10)) .nil)))) (by kernel_rfl) (by kernel_rfl) ?_
          refine tr_condT (by kernel_rfl) ?_
          refine tr_sr hT hm [] [4] [(4, .d (bv false))] .nil (by kernel_rfl) (by kernel_rfl) ?_
          refine tr_ret (q_r (rg_r ?_))
          obtain rfl := Option.some.inj hM
          exact retg (names := []) .nil (by kernel_rfl)
      · have hM := ite_false' hM h6
        refine tr_condTe (e := !v5) (congrArg not h6) (by kernel_rfl) ?_
        refine tr_sr hT hm [] [4] [(4, .d (bv false))] .nil (by kernel_rfl) (by kernel_rfl) ?_
        refine tr_ret (q_r (rg_r ?_))
        obtain rfl := Option.some.inj hM
        exact retg (names := []) .nil (by kernel_rfl)
    · have hM := ite_false' hM h4
      refine tr_sr hT hm [(1, .call [] [] [.agg (eXFunctor.b a0.Left)] [] (bv v1)), (3, .val (bv false)), (5, .call [] [] [.agg (eXFunctor.b a0.Right)] [] (bv v3)), (8, .val (bv true))] [2, 6, 8, 52, 2003, 2007, 2009] [(2, .d (.rp 1001 0)), (6, .d (.rp 1003 0)), (8, .d (.rp 1004 0)), (52, .d (bv true)), bxB 2003 (eXAdjunction.b a0), bxB 2007 (eXFunctor.b a0.Left), bxB 2009 (eXFunctor.b a0.Right)] (cc0 ok87 (spec_l06Is_c a0.Left _ hv1) (by kernel_rfl) (.cons (congrArg (fun b => bv b) (congrArg not h2)) (cc0 ok87 (spec_l06Is_c a0.Right _ hv3) (by kernel_rfl) (.cons (congrArg (fun b => bv b) (congrArg not h4)) .nil)))) (by kernel_rfl) (by kernel_rfl) ?_
      refine tr_condT (by kernel_rfl) ?_
      refine tr_sr hT hm [] [4] [(4, .d (bv false))] .nil (by kernel_rfl) (by kernel_rfl) ?_
      refine tr_ret (q_r (rg_r ?_))
      obtain rfl := Option.some.inj hM
      exact retg (names := []) .nil (by kernel_rfl)
  · have hM := ite_false' hM h2
    refine tr_sr hT hm [(1, .call [] [] [.agg (eXFunctor.b a0.Left)] [] (bv v1)), (3, .val (bv true))] [2, 6, 8, 52, 2003, 2007, 2009] [(2, .d (.rp 1001 0)), (6, .d (.rp 1003 0)), (8, .d (.rp 1004 0)), (52, .d (bv true)), bxB 2003 (eXAdjunction.b a0), bxB 2007 (eXFunctor.b a0.Left), bxB 2009 (eXFunctor.b a0.Right)] (cc0 ok87 (spec_l06Is_c a0.Left _ hv1) (by kernel_rfl) (.cons (congrArg (fun b => bv b) (congrArg not h2)) .nil)) (by kernel_rfl) (by kernel_rfl) ?_
    refine tr_condT (by kernel_rfl) ?_
    refine tr_sr hT hm [] [4] [(4, .d (bv false))] .nil (by kernel_rfl) (by kernel_rfl) ?_
    refine tr_ret (q_r (rg_r ?_))
    obtain rfl := Option.some.inj hM
    exact retg (names := []) .nil (by kernel_rfl)

theorem ok105 : CallOk Try.prog 105 := callOk_of Try.func105 (by kernel_rfl) (by kernel_rfl)
theorem impl_leadBack_c (a0 : XFunctor) (a1 : XFunctor) (r : Bool) (hM : M.impl_leadBack a0 a1 = some r) :
    FnC Try.prog 105 [] [.pt (eXFunctor.b a0) 0, .pt (eXFunctor.b a1) 0] [] (bv r) := by
  refine fnc_startG (N := 21) (np := 500) hT Try.func105 rfl rfl (by kernel_rfl) ?_
  unfold M.impl_leadBack at hM
  refine tr_start (ks := [0, 2]) (st' := [(0, .d (.pt (eXFunctor.b a0) 0)), (2, .d (.pt (eXFunctor.b a1) 0))]) (by kernel_rfl) ?_
  refine tr_sr hT hm [] [0, 2] [(0, .d (.pt (eXFunctor.b a0) 0)), (2, .d (.pt (eXFunctor.b a1) 0))] .nil (by kernel_rfl) (by kernel_rfl) ?_
  obtain ⟨v1, hv1, hM⟩ := bind_some' hM
  rcases Bool.eq_false_or_eq_true v1 with h2 | h2
  · have hM := ite_true' hM h2
    obtain ⟨v3, hv3, hM⟩ := bind_some' hM
    refine tr_sr hT hm [(6, .call [] [] [.pt (eXCategory.b a0.Source) 0, .pt (eXCategory.b a1.Target) 0] [] (bv v1)), (7, .val (bv true)), (14, .call [] [] [.pt (eXCategory.b a0.Target) 0, .pt (eXCategory.b a1.Source) 0] [] (bv v3))] [8] [(8, .d (bv v3))] (cc (B := []) (ρ := []) (rB := []) ok95 (impl_sameCategory_c a0.Source a1.Target _ hv1) (.cons (.pass (.ptk (ds := eXFunctor.b a0) (ds' := eXCategory.b a0.Source) (off := 0) (n := 5) (by kernel_rfl) (by kernel_rfl) (by kernel_rfl))) (.cons (.pass (.ptk (ds := eXFunctor.b a1) (ds' := eXCategory.b a1.Target) (off := 5) (n := 5) (by kernel_rfl) (by kernel_rfl) (by kernel_rfl))) .nil)) (.inl rfl) (.cons (congrArg (fun b => bv b) h2) (cc (B := []) (ρ := []) (rB := []) ok95 (impl_sameCategory_c a0.Target a1.Source _ hv3) (.cons (.pass (.ptk (ds := eXFunctor.b a0) (ds' := eXCategory.b a0.Target) (off := 5) (n := 5) (by kernel_rfl) (by kernel_rfl) (by kernel_rfl))) (.cons (.pass (.ptk (ds := eXFunctor.b a1) (ds' := eXCategory.b a1.Source) (off := 0) (n := 5) (by kernel_rfl) (by kernel_rfl) (by kernel_rfl))) .nil)) (.inl rfl) .nil))) (by kernel_rfl) (by kernel_rfl) ?_
    refine tr_ret (rg_r ?_)
    obtain rfl := Option.some.inj hM
    exact retg (names := []) .nil (by kernel_rfl)
  · have hM := ite_false' hM h2
    refine tr_sr hT hm [(6, .call [] [] [.pt (eXCategory.b a0.Source) 0, .pt (eXCategory.b a1.Target) 0] [] (bv v1)), (7, .val (bv false))] [8] [(8, .d (bv false))] (cc (B := []) (ρ := []) (rB := []) ok95 (impl_sameCategory_c a0.Source a1.Target _ hv1) (.cons (.pass (.ptk (ds := eXFunctor.b a0) (ds' := eXCategory.b a0.Source) (off := 0) (n := 5) (by kernel_rfl) (by kernel_rfl) (by kernel_rfl))) (.cons (.pass (.ptk (ds := eXFunctor.b a1) (ds' := eXCategory.b a1.Target) (off := 5) (n := 5) (by kernel_rfl) (by kernel_rfl) (by kernel_rfl))) .nil)) (.inl rfl) (.cons (congrArg (fun b => bv b) h2) .nil)) (by kernel_rfl) (by kernel_rfl) ?_
    refine tr_ret (rg_r ?_)
    obtain rfl := Option.some.inj hM
    exact retg (names := []) .nil (by kernel_rfl)

theorem ok106 : CallOk Try.prog 106 := callOk_of Try.func106 (by kernel_rfl) (by kernel_rfl)
theorem impl_Adjunction_fits_c (a0 : XAdjunction) (r : Bool) (hM : M.impl_Adjunction_fits a0 = some r) :
    FnC Try.prog 106 [] [.pt (eXAdjunction.b a0) 0] [] (bv r) := by
  refine fnc_startG (N := 144) (np := 500) hT Try.func106 rfl rfl (by kernel_rfl) ?_
  unfold M.impl_Adjunction_fits at hM
  refine tr_start (ks := [0]) (st' := [(0, .d (.pt (eXAdjunction.b a0) 0))]) (by kernel_rfl) ?_
  refine tr_sr hT hm [] [0] [(0, .d (.pt (eXAdjunction.b a0) 0))] .nil (by kernel_rfl) (by kernel_rfl) ?_
  refine tr_sr hT hm [] [0, 6, 8] [(0, .d (.pt (eXAdjunction.b a0) 0)), (6, .d (.pt (eXAdjunction.b a0) 0)), (8, .d (.pt (eXAdjunction.b a0) 5))] .nil (by kernel_rfl) (by kernel_rfl) ?_
  obtain ⟨v1, hv1, hM⟩ := bind_some' hM
  obtain ⟨v2, hv2, hM⟩ := bind_some' hM
  refine tr_sr hT hm [(6, .call [] [] [.pt (eXFunctor.b a0.Left) 0, .pt (eXFunctor.b a0.Right) 0] [] (.agg (eXFunctor.o v1))), (13, .call [] [] [.pt (eXFunctor.b a0.Right) 0, .pt (eXFunctor.b a0.Left) 0] [] (.agg (eXFunctor.o v2)))] [0, 6, 8, 10, 12, 2011, 2013, 62003, 62005, 62007, 62009, 62013, 62015, 62017, 62019, 62021, 62023, 76003, 76005, 76007, 76009, 76013, 76015, 76017, 76019, 76021, 76023] ([(0, .d (.pt (eXAdjunction.b a0) 0)), (6, .d (.pt (eXAdjunction.b a0) 0)), (8, .d (.pt (eXAdjunction.b a0) 5)), (10, .d (.rp 1005 0)), (12, .d (.rp 1006 0)), bxO 2011 31000 (eXFunctor.o v1), bxO 2013 38000 (eXFunctor.o v2)] ++ rsS 31000 (eXFunctor.o v1) ++ rsS 38000 (eXFunctor.o v2)) (cc (B := []) (ρ := []) (rB := []) ok97 (impl_Functor_then_c a0.Left a0.Right _ hv1) (.cons (.pass (.ptk (ds := eXAdjunction.b a0) (ds' := eXFunctor.b a0.Left) (off := 0) (n := 12) (by kernel_rfl) (by kernel_rfl) (by kernel_rfl))) (.cons (.pass (.ptk (ds := eXAdjunction.b a0) (ds' := eXFunctor.b a0.Right) (off := 12) (n := 12) (by kernel_rfl) (by kernel_rfl) (by kernel_rfl))) .nil)) (.inl rfl) (cc (B := []) (ρ := []) (rB := []) ok97 (impl_Functor_then_c a0.Right a0.Left _ hv2) (.cons (.pass (.ptk (ds := eXAdjunction.b a0) (ds' := eXFunctor.b a0.Right) (off := 12) (n := 12) (by kernel_rfl) (by kernel_rfl) (by kernel_rfl))) (.cons (.pass (.ptk (ds := eXAdjunction.b a0) (ds' := eXFunctor.b a0.Left) (off := 0) (n := 12) (by kernel_rfl) (by kernel_rfl) (by kernel_rfl))) .nil)) (.inl rfl) (.cons (Nat.le_of_ble_eq_true (n := 12) (m := 12) rfl) (.cons (Nat.le_of_ble_eq_true (n := 12) (m := 12) rfl) .nil)))) (by kernel_rfl) (by kernel_rfl) ?_
  obtain ⟨v3, hv3, hM⟩ := bind_some' hM
  obtain ⟨v4, hv4, hM⟩ := bind_some' hM
  refine tr_sr hT hm [(1, .call [] [] [.pt (eXCategory.b a0.Left.Source) 0] [] (.agg (eXFunctor.o v3))), (3, .call [] [] [.pt (eXCategory.b a0.Left.Target) 0] [] (.agg (eXFunctor.o v4)))] [0, 6, 8, 10, 12, 14, 16, 2011, 2013, 2015, 2017, 62003, 62005, 62007, 62009, 62013, 62015, 62017, 62019, 62021, 62023, 76003, 76005, 76007, 76009, 76013, 76015, 76017, 76019, 76021, 76023, 80003, 80005, 80007, 80009, 80013, 80015, 80017, 80019, 80021, 80023, 84003, 84005, 84007, 84009, 84013, 84015, 84017, 84019, 84021, 84023] ([(0, .d (.pt (eXAdjunction.b a0) 0)), (6, .d (.pt (eXAdjunction.b a0) 0)), (8, .d (.pt (eXAdjunction.b a0) 5)), (10, .d (.rp 1005 0)), (12, .d (.rp 1006 0)), (14, .d (.rp 1007 0)), (16, .d (.rp 1008 0)), bxO 2011 31000 (eXFunctor.o v1), bxO 2013 38000 (eXFunctor.o v2), bxO 2015 40000 (eXFunctor.o v3), bxO 2017 42000 (eXFunctor.o v4)] ++ rsS 31000 (eXFunctor.o v1) ++ rsS 38000 (eXFunctor.o v2) ++ rsS 40000 (eXFunctor.o v3) ++ rsS 42000 (eXFunctor.o v4)) (cc (B := []) (ρ := []) (rB := []) ok96 (impl_identity_c a0.Left.Source _ hv3) (.cons (.pass (.ptk (ds := eXAdjunction.b a0) (ds' := eXCategory.b a0.Left.Source) (off := 0) (n := 5) (by kernel_rfl) (by kernel_rfl) (by kernel_rfl))) .nil) (.inl rfl) (cc (B := []) (ρ := []) (rB := []) ok96 (impl_identity_c a0.Left.Target _ hv4) (.cons (.pass (.ptk (ds := eXAdjunction.b a0) (ds' := eXCategory.b a0.Left.Target) (off := 5) (n := 5) (by kernel_rfl) (by kernel_rfl) (by kernel_rfl))) .nil) (.inl rfl) (.cons (Nat.le_of_ble_eq_true (n := 12) (m := 12) rfl) (.cons (Nat.le_of_ble_eq_true (n := 12) (m := 12) rfl) .nil)))) (by kernel_rfl) (by kernel_rfl) ?_
  refine tr_sr hT hm [] [0, 6, 8, 12, 16, 18, 2013, 2017, 2019, 62003, 62005, 62007, 62009, 62013, 62015, 62017, 62019, 62021, 62023, 76003, 76005, 76007, 76009, 76013, 76015, 76017, 76019, 76021, 76023, 80003, 80005, 80007, 80009, 80013, 80015, 80017, 80019, 80021, 80023, 84003, 84005, 84007, 84009, 84013, 84015, 84017, 84019, 84021, 84023] ([(0, .d (.pt (eXAdjunction.b a0) 0)), (6, .d (.pt (eXAdjunction.b a0) 0)), (8, .d (.pt (eXAdjunction.b a0) 5)), (12, .d (.rp 1006 0)), (16, .d (.rp 1008 0)), (18, .d (.rp 1009 0)), bxO 2013 38000 (eXFunctor.o v2), bxO 2017 42000 (eXFunctor.o v4), (2019, .r (.arr 1 [iv v3.Source.Objects, .rs 40001 0 v3.Source.From.length, .rs 40002 0 v3.Source.To.length, .rs 40003 0 v3.Source.Identity.length, .rs 40004 0 v3.Source.Composites.length, iv v3.Target.Objects, .rs 40006 0 v3.Target.From.length, .rs 40007 0 v3.Target.To.length, .rs 40008 0 v3.Target.Identity.length, .rs 40009 0 v3.Target.Composites.length, .rs 40010 0 v3.Objects.length, .rs 40011 0 v3.Arrows.length, iv v1.Source.Objects, .rs 31001 0 v1.Source.From.length, .rs 31002 0 v1.Source.To.length, .rs 31003 0 v1.Source.Identity.length, .rs 31004 0 v1.Source.Composites.length, iv v1.Target.Objects, .rs 31006 0 v1.Target.From.length, .rs 31007 0 v1.Target.To.length, .rs 31008 0 v1.Target.Identity.length, .rs 31009 0 v1.Target.Composites.length, .rs 31010 0 v1.Objects.length, .rs 31011 0 v1.Arrows.length, .sl a0.Unit.length 0 (a0.Unit.flatMap eI.b)] [40001, 40002, 40003, 40004, 40006, 40007, 40008, 40009, 40010, 40011, 31001, 31002, 31003, 31004, 31006, 31007, 31008, 31009, 31010, 31011]))] ++ rsS 31000 (eXFunctor.o v1) ++ rsS 38000 (eXFunctor.o v2) ++ rsS 40000 (eXFunctor.o v3) ++ rsS 42000 (eXFunctor.o v4)) (.cons (Nat.le_of_ble_eq_true (n := 25) (m := 25) rfl) .nil) (by kernel_rfl) (by kernel_rfl) ?_
  refine tr_sr hT hm [] [0, 6, 8, 18, 20, 2019, 2021, 62003, 62005, 62007, 62009, 62013, 62015, 62017, 62019, 62021, 62023, 76003, 76005, 76007, 76009, 76013, 76015, 76017, 76019, 76021, 76023, 80003, 80005, 80007, 80009, 80013, 80015, 80017, 80019, 80021, 80023, 84003, 84005, 84007, 84009, 84013, 84015, 84017, 84019, 84021, 84023] ([(0, .d (.pt (eXAdjunction.b a0) 0)), (6, .d (.pt (eXAdjunction.b a0) 0)), (8, .d (.pt (eXAdjunction.b a0) 5)), (18, .d (.rp 1009 0)), (20, .d (.rp 1010 0)), (2019, .r (.arr 1 [iv v3.Source.Objects, .rs 40001 0 v3.Source.From.length, .rs 40002 0 v3.Source.To.length, .rs 40003 0 v3.Source.Identity.length, .rs 40004 0 v3.Source.Composites.length, iv v3.Target.Objects, .rs 40006 0 v3.Target.From.length, .rs 40007 0 v3.Target.To.length, .rs 40008 0 v3.Target.Identity.length, .rs 40009 0 v3.Target.Composites.length, .rs 40010 0 v3.Objects.length, .rs 40011 0 v3.Arrows.length, iv v1.Source.Objects, .rs 31001 0 v1.Source.From.length, .rs 31002 0 v1.Source.To.length, .rs 31003 0 v1.Source.Identity.length, .rs 31004 0 v1.Source.Composites.length, iv v1.Target.Objects, .rs 31006 0 v1.Target.From.length, .rs 31007 0 v1.Target.To.length, .rs 31008 0 v1.Target.Identity.length, .rs 31009 0 v1.Target.Composites.length, .rs 31010 0 v1.Objects.length, .rs 31011 0 v1.Arrows.length, .sl a0.Unit.length 0 (a0.Unit.flatMap eI.b)] [40001, 40002, 40003, 40004, 40006, 40007, 40008, 40009, 40010, 40011, 31001, 31002, 31003, 31004, 31006, 31007, 31008, 31009, 31010, 31011])), (2021, .r (.arr 1 [iv v2.Source.Objects, .rs 38001 0 v2.Source.From.length, .rs 38002 0 v2.Source.To.length, .rs 38003 0 v2.Source.Identity.length, .rs 38004 0 v2.Source.Composites.length, iv v2.Target.Objects, .rs 38006 0 v2.Target.From.length, .rs 38007 0 v2.Target.To.length, .rs 38008 0 v2.Target.Identity.length, .rs 38009 0 v2.Target.Composites.length, .rs 38010 0 v2.Objects.length, .rs 38011 0 v2.Arrows.length, iv v4.Source.Objects, .rs 42001 0 v4.Source.From.length, .rs 42002 0 v4.Source.To.length, .rs 42003 0 v4.Source.Identity.length, .rs 42004 0 v4.Source.Composites.length, iv v4.Target.Objects, .rs 42006 0 v4.Target.From.length, .rs 42007 0 v4.Target.To.length, .rs 42008 0 v4.Target.Identity.length, .rs 42009 0 v4.Target.Composites.length, .rs 42010 0 v4.Objects.length, .rs 42011 0 v4.Arrows.length, .sl a0.Counit.length 0 (a0.Counit.flatMap eI.b)] [38001, 38002, 38003, 38004, 38006, 38007, 38008, 38009, 38010, 38011, 42001, 42002, 42003, 42004, 42006, 42007, 42008, 42009, 42010, 42011]))] ++ rsS 31000 (eXFunctor.o v1) ++ rsS 38000 (eXFunctor.o v2) ++ rsS 40000 (eXFunctor.o v3) ++ rsS 42000 (eXFunctor.o v4)) (.cons (Nat.le_of_ble_eq_true (n := 25) (m := 25) rfl) .nil) (by kernel_rfl) (by kernel_rfl) ?_
  refine tr_seq ?_
  obtain ⟨v5, hv5, hM⟩ := bind_some' hM
  refine tr_sr hT hm [(1, .call ([1055, 1009] ++ rsR 40000 (eXFunctor.o v3) ++ rsR 31000 (eXFunctor.o v1) ++ [1010] ++ rsR 38000 (eXFunctor.o v2) ++ rsR 42000 (eXFunctor.o v4)) [] [.sl ([(⟨v3, v1, a0.Unit⟩ : XTransformation), (⟨v2, v4, a0.Counit⟩ : XTransformation)] : List XTransformation).length 0 (([(⟨v3, v1, a0.Unit⟩ : XTransformation), (⟨v2, v4, a0.Counit⟩ : XTransformation)] : List XTransformation).flatMap (eP eXTransformation).b)] [] (bv v5))] [0, 6, 8, 114] [(0, .d (.pt (eXAdjunction.b a0) 0)), (6, .d (.pt (eXAdjunction.b a0) 0)), (8, .d (.pt (eXAdjunction.b a0) 5)), (114, .d (bv (!v5)))] (cc (B := ([1055, 1009] ++ rsR 40000 (eXFunctor.o v3) ++ rsR 31000 (eXFunctor.o v1) ++ [1010] ++ rsR 38000 (eXFunctor.o v2) ++ rsR 42000 (eXFunctor.o v4))) (ρ := []) (rB := ([(1055, .arr 1 [.rp 1009 0, .rp 1010 0] [1009, 1010]), (1009, .arr 1 [iv v3.Source.Objects, .rs 40001 0 v3.Source.From.length, .rs 40002 0 v3.Source.To.length, .rs 40003 0 v3.Source.Identity.length, .rs 40004 0 v3.Source.Composites.length, iv v3.Target.Objects, .rs 40006 0 v3.Target.From.length, .rs 40007 0 v3.Target.To.length, .rs 40008 0 v3.Target.Identity.length, .rs 40009 0 v3.Target.Composites.length, .rs 40010 0 v3.Objects.length, .rs 40011 0 v3.Arrows.length, iv v1.Source.Objects, .rs 31001 0 v1.Source.From.length, .rs 31002 0 v1.Source.To.length, .rs 31003 0 v1.Source.Identity.length, .rs 31004 0 v1.Source.Composites.length, iv v1.Target.Objects, .rs 31006 0 v1.Target.From.length, .rs 31007 0 v1.Target.To.length, .rs 31008 0 v1.Target.Identity.length, .rs 31009 0 v1.Target.Composites.length, .rs 31010 0 v1.Objects.length, .rs 31011 0 v1.Arrows.length, .sl a0.Unit.length 0 (a0.Unit.flatMap eI.b)] [40001, 40002, 40003, 40004, 40006, 40007, 40008, 40009, 40010, 40011, 31001, 31002, 31003, 31004, 31006, 31007, 31008, 31009, 31010, 31011])] ++ rsP 40000 (eXFunctor.o v3) ++ rsP 31000 (eXFunctor.o v1) ++ [(1010, .arr 1 [iv v2.Source.Objects, .rs 38001 0 v2.Source.From.length, .rs 38002 0 v2.Source.To.length, .rs 38003 0 v2.Source.Identity.length, .rs 38004 0 v2.Source.Composites.length, iv v2.Target.Objects, .rs 38006 0 v2.Target.From.length, .rs 38007 0 v2.Target.To.length, .rs 38008 0 v2.Target.Identity.length, .rs 38009 0 v2.Target.Composites.length, .rs 38010 0 v2.Objects.length, .rs 38011 0 v2.Arrows.length, iv v4.Source.Objects, .rs 42001 0 v4.Source.From.length, .rs 42002 0 v4.Source.To.length, .rs 42003 0 v4.Source.Identity.length, .rs 42004 0 v4.Source.Composites.length, iv v4.Target.Objects, .rs 42006 0 v4.Target.From.length, .rs 42007 0 v4.Target.To.length, .rs 42008 0 v4.Target.Identity.length, .rs 42009 0 v4.Target.Composites.length, .rs 42010 0 v4.Objects.length, .rs 42011 0 v4.Arrows.length, .sl a0.Counit.length 0 (a0.Counit.flatMap eI.b)] [38001, 38002, 38003, 38004, 38006, 38007, 38008, 38009, 38010, 38011, 42001, 42002, 42003, 42004, 42006, 42007, 42008, 42009, 42010, 42011])] ++ rsP 38000 (eXFunctor.o v2) ++ rsP 42000 (eXFunctor.o v4))) ok98 (impl_areNatural_c ([(⟨v3, v1, a0.Unit⟩ : XTransformation), (⟨v2, v4, a0.Counit⟩ : XTransformation)] : List XTransformation) _ hv5) (.cons (.of1 (.rs (r := 1055) (sz := 1) (cells := [.rp 1009 0, .rp 1010 0]) (refs := [1009, 1010]) (memB (by kernel_rfl)) (by kernel_rfl) (.cons (.rp (r := 1009) (sz := 1) (cells := [iv v3.Source.Objects, .rs 40001 0 v3.Source.From.length, .rs 40002 0 v3.Source.To.length, .rs 40003 0 v3.Source.Identity.length, .rs 40004 0 v3.Source.Composites.length, iv v3.Target.Objects, .rs 40006 0 v3.Target.From.length, .rs 40007 0 v3.Target.To.length, .rs 40008 0 v3.Target.Identity.length, .rs 40009 0 v3.Target.Composites.length, .rs 40010 0 v3.Objects.length, .rs 40011 0 v3.Arrows.length, iv v1.Source.Objects, .rs 31001 0 v1.Source.From.length, .rs 31002 0 v1.Source.To.length, .rs 31003 0 v1.Source.Identity.length, .rs 31004 0 v1.Source.Composites.length, iv v1.Target.Objects, .rs 31006 0 v1.Target.From.length, .rs 31007 0 v1.Target.To.length, .rs 31008 0 v1.Target.Identity.length, .rs 31009 0 v1.Target.Composites.length, .rs 31010 0 v1.Objects.length, .rs 31011 0 v1.Arrows.length, .sl a0.Unit.length 0 (a0.Unit.flatMap eI.b)]) (refs := [40001, 40002, 40003, 40004, 40006, 40007, 40008, 40009, 40010, 40011, 31001, 31002, 31003, 31004, 31006, 31007, 31008, 31009, 31010, 31011]) (memB (by kernel_rfl)) (by kernel_rfl) (.cons .v (.cons (.rs (r := 40001) (sz := 1) (refs := []) (memB (by kernel_rfl)) (by kernel_rfl) (bor_flat eI_ok _ _ _)) (.cons (.rs (r := 40002) (sz := 1) (refs := []) (memB (by kernel_rfl)) (by kernel_rfl) (bor_flat eI_ok _ _ _)) (.cons (.rs (r := 40003) (sz := 1) (refs := []) (memB (by kernel_rfl)) (by kernel_rfl) (bor_flat eI_ok _ _ _)) (.cons (.rs (r := 40004) (sz := 1) (refs := []) (memB (by kernel_rfl)) (by kernel_rfl) (bor_flat (eS_ok eI_ok) _ _ _)) (.cons .v (.cons (.rs (r := 40006) (sz := 1) (refs := []) (memB (by kernel_rfl)) (by kernel_rfl) (bor_flat eI_ok _ _ _)) (.cons (.rs (r := 40007) (sz := 1) (refs := []) (memB (by kernel_rfl)) (by kernel_rfl) (bor_flat eI_ok _ _ _)) (.cons (.rs (r := 40008) (sz := 1) (refs := []) (memB (by kernel_rfl)) (by kernel_rfl) (bor_flat eI_ok _ _ _)) (.cons (.rs (r := 40009) (sz := 1) (refs := []) (memB (by kernel_rfl)) (by kernel_rfl) (bor_flat (eS_ok eI_ok) _ _ _)) (.cons (.rs (r := 40010) (sz := 1) (refs := []) (memB (by kernel_rfl)) (by kernel_rfl) (bor_flat eI_ok _ _ _)) (.cons (.rs (r := 40011) (sz := 1) (refs := []) (memB (by kernel_rfl)) (by kernel_rfl) (bor_flat eI_ok _ _ _)) (.cons .v (.cons (.rs (r := 31001) (sz := 1) (refs := []) (memB (by kernel_rfl)) (by kernel_rfl) (bor_flat eI_ok _ _ _)) (.cons (.rs (r := 31002) (sz := 1) (refs := []) (memB (by kernel_rfl)) (by kernel_rfl) (bor_flat eI_ok _ _ _)) (.cons (.rs (r := 31003) (sz := 1) (refs := []) (memB (by kernel_rfl)) (by kernel_rfl) (bor_flat eI_ok _ _ _)) (.cons (.rs (r := 31004) (sz := 1) (refs := []) (memB (by kernel_rfl)) (by kernel_rfl) (bor_flat (eS_ok eI_ok) _ _ _)) (.cons .v (.cons (.rs (r := 31006) (sz := 1) (refs := []) (memB (by kernel_rfl)) (by kernel_rfl) (bor_flat eI_ok _ _ _)) (.cons (.rs (r := 31007) (sz := 1) (refs := []) (memB (by kernel_rfl)) (by kernel_rfl) (bor_flat eI_ok _ _ _)) (.cons (.rs (r := 31008) (sz := 1) (refs := []) (memB (by kernel_rfl)) (by kernel_rfl) (bor_flat eI_ok _ _ _)) (.cons (.rs (r := 31009) (sz := 1) (refs := []) (memB (by kernel_rfl)) (by kernel_rfl) (bor_flat (eS_ok eI_ok) _ _ _)) (.cons (.rs (r := 31010) (sz := 1) (refs := []) (memB (by kernel_rfl)) (by kernel_rfl) (bor_flat eI_ok _ _ _)) (.cons (.rs (r := 31011) (sz := 1) (refs := []) (memB (by kernel_rfl)) (by kernel_rfl) (bor_flat eI_ok _ _ _)) (.cons (.same rfl rfl) .nil)))))))))))))))))))))))))) (.cons (.rp (r := 1010) (sz := 1) (cells := [iv v2.Source.Objects, .rs 38001 0 v2.Source.From.length, .rs 38002 0 v2.Source.To.length, .rs 38003 0 v2.Source.Identity.length, .rs 38004 0 v2.Source.Composites.length, iv v2.Target.Objects, .rs 38006 0 v2.Target.From.length, .rs 38007 0 v2.Target.To.length, .rs 38008 0 v2.Target.Identity.length, .rs 38009 0 v2.Target.Composites.length, .rs 38010 0 v2.Objects.length, .rs 38011 0 v2.Arrows.length, iv v4.Source.Objects, .rs 42001 0 v4.Source.From.length, .rs 42002 0 v4.Source.To.length, .rs 42003 0 v4.Source.Identity.length, .rs 42004 0 v4.Source.Composites.length, iv v4.Target.Objects, .rs 42006 0 v4.Target.From.length, .rs 42007 0 v4.Target.To.length, .rs 42008 0 v4.Target.Identity.length, .rs 42009 0 v4.Target.Composites.length, .rs 42010 0 v4.Objects.length, .rs 42011 0 v4.Arrows.length, .sl a0.Counit.length 0 (a0.Counit.flatMap eI.b)]) (refs := [38001, 38002, 38003, 38004, 38006, 38007, 38008, 38009, 38010, 38011, 42001, 42002, 42003, 42004, 42006, 42007, 42008, 42009, 42010, 42011]) (memB (by kernel_rfl)) (by kernel_rfl) (.cons .v (.cons (.rs (r := 38001) (sz := 1) (refs := []) (memB (by kernel_rfl)) (by kernel_rfl) (bor_flat eI_ok _ _ _)) (.cons (.rs (r := 38002) (sz := 1) (refs := []) (memB (by kernel_rfl)) (by kernel_rfl) (bor_flat eI_ok _ _ _)) (.cons (.rs (r := 38003) (sz := 1) (refs := []) (memB (by kernel_rfl)) (by kernel_rfl) (bor_flat eI_ok _ _ _)) (.cons (.rs (r := 38004) (sz := 1) (refs := []) (memB (by kernel_rfl)) (by kernel_rfl) (bor_flat (eS_ok eI_ok) _ _ _)) (.cons .v (.cons (.rs (r := 38006) (sz := 1) (refs := []) (memB (by kernel_rfl)) (by kernel_rfl) (bor_flat eI_ok _ _ _)) (.cons (.rs (r := 38007) (sz := 1) (refs := []) (memB (by kernel_rfl)) (by kernel_rfl) (bor_flat eI_ok _ _ _)) (.cons (.rs (r := 38008) (sz := 1) (refs := []) (memB (by kernel_rfl)) (by kernel_rfl) (bor_flat eI_ok _ _ _)) (.cons (.rs (r := 38009) (sz := 1) (refs := []) (memB (by kernel_rfl)) (by kernel_rfl) (bor_flat (eS_ok eI_ok) _ _ _)) (.cons (.rs (r := 38010) (sz := 1) (refs := []) (memB (by kernel_rfl)) (by kernel_rfl) (bor_flat eI_ok _ _ _)) (.cons (.rs (r := 38011) (sz := 1) (refs := []) (memB (by kernel_rfl)) (by kernel_rfl) (bor_flat eI_ok _ _ _)) (.cons .v (.cons (.rs (r := 42001) (sz := 1) (refs := []) (memB (by kernel_rfl)) (by kernel_rfl) (bor_flat eI_ok _ _ _)) (.cons (.rs (r := 42002) (sz := 1) (refs := []) (memB (by kernel_rfl)) (by kernel_rfl) (bor_flat eI_ok _ _ _)) (.cons (.rs (r := 42003) (sz := 1) (refs := []) (memB (by kernel_rfl)) (by kernel_rfl) (bor_flat eI_ok _ _ _)) (.cons (.rs (r := 42004) (sz := 1) (refs := []) (memB (by kernel_rfl)) (by kernel_rfl) (bor_flat (eS_ok eI_ok) _ _ _)) (.cons .v (.cons (.rs (r := 42006) (sz := 1) (refs := []) (memB (by kernel_rfl)) (by kernel_rfl) (bor_flat eI_ok _ _ _)) (.cons (.rs (r := 42007) (sz := 1) (refs := []) (memB (by kernel_rfl)) (by kernel_rfl) (bor_flat eI_ok _ _ _)) (.cons (.rs (r := 42008) (sz := 1) (refs := []) (memB (by kernel_rfl)) (by kernel_rfl) (bor_flat eI_ok _ _ _)) (.cons (.rs (r := 42009) (sz := 1) (refs := []) (memB (by kernel_rfl)) (by kernel_rfl) (bor_flat (eS_ok eI_ok) _ _ _)) (.cons (.rs (r := 42010) (sz := 1) (refs := []) (memB (by kernel_rfl)) (by kernel_rfl) (bor_flat eI_ok _ _ _)) (.cons (.rs (r := 42011) (sz := 1) (refs := []) (memB (by kernel_rfl)) (by kernel_rfl) (bor_flat eI_ok _ _ _)) (.cons (.same rfl rfl) .nil)))))))))))))))))))))))))) .nil)))) .nil) (.inr ⟨.v, trivial⟩) .nil) (by kernel_rfl) (by kernel_rfl) ?_
  rcases Bool.eq_false_or_eq_true v5 with h6 | h6
  · have hM := ite_true' hM h6
    refine tr_condFe (e := !v5) (congrArg not h6) (by kernel_rfl) ?_
    refine tr_skip (q_n ?_)
    refine tr_seq ?_
    refine tr_sr hT hm [] [0, 6, 8, 124, 126, 128] [(0, .d (.pt (eXAdjunction.b a0) 0)), (6, .d (.pt (eXAdjunction.b a0) 0)), (8, .d (.pt (eXAdjunction.b a0) 5)), (124, .d (.sl a0.Left.Objects.length 0 (a0.Left.Objects.flatMap eI.b))), (126, .d (iv (a0.Left.Objects.length : Int))), (128, .d (iv 0))] .nil (by kernel_rfl) (by kernel_rfl) ?_
    refine tr_block ?_
    refine tr_iterS (fun (s7 : Int) => [(0, .d (.pt (eXAdjunction.b a0) 0)), (6, .d (.pt (eXAdjunction.b a0) 0)), (8, .d (.pt (eXAdjunction.b a0) 5)), (124, .d (.sl a0.Left.Objects.length 0 (a0.Left.Objects.flatMap eI.b))), (126, .d (iv (a0.Left.Objects.length : Int))), (128, .d (iv s7))]) 0 [0, 6, 8, 124, 126, 128] (by kernel_rfl) hM ?_
    intro n10 next8 ih9 s7 hM
    refine tr_sr hT hm [] [0, 6, 8, 124, 126, 128, 130] [(0, .d (.pt (eXAdjunction.b a0) 0)), (6, .d (.pt (eXAdjunction.b a0) 0)), (8, .d (.pt (eXAdjunction.b a0) 5)), (124, .d (.sl a0.Left.Objects.length 0 (a0.Left.Objects.flatMap eI.b))), (126, .d (iv (a0.Left.Objects.length : Int))), (128, .d (iv s7)), (130, .d (bv (decide (s7 < (a0.Left.Objects.length : Int)))))] .nil (by kernel_rfl) (by kernel_rfl) ?_
    refine tr_seq ?_
    rcases Bool.eq_false_or_eq_true (decide (s7 < (a0.Left.Objects.length : Int))) with h11 | h11
    · have hM := ite_true' hM h11
      refine tr_condTe (e := decide (s7 < (a0.Left.Objects.length : Int))) h11 (by kernel_rfl) ?_
      refine tr_skip (q_n ?_)
      refine tr_seq ?_
      refine tr_block ?_
      obtain ⟨y12, hy12, hM⟩ := bind_some' hM
      have hy12' := idx_some hy12
      refine tr_sr hT hm [(2, .val (iv y12))] [0, 6, 8, 22, 24, 124, 126, 128] [(0, .d (.pt (eXAdjunction.b a0) 0)), (6, .d (.pt (eXAdjunction.b a0) 0)), (8, .d (.pt (eXAdjunction.b a0) 5)), (22, .d (iv s7)), (24, .d (iv y12)), (124, .d (.sl a0.Left.Objects.length 0 (a0.Left.Objects.flatMap eI.b))), (126, .d (iv (a0.Left.Objects.length : Int))), (128, .d (iv s7))] (.cons hy12'.1 (.cons hy12'.2.1 (.cons (at_b0 eI_ok hy12'.2.2 (d := iv y12) (by kernel_rfl)) .nil))) (by kernel_rfl) (by kernel_rfl) ?_
      obtain ⟨y13, hy13, hM⟩ := bind_some' hM
      have hy13' := idx_some hy13
      obtain ⟨y14, hy14, hM⟩ := bind_some' hM
      have hy14' := idx_some hy14
      obtain ⟨y15, hy15, hM⟩ := bind_some' hM
      have hy15' := idx_some hy15
      obtain ⟨v16, hv16, hM⟩ := bind_some' hM
      obtain ⟨y17, hy17, hM⟩ := bind_some' hM
      have hy17' := idx_some hy17
      refine tr_sr hT hm [(12, .val (iv y13)), (14, .val (iv y14)), (21, .val (iv y15)), (22, .call [] [] [.pt (eXCategory.b a0.Left.Target) 0, iv y14, iv y15] [] (iv v16)), (29, .val (iv y17))] [0, 6, 8, 124, 126, 128, 198] [(0, .d (.pt (eXAdjunction.b a0) 0)), (6, .d (.pt (eXAdjunction.b a0) 0)), (8, .d (.pt (eXAdjunction.b a0) 5)), (124, .d (.sl a0.Left.Objects.length 0 (a0.Left.Objects.flatMap eI.b))), (126, .d (iv (a0.Left.Objects.length : Int))), (128, .d (iv s7)), (198, .d (bv (v16 != y17)))] (.cons hy13'.1 (.cons hy13'.2.1 (.cons (at_b0 eI_ok hy13'.2.2 (d := iv y13) (by kernel_rfl)) (.cons hy14'.1 (.cons hy14'.2.1 (.cons (at_b0 eI_ok hy14'.2.2 (d := iv y14) (by kernel_rfl)) (.cons hy15'.1 (.cons hy15'.2.1 (.cons (at_b0 eI_ok hy15'.2.2 (d := iv y15) (by kernel_rfl)) (cc (B := []) (ρ := []) (rB := []) ok69 (impl_Category_then_c a0.Left.Target y14 y15 _ hv16) (.cons (.pass (.ptk (ds := eXAdjunction.b a0) (ds' := eXCategory.b a0.Left.Target) (off := 5) (n := 5) (by kernel_rfl) (by kernel_rfl) (by kernel_rfl))) (.cons (.same rfl) (.cons (.same rfl) .nil))) (.inl rfl) (.cons hy17'.1 (.cons hy17'.2.1 (.cons (at_b0 eI_ok hy17'.2.2 (d := iv y17) (by kernel_rfl)) .nil))))))))))))) (by kernel_rfl) (by kernel_rfl) ?_
      rcases Bool.eq_false_or_eq_true (v16 != y17) with h18 | h18
      · have hM := ite_true' hM h18
        refine tr_condTe (e := v16 != y17) h18 (by kernel_rfl) ?_
        refine tr_sr hT hm [] [4] [(4, .d (bv false))] .nil (by kernel_rfl) (by kernel_rfl) ?_
        refine tr_ret (b_r (q_r (l_r (b_r (q_r (rg_r ?_))))))
        obtain rfl := Option.some.inj hM
        exact retg (names := []) .nil (by kernel_rfl)
      · have hM := ite_false' hM h18
        refine tr_condFe (e := v16 != y17) h18 (by kernel_rfl) ?_
        refine tr_skip (b_n (q_n ?_))
        refine tr_r hT hm [] [0, 6, 8, 124, 126, 128] [(0, .d (.pt (eXAdjunction.b a0) 0)), (6, .d (.pt (eXAdjunction.b a0) 0)), (8, .d (.pt (eXAdjunction.b a0) 5)), (124, .d (.sl a0.Left.Objects.length 0 (a0.Left.Objects.flatMap eI.b))), (126, .d (iv (a0.Left.Objects.length : Int))), (128, .d (iv (IntKind.i64.wrap (s7 + 1))))] .nil (by kernel_rfl) (by kernel_rfl) (l_n ?_)
        exact trl_start (ks := [0, 6, 8, 124, 126, 128]) (by kernel_rfl) (ih9 (IntKind.i64.wrap (s7 + 1)) hM)
    · have hM := ite_false' hM h11
      refine tr_condFe (e := decide (s7 < (a0.Left.Objects.length : Int))) h11 (by kernel_rfl) ?_
      refine tr_exit (q_x (l_x (b_h (q_n ?_))))
      refine tr_seq ?_
      refine tr_sr hT hm [] [0, 6, 210, 212, 214] [(0, .d (.pt (eXAdjunction.b a0) 0)), (6, .d (.pt (eXAdjunction.b a0) 0)), (210, .d (.sl a0.Right.Objects.length 0 (a0.Right.Objects.flatMap eI.b))), (212, .d (iv (a0.Right.Objects.length : Int))), (214, .d (iv 0))] .nil (by kernel_rfl) (by kernel_rfl) ?_
      refine tr_block ?_
      refine tr_iterS (fun (s19 : Int) => [(0, .d (.pt (eXAdjunction.b a0) 0)), (6, .d (.pt (eXAdjunction.b a0) 0)), (210, .d (.sl a0.Right.Objects.length 0 (a0.Right.Objects.flatMap eI.b))), (212, .d (iv (a0.Right.Objects.length : Int))), (214, .d (iv s19))]) 0 [0, 6, 210, 212, 214] (by kernel_rfl) hM ?_
      intro n22 next20 ih21 s19 hM
      refine tr_sr hT hm [] [0, 6, 210, 212, 214, 216] [(0, .d (.pt (eXAdjunction.b a0) 0)), (6, .d (.pt (eXAdjunction.b a0) 0)), (210, .d (.sl a0.Right.Objects.length 0 (a0.Right.Objects.flatMap eI.b))), (212, .d (iv (a0.Right.Objects.length : Int))), (214, .d (iv s19)), (216, .d (bv (decide (s19 < (a0.Right.Objects.length : Int)))))] .nil (by kernel_rfl) (by kernel_rfl) ?_
      refine tr_seq ?_
      rcases Bool.eq_false_or_eq_true (decide (s19 < (a0.Right.Objects.length : Int))) with h23 | h23
      · have hM := ite_true' hM h23
        refine tr_condTe (e := decide (s19 < (a0.Right.Objects.length : Int))) h23 (by kernel_rfl) ?_
        refine tr_skip (q_n ?_)
        refine tr_seq ?_
        refine tr_block ?_
        obtain ⟨y24, hy24, hM⟩ := bind_some' hM
        have hy24' := idx_some hy24
        refine tr_sr hT hm [(2, .val (iv y24))] [0, 6, 26, 28, 210, 212, 214] [(0, .d (.pt (eXAdjunction.b a0) 0)), (6, .d (.pt (eXAdjunction.b a0) 0)), (26, .d (iv s19)), (28, .d (iv y24)), (210, .d (.sl a0.Right.Objects.length 0 (a0.Right.Objects.flatMap eI.b))), (212, .d (iv (a0.Right.Objects.length : Int))), (214, .d (iv s19))] (.cons hy24'.1 (.cons hy24'.2.1 (.cons (at_b0 eI_ok hy24'.2.2 (d := iv y24) (by kernel_rfl)) .nil))) (by kernel_rfl) (by kernel_rfl) ?_
        obtain ⟨y25, hy25, hM⟩ := bind_some' hM
        have hy25' := idx_some hy25
        obtain ⟨y26, hy26, hM⟩ := bind_some' hM
        have hy26' := idx_some hy26
        obtain ⟨y27, hy27, hM⟩ := bind_some' hM
        have hy27' := idx_some hy27
        obtain ⟨v28, hv28, hM⟩ := bind_some' hM
        obtain ⟨y29, hy29, hM⟩ := bind_some' hM
        have hy29' := idx_some hy29
        refine tr_sr hT hm [(7, .val (iv y25)), (19, .val (iv y26)), (21, .val (iv y27)), (22, .call [] [] [.pt (eXCategory.b a0.Left.Source) 0, iv y25, iv y27] [] (iv v28)), (29, .val (iv y29))] [0, 6, 210, 212, 214, 284] [(0, .d (.pt (eXAdjunction.b a0) 0)), (6, .d (.pt (eXAdjunction.b a0) 0)), (210, .d (.sl a0.Right.Objects.length 0 (a0.Right.Objects.flatMap eI.b))), (212, .d (iv (a0.Right.Objects.length : Int))), (214, .d (iv s19)), (284, .d (bv (v28 != y29)))] (.cons hy25'.1 (.cons hy25'.2.1 (.cons (at_b0 eI_ok hy25'.2.2 (d := iv y25) (by kernel_rfl)) (.cons hy26'.1 (.cons hy26'.2.1 (.cons (at_b0 eI_ok hy26'.2.2 (d := iv y26) (by kernel_rfl)) (.cons hy27'.1 (.cons hy27'.2.1 (.cons (at_b0 eI_ok hy27'.2.2 (d := iv y27) (by kernel_rfl)) (cc (B := []) (ρ := []) (rB := []) ok69 (impl_Category_then_c a0.Left.Source y25 y27 _ hv28) (.cons (.pass (.ptk (ds := eXAdjunction.b a0) (ds' := eXCategory.b a0.Left.Source) (off := 0) (n := 5) (by kernel_rfl) (by kernel_rfl) (by kernel_rfl))) (.cons (.same rfl) (.cons (.same rfl) .nil))) (.inl rfl) (.cons hy29'.1 (.cons hy29'.2.1 (.cons (at_b0 eI_ok hy29'.2.2 (d := iv y29) (by kernel_rfl)) .nil))))))))))))) (by kernel_rfl) (by kernel_rfl) ?_
        rcases Bool.eq_false_or_eq_true (v28 != y29) with h30 | h30
        · have hM := ite_true' hM h30
          refine tr_condTe (e := v28 != y29) h30 (by kernel_rfl) ?_
          refine tr_sr hT hm [] [4] [(4, .d (bv false))] .nil (by kernel_rfl) (by kernel_rfl) ?_
          refine tr_ret (b_r (q_r (l_r (b_r (q_r (rg_r ?_))))))
          obtain rfl := Option.some.inj hM
          exact retg (names := []) .nil (by kernel_rfl)
        · have hM := ite_false' hM h30
          refine tr_condFe (e := v28 != y29) h30 (by kernel_rfl) ?_
          refine tr_skip (b_n (q_n ?_))
          refine tr_r hT hm [] [0, 6, 210, 212, 214] [(0, .d (.pt (eXAdjunction.b a0) 0)), (6, .d (.pt (eXAdjunction.b a0) 0)), (210, .d (.sl a0.Right.Objects.length 0 (a0.Right.Objects.flatMap eI.b))), (212, .d (iv (a0.Right.Objects.length : Int))), (214, .d (iv (IntKind.i64.wrap (s19 + 1))))] .nil (by kernel_rfl) (by kernel_rfl) (l_n ?_)
          exact trl_start (ks := [0, 6, 210, 212, 214]) (by kernel_rfl) (ih21 (IntKind.i64.wrap (s19 + 1)) hM)
      · have hM := ite_false' hM h23
        refine tr_condFe (e := decide (s19 < (a0.Right.Objects.length : Int))) h23 (by kernel_rfl) ?_
        refine tr_exit (q_x (l_x (b_h (q_n ?_))))
        refine tr_sr hT hm [] [4] [(4, .d (bv true))] .nil (by kernel_rfl) (by kernel_rfl) ?_
        refine tr_ret (rg_r ?_)
        obtain rfl := Option.some.inj hM
        exact retg (names := []) .nil (by kernel_rfl)
  · have hM := ite_false' hM h6
    refine tr_condTe (e := !v5) (congrArg not h6) (by kernel_rfl) ?_
    refine tr_sr hT hm [] [4] [(4, .d (bv false))] .nil (by kernel_rfl) (by kernel_rfl) ?_
    refine tr_ret (q_r (rg_r ?_))
    obtain rfl := Option.some.inj hM
    exact retg (names := []) .nil (by kernel_rfl)

theorem ok54 : CallOk Try.prog 54 := callOk_of Try.func54 (by kernel_rfl) (by kernel_rfl)
theorem impl_Adjunction_isAdjunction_c (a0 : XAdjunction) (r : Bool) (hM : M.impl_Adjunction_isAdjunction a0 = some r) :
    FnC Try.prog 54 [] [.pt (eXAdjunction.b a0) 0] [] (bv r) := by
  refine fnc_startG (N := 24) (np := 500) hT Try.func54 rfl rfl (by kernel_rfl) ?_
  unfold M.impl_Adjunction_isAdjunction at hM
  refine tr_start (ks := [0]) (st' := [(0, .d (.pt (eXAdjunction.b a0) 0))]) (by kernel_rfl) ?_
  refine tr_sr hT hm [] [0] [(0, .d (.pt (eXAdjunction.b a0) 0))] .nil (by kernel_rfl) (by kernel_rfl) ?_
  obtain ⟨v1, hv1, hM⟩ := bind_some' hM
  rcases Bool.eq_false_or_eq_true v1 with h2 | h2
  · have hM := ite_true' hM h2
    obtain ⟨v3, hv3, hM⟩ := bind_some' hM
    rcases Bool.eq_false_or_eq_true v3 with h4 | h4
    · have hM := ite_true' hM h4
      obtain ⟨v5, hv5, hM⟩ := bind_some' hM
      refine tr_sr hT hm [(7, .call [1009] [] [.sl ([a0.Left, a0.Right] : List XFunctor).length 0 (([a0.Left, a0.Right] : List XFunctor).flatMap (eP eXFunctor).b)] [] (bv v1)), (8, .val (bv true)), (15, .call [] [] [.pt (eXFunctor.b a0.Left) 0, .pt (eXFunctor.b a0.Right) 0] [] (bv v3)), (17, .val (bv true)), (19, .call [] [] [.pt (eXAdjunction.b a0) 0] [] (bv v5))] [4] [(4, .d (bv v5))] (cc (B := [1009]) (ρ := []) (rB := [(1009, .arr 1 [.pt (eXAdjunction.b a0) 0, .pt (eXAdjunction.b a0) 12] [])]) ok104 (impl_areFunctors_c ([a0.Left, a0.Right] : List XFunctor) _ hv1) (.cons (.of1 (.rs (r := 1009) (sz := 1) (cells := [.pt (eXAdjunction.b a0) 0, .pt (eXAdjunction.b a0) 12]) (refs := []) (memB (by kernel_rfl)) (by kernel_rfl) (.cons (.ptk (ds := eXAdjunction.b a0) (ds' := eXFunctor.b a0.Left) (off := 0) (n := 12) (by kernel_rfl) (by kernel_rfl) (by kernel_rfl)) (.cons (.ptk (ds := eXAdjunction.b a0) (ds' := eXFunctor.b a0.Right) (off := 12) (n := 12) (by kernel_rfl) (by kernel_rfl) (by kernel_rfl)) .nil)))) .nil) (.inr ⟨.v, trivial⟩) (.cons (congrArg (fun b => bv b) h2) (cc (B := []) (ρ := []) (rB := []) ok105 (impl_leadBack_c a0.Left a0.Right _ hv3) (.cons (.pass (.ptk (ds := eXAdjunction.b a0) (ds' := eXFunctor.b a0.Left) (off := 0) (n := 12) (by kernel_rfl) (by kernel_rfl) (by kernel_rfl))) (.cons (.pass (.ptk (ds := eXAdjunction.b a0) (ds' := eXFunctor.b a0.Right) (off := 12) (n := 12) (by kernel_rfl) (by kernel_rfl) (by kernel_rfl))) .nil)) (.inl rfl) (.cons (congrArg (fun b => bv b) h4) (cc0 ok106 (impl_Adjunction_fits_c a0 _ hv5) (by kernel_rfl) .nil))))) (by kernel_rfl) (by kernel_rfl) ?_
      refine tr_ret (rg_r ?_)
      obtain rfl := Option.some.inj hM
      exact retg (names := []) .nil (by kernel_rfl)
    · have hM := ite_false' hM h4
      refine tr_sr hT hm [(7, .call [1009] [] [.sl ([a0.Left, a0.Right] : List XFunctor).length 0 (([a0.Left, a0.Right] : List XFunctor).flatMap (eP eXFunctor).b)] [] (bv v1)), (8, .val (bv true)), (15, .call [] [] [.pt (eXFunctor.b a0.Left) 0, .pt (eXFunctor.b a0.Right) 0] [] (bv v3)), (17, .val (bv false))] [4] [(4, .d (bv false))] (cc (B := [1009]) (ρ := []) (rB := [(1009, .arr 1 [.pt (eXAdjunction.b a0) 0, .pt (eXAdjunction.b a0) 12] [])]) ok104 (impl_areFunctors_c ([a0.Left, a0.Right] : List XFunctor) _ hv1) (.cons (.of1 (.rs (r := 1009) (sz := 1) (cells := [.pt (eXAdjunction.b a0) 0, .pt (eXAdjunction.b a0) 12]) (refs := []) (memB (by kernel_rfl)) (by kernel_rfl) (.cons (.ptk (ds := eXAdjunction.b a0) (ds' := eXFunctor.b a0.Left) (off := 0) (n := 12) (by kernel_rfl) (by kernel_rfl) (by kernel_rfl)) (.cons (.ptk (ds := eXAdjunction.b a0) (ds' := eXFunctor.b a0.Right) (off := 12) (n := 12) (by kernel_rfl) (by kernel_rfl) (by kernel_rfl)) .nil)))) .nil) (.inr ⟨.v, trivial⟩) (.cons (congrArg (fun b => bv b) h2) (cc (B := []) (ρ := []) (rB := []) ok105 (impl_leadBack_c a0.Left a0.Right _ hv3) (.cons (.pass (.ptk (ds := eXAdjunction.b a0) (ds' := eXFunctor.b a0.Left) (off := 0) (n := 12) (by kernel_rfl) (by kernel_rfl) (by kernel_rfl))) (.cons (.pass (.ptk (ds := eXAdjunction.b a0) (ds' := eXFunctor.b a0.Right) (off := 12) (n := 12) (by kernel_rfl) (by kernel_rfl) (by kernel_rfl))) .nil)) (.inl rfl) (.cons (congrArg (fun b => bv b) h4) .nil)))) (by kernel_rfl) (by kernel_rfl) ?_
      refine tr_ret (rg_r ?_)
      obtain rfl := Option.some.inj hM
      exact retg (names := []) .nil (by kernel_rfl)
  · have hM := ite_false' hM h2
    refine tr_sr hT hm [(7, .call [1009] [] [.sl ([a0.Left, a0.Right] : List XFunctor).length 0 (([a0.Left, a0.Right] : List XFunctor).flatMap (eP eXFunctor).b)] [] (bv v1)), (8, .val (bv false))] [4] [(4, .d (bv false))] (cc (B := [1009]) (ρ := []) (rB := [(1009, .arr 1 [.pt (eXAdjunction.b a0) 0, .pt (eXAdjunction.b a0) 12] [])]) ok104 (impl_areFunctors_c ([a0.Left, a0.Right] : List XFunctor) _ hv1) (.cons (.of1 (.rs (r := 1009) (sz := 1) (cells := [.pt (eXAdjunction.b a0) 0, .pt (eXAdjunction.b a0) 12]) (refs := []) (memB (by kernel_rfl)) (by kernel_rfl) (.cons (.ptk (ds := eXAdjunction.b a0) (ds' := eXFunctor.b a0.Left) (off := 0) (n := 12) (by kernel_rfl) (by kernel_rfl) (by kernel_rfl)) (.cons (.ptk (ds := eXAdjunction.b a0) (ds' := eXFunctor.b a0.Right) (off := 12) (n := 12) (by kernel_rfl) (by kernel_rfl) (by kernel_rfl)) .nil)))) .nil) (.inr ⟨.v, trivial⟩) (.cons (congrArg (fun b => bv b) h2) .nil)) (by kernel_rfl) (by kernel_rfl) ?_
    refine tr_ret (rg_r ?_)
    obtain rfl := Option.some.inj hM
    exact retg (names := []) .nil (by kernel_rfl)

theorem ok24 : CallOk Try.prog 24 := callOk_of Try.func24 (by kernel_rfl) (by kernel_rfl)
theorem laws_eqAdjunction_c (a0 : XAdjunction) (a1 : XAdjunction) (r : Bool) (hM : M.laws_eqAdjunction a0 a1 = some r) :
    FnC Try.prog 24 [] [.agg (eXAdjunction.b a0), .agg (eXAdjunction.b a1)] [] (bv r) := by
  refine fnc_startG (N := 29) (np := 500) hT Try.func24 rfl rfl (by kernel_rfl) ?_
  unfold M.laws_eqAdjunction at hM
  refine tr_start (ks := [0, 2]) (st' := [(0, .d (.agg (eXAdjunction.b a0))), (2, .d (.agg (eXAdjunction.b a1)))]) (by kernel_rfl) ?_
  refine tr_sr hT hm [] [4, 6, 2005, 2007] [(4, .d (.rp 1002 0)), (6, .d (.rp 1003 0)), bxB 2005 (eXAdjunction.b a0), bxB 2007 (eXAdjunction.b a1)] .nil (by kernel_rfl) (by kernel_rfl) ?_
  refine tr_seq ?_
  obtain ⟨v1, hv1, hM⟩ := bind_some' hM
  refine tr_sr hT hm [(4, .call [] [] [.agg (eXFunctor.b a0.Left), .agg (eXFunctor.b a1.Left)] [] (bv v1))] [4, 6, 20, 2005, 2007] [(4, .d (.rp 1002 0)), (6, .d (.rp 1003 0)), (20, .d (bv (!v1))), bxB 2005 (eXAdjunction.b a0), bxB 2007 (eXAdjunction.b a1)] (cc0 ok52 (laws_eqFunctor_c a0.Left a1.Left _ hv1) (by kernel_rfl) .nil) (by kernel_rfl) (by kernel_rfl) ?_
  rcases Bool.eq_false_or_eq_true v1 with h2 | h2
  · have hM := ite_true' hM h2
    refine tr_condFe (e := !v1) (congrArg not h2) (by kernel_rfl) ?_
    refine tr_skip (q_n ?_)
    refine tr_seq ?_
    obtain ⟨v3, hv3, hM⟩ := bind_some' hM
    refine tr_sr hT hm [(4, .call [] [] [.agg (eXFunctor.b a0.Right), .agg (eXFunctor.b a1.Right)] [] (bv v3))] [4, 6, 32, 2005, 2007] [(4, .d (.rp 1002 0)), (6, .d (.rp 1003 0)), (32, .d (bv (!v3))), bxB 2005 (eXAdjunction.b a0), bxB 2007 (eXAdjunction.b a1)] (cc0 ok52 (laws_eqFunctor_c a0.Right a1.Right _ hv3) (by kernel_rfl) .nil) (by kernel_rfl) (by kernel_rfl) ?_
    rcases Bool.eq_false_or_eq_true v3 with h4 | h4
    · have hM := ite_true' hM h4
      refine tr_condFe (e := !v3) (congrArg not h4) (by kernel_rfl) ?_
      refine tr_skip (q_n ?_)
      refine tr_seq ?_
      obtain ⟨v5, hv5, hM⟩ := bind_some' hM
      refine tr_sr hT hm [(4, .call [] [] [.sl a0.Unit.length 0 (a0.Unit.flatMap eI.b), .sl a1.Unit.length 0 (a1.Unit.flatMap eI.b)] [] (bv v5))] [4, 6, 44, 2005, 2007] [(4, .d (.rp 1002 0)), (6, .d (.rp 1003 0)), (44, .d (bv (!v5))), bxB 2005 (eXAdjunction.b a0), bxB 2007 (eXAdjunction.b a1)] (cc0 ok36 (laws_eqInt64S_c a0.Unit a1.Unit _ hv5) (by kernel_rfl) .nil) (by kernel_rfl) (by kernel_rfl) ?_
      rcases Bool.eq_false_or_eq_true v5 with h6 | h6
      · have hM := ite_true' hM h6
        refine tr_condFe (e := !v5) (congrArg not h6) (by kernel_rfl) ?_
        refine tr_skip (q_n ?_)
        refine tr_seq ?_
        obtain ⟨v7, hv7, hM⟩ := bind_some' hM
        refine tr_sr hT hm [(4, .call [] [] [.sl a0.Counit.length 0 (a0.Counit.flatMap eI.b), .sl a1.Counit.length 0 (a1.Counit.flatMap eI.b)] [] (bv v7))] [56] [(56, .d (bv (!v7)))] (cc0 ok36 (laws_eqInt64S_c a0.Counit a1.Counit _ hv7) (by kernel_rfl) .nil) (by kernel_rfl) (by kernel_rfl) ?_
        rcases Bool.eq_false_or_eq_true v7 with h8 | h8
        · have hM := ite_true' hM h8
          refine tr_condFe (e := !v7) (congrArg not h8) (by kernel_rfl) ?_
          refine tr_skip (q_n ?_)
          refine tr_sr hT hm [] [8] [(8, .d (bv true))] .nil (by kernel_rfl) (by kernel_rfl) ?_
          refine tr_ret (rg_r ?_)
          obtain rfl := Option.some.inj hM
          exact retg (names := []) .nil (by kernel_rfl)
        · have hM := ite_false' hM h8
          refine tr_condTe (e := !v7) (congrArg not h8) (by kernel_rfl) ?_
          refine tr_sr hT hm [] [8] [(8, .d (bv false))] .nil (by kernel_rfl) (by kernel_rfl) ?_
          refine tr_ret (q_r (rg_r ?_))
          obtain rfl := Option.some.inj hM
          exact retg (names := []) .nil (by kernel_rfl)
      · have hM := ite_false' hM h6
        refine tr_condTe (e := !v5) (congrArg not h6) (by kernel_rfl) ?_
        refine tr_sr hT hm [] [8] [(8, .d (bv false))] .nil (by kernel_rfl) (by kernel_rfl) ?_
        refine tr_ret (q_r (rg_r ?_))
        obtain rfl := Option.some.inj hM
        exact retg (names := []) .nil (by kernel_rfl)
    · have hM := ite_false' hM h4
      refine tr_condTe (e := !v3) (congrArg not h4) (by kernel_rfl) ?_
      refine tr_sr hT hm [] [8] [(8, .d (bv false))] .nil (by kernel_rfl) (by kernel_rfl) ?_
      refine tr_ret (q_r (rg_r ?_))
      obtain rfl := Option.some.inj hM
      exact retg (names := []) .nil (by kernel_rfl)
  · have hM := ite_false' hM h2
    refine tr_condTe (e := !v1) (congrArg not h2) (by kernel_rfl) ?_
    refine tr_sr hT hm [] [8] [(8, .d (bv false))] .nil (by kernel_rfl) (by kernel_rfl) ?_
    refine tr_ret (q_r (rg_r ?_))
    obtain rfl := Option.some.inj hM
    exact retg (names := []) .nil (by kernel_rfl)

end Go.Proofs.Ytpfdieaiogfihaa.WwA
