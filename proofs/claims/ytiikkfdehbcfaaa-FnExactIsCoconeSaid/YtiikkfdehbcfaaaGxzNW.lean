/- Walks. Printed by wip/gen. -/
import Derived.Test.YtiikkfdehbcfaaaGxEM2
import Derived.Test.YtiikkfdehbcfaaaGxEO0
import Derived.Test.YtiikkfdehbcfaaaGxyPW
import Derived.Test.YtiikkfdehbcfaaaGxyOW
import Derived.Test.YtiikkfdehbcfaaaGxyNW
import Derived.KernelRfl
namespace Go.Proofs.Ytiikkfdehbcfaaa.WzN
open Go.Gx Go.Proofs.Ytiikkfdehbcfaaa.WvB Go.Proofs.Ytiikkfdehbcfaaa.WyT Go.Proofs.Ytiikkfdehbcfaaa.WyP Go.Proofs.Ytiikkfdehbcfaaa.WyO Go.Proofs.Ytiikkfdehbcfaaa.WyN

theorem eXCategory_r : EncR eXCategory := (eA_r (eC_r eI_r _) (eA_r (eC_r (eS_r eI_ok) _) (eA_r (eC_r (eS_r eI_ok) _) (eA_r (eC_r (eS_r eI_ok) _) (eC_r (eS_r (eS_ok eI_ok)) _)))))
theorem eXFunctor_r : EncR eXFunctor := (eA_r (eC_r eXCategory_r _) (eA_r (eC_r eXCategory_r _) (eA_r (eC_r (eS_r eI_ok) _) (eC_r (eS_r eI_ok) _))))
theorem eXCone_r : EncR eXCone := (eA_r (eC_r eI_r _) (eC_r (eS_r eI_ok) _))
def T : Tab := [(2, ⟨.int .i64, 1, 8, [.int .i64 0]⟩),
  (3, ⟨.int .i64, 1, 8, [.int .i64 0]⟩),
  (22, ⟨.slice 2, 1, 24, [.slice .none 0 0]⟩),
  (23, ⟨.slice 22, 1, 24, [.slice .none 0 0]⟩),
  (29, ⟨.struct #[⟨"Apex", 2, 0, false, "", "", 0⟩, ⟨"Legs", 22, 1, false, "", "", 8⟩], 2, 32, [.int .i64 0, .slice .none 0 0]⟩),
  (34, ⟨.struct #[⟨"Objects", 2, 0, false, "", "", 0⟩, ⟨"From", 22, 1, false, "", "", 8⟩, ⟨"To", 22, 2, false, "", "", 32⟩, ⟨"Identity", 22, 3, false, "", "", 56⟩, ⟨"Composites", 23, 4, false, "", "", 80⟩], 5, 104, [.int .i64 0, .slice .none 0 0, .slice .none 0 0, .slice .none 0 0, .slice .none 0 0]⟩),
  (36, ⟨.struct #[⟨"Source", 34, 0, false, "", "", 0⟩, ⟨"Target", 34, 5, false, "", "", 104⟩, ⟨"Objects", 22, 10, false, "", "", 208⟩, ⟨"Arrows", 22, 11, false, "", "", 232⟩], 12, 256, [.int .i64 0, .slice .none 0 0, .slice .none 0 0, .slice .none 0 0, .slice .none 0 0, .int .i64 0, .slice .none 0 0, .slice .none 0 0, .slice .none 0 0, .slice .none 0 0, .slice .none 0 0, .slice .none 0 0]⟩),
  (38, ⟨.struct #[⟨"Apex", 2, 0, false, "", "", 0⟩, ⟨"Legs", 22, 1, false, "", "", 8⟩], 2, 32, [.int .i64 0, .slice .none 0 0]⟩),
  (117, ⟨.pointer 36, 1, 8, [.pointer .none]⟩),
  (217, ⟨.struct #[⟨"from", 2, 0, false, "", "loop.example/g01083/impl", 0⟩, ⟨"to", 2, 1, false, "", "loop.example/g01083/impl", 8⟩], 2, 16, [.int .i64 0, .int .i64 0]⟩),
  (221, ⟨.struct #[⟨"opposite", 117, 0, false, "", "loop.example/g01083/impl", 0⟩], 1, 8, [.pointer .none]⟩)]
theorem hT : TabOk Try.prog T := ⟨tiok (by kernel_rfl) (by kernel_rfl), tiok (by kernel_rfl) (by kernel_rfl), tiok (by kernel_rfl) (by kernel_rfl), tiok (by kernel_rfl) (by kernel_rfl), tiok (by kernel_rfl) (by kernel_rfl), tiok (by kernel_rfl) (by kernel_rfl), tiok (by kernel_rfl) (by kernel_rfl), tiok (by kernel_rfl) (by kernel_rfl), tiok (by kernel_rfl) (by kernel_rfl), tiok (by kernel_rfl) (by kernel_rfl), tiok (by kernel_rfl) (by kernel_rfl), trivial⟩
theorem hm : Try.prog.follows .mixedOrders = true := by kernel_rfl

theorem ok16 : CallOk Try.prog 16 := callOk_of Try.func16 (by kernel_rfl) (by kernel_rfl)
theorem laws_szCone_c (a0 : XCone) (a1 : Int) (r : Int) (hM : M.laws_szCone a0 a1 = some r) :
    FnC Try.prog 16 [] [.agg (eXCone.b a0), iv a1] [] (iv r) := by
  refine fnc_startG (N := 12) (np := 500) hT Try.func16 rfl rfl (by kernel_rfl) ?_
  unfold M.laws_szCone at hM
  refine tr_start (ks := [0, 2]) (st' := [(0, .d (.agg (eXCone.b a0))), (2, .d (iv a1))]) (by kernel_rfl) ?_
  refine tr_sr hT hm [] [2, 4, 2005] [(2, .d (iv a1)), (4, .d (.rp 1002 0)), bxB 2005 (eXCone.b a0)] .nil (by kernel_rfl) (by kernel_rfl) ?_
  obtain ⟨v1, hv1, hM⟩ := bind_some' hM
  refine tr_sr hT hm [(3, .call [] [] [.sl a0.Legs.length 0 (a0.Legs.flatMap eI.b), iv a1] [] (iv v1))] [2] [(2, .d (iv v1))] (cc0 ok77 (laws_szInt64S_c a0.Legs a1 _ hv1) (by kernel_rfl) .nil) (by kernel_rfl) (by kernel_rfl) ?_
  refine tr_seq ?_
  refine tr_sr hT hm [] [2, 20] [(2, .d (iv v1)), (20, .d (bv (decide (v1 < 0))))] .nil (by kernel_rfl) (by kernel_rfl) ?_
  rcases Bool.eq_false_or_eq_true (decide (v1 < 0)) with h2 | h2
  · have hM := ite_true' hM h2
    refine tr_condTe (e := decide (v1 < 0)) h2 (by kernel_rfl) ?_
    refine tr_sr hT hm [] [8] [(8, .d (iv (-1)))] .nil (by kernel_rfl) (by kernel_rfl) ?_
    refine tr_ret (q_r (rg_r ?_))
    obtain rfl := Option.some.inj hM
    exact retg (names := []) .nil (by kernel_rfl)
  · have hM := ite_false' hM h2
    refine tr_condFe (e := decide (v1 < 0)) h2 (by kernel_rfl) ?_
    refine tr_skip (q_n ?_)
    refine tr_sr hT hm [] [8] [(8, .d (iv v1))] .nil (by kernel_rfl) (by kernel_rfl) ?_
    refine tr_ret (rg_r ?_)
    obtain rfl := Option.some.inj hM
    exact retg (names := []) .nil (by kernel_rfl)

theorem ok19 : CallOk Try.prog 19 := callOk_of Try.func19 (by kernel_rfl) (by kernel_rfl)
theorem laws_toCone_c (a0 : XCone) (r : XCone) (hM : M.laws_toCone a0 = some r) :
    FnC Try.prog 19 [] [.agg (eXCone.b a0)] [] (.agg (eXCone.o r)) := by
  refine fnc_startG (N := 12) (np := 500) hT Try.func19 rfl rfl (by kernel_rfl) ?_
  unfold M.laws_toCone at hM
  refine tr_start (ks := [0]) (st' := [(0, .d (.agg (eXCone.b a0)))]) (by kernel_rfl) ?_
  refine tr_sr hT hm [] [2, 4, 2003, 2005] [(2, .d (.rp 1001 0)), (4, .d (.rp 1002 0)), bxB 2003 (eXCone.b a0), (2005, .r (.arr 1 [iv 0, nilv] []))] .nil (by kernel_rfl) (by kernel_rfl) ?_
  refine tr_sr hT hm [] [2, 4, 6, 2003, 2005, 2007] [(2, .d (.rp 1001 0)), (4, .d (.rp 1002 0)), (6, .d (.rp 1003 0)), bxB 2003 (eXCone.b a0), (2005, .r (.arr 1 [iv 0, nilv] [])), (2007, .r (.arr 1 [iv 0, nilv] []))] .nil (by kernel_rfl) (by kernel_rfl) ?_
  refine tr_sr hT hm [] [2, 4, 6, 2003, 2005, 2007] [(2, .d (.rp 1001 0)), (4, .d (.rp 1002 0)), (6, .d (.rp 1003 0)), bxB 2003 (eXCone.b a0), (2005, .r (.arr 1 [iv 0, nilv] [])), (2007, .r (.arr 1 [iv a0.Apex, nilv] []))] (.cons (Nat.le_of_ble_eq_true (n := 1) (m := 2) rfl) .nil) (by kernel_rfl) (by kernel_rfl) ?_
  obtain ⟨v1, hv1, hM⟩ := bind_some' hM
  refine tr_sr hT hm [(2, .call [] [] [.sl a0.Legs.length 0 (a0.Legs.flatMap eI.b)] [] (.fr 1 v1.length (v1.flatMap eI.o)))] [4, 6, 2005, 2007, 22001] [(4, .d (.rp 1002 0)), (6, .d (.rp 1003 0)), (2005, .r (.arr 1 [iv 0, nilv] [])), (2007, .r (.arr 1 [iv a0.Apex, .rs 11000 0 v1.length] [11000])), (22001, .r (.arr 1 (v1.flatMap eI.o) []))] (cc0 ok28 (laws_toInt64S_c a0.Legs _ hv1) (by kernel_rfl) (.cons (Nat.le_of_ble_eq_true (n := 2) (m := 2) rfl) .nil)) (by kernel_rfl) (by kernel_rfl) ?_
  refine tr_sr hT hm [] [4, 2005, 22001] [(4, .d (.rp 1002 0)), (2005, .r (.arr 1 [iv a0.Apex, .rs 11000 0 v1.length] [11000])), (22001, .r (.arr 1 (v1.flatMap eI.o) []))] (.cons (Nat.le_of_ble_eq_true (n := 2) (m := 2) rfl) .nil) (by kernel_rfl) (by kernel_rfl) ?_
  refine tr_ret (rg_r ?_)
  obtain rfl := Option.some.inj hM
  exact retg (names := []) (.cons (lenO_flat eI_ok v1) .nil) (by kernel_rfl)

theorem ok79 : CallOk Try.prog 79 := callOk_of Try.func79 (by kernel_rfl) (by kernel_rfl)
theorem spec_l12Cone_c (a0 : XFunctor) (a1 : XCone) (r : Bool) (hM : M.spec_l12Cone a0 a1 = some r) :
    FnC Try.prog 79 [] [.agg (eXFunctor.b a0), .agg (eXCone.b a1)] [] (bv r) := by
  refine fnc_startG (N := 104) (np := 500) hT Try.func79 rfl rfl (by kernel_rfl) ?_
  unfold M.spec_l12Cone at hM
  refine tr_start (ks := [0, 2]) (st' := [(0, .d (.agg (eXFunctor.b a0))), (2, .d (.agg (eXCone.b a1)))]) (by kernel_rfl) ?_
  refine tr_sr hT hm [] [4, 6, 2005, 2007] [(4, .d (.rp 1002 0)), (6, .d (.rp 1003 0)), bxB 2005 (eXFunctor.b a0), bxB 2007 (eXCone.b a1)] .nil (by kernel_rfl) (by kernel_rfl) ?_
  refine tr_sr hT hm [] [4, 6, 10, 2005, 2007, 2011] [(4, .d (.rp 1002 0)), (6, .d (.rp 1003 0)), (10, .d (.rp 1005 0)), bxB 2005 (eXFunctor.b a0), bxB 2007 (eXCone.b a1), bxB 2011 (eXCategory.b a0.Target)] (.cons (Nat.le_of_ble_eq_true (n := 5) (m := 5) rfl) .nil) (by kernel_rfl) (by kernel_rfl) ?_
  refine tr_seq ?_
  obtain ⟨v1, hv1, hM⟩ := bind_some' hM
  rcases Bool.eq_false_or_eq_true v1 with h2 | h2
  · have hM := ite_true' hM h2
    rcases Bool.eq_false_or_eq_true ((a1.Legs.length : Int) != (a0.Objects.length : Int)) with h3 | h3
    · have hM := ite_true' hM h3
      refine tr_sr hT hm [(3, .call [] [] [.agg (eXCategory.b a0.Target), iv a1.Apex] [] (bv v1)), (5, .val (bv false)), (14, .val (bv true))] [4, 6, 10, 64, 2005, 2007, 2011] [(4, .d (.rp 1002 0)), (6, .d (.rp 1003 0)), (10, .d (.rp 1005 0)), (64, .d (bv true)), bxB 2005 (eXFunctor.b a0), bxB 2007 (eXCone.b a1), bxB 2011 (eXCategory.b a0.Target)] (cc0 ok155 (spec_l02Object_c a0.Target a1.Apex _ hv1) (by kernel_rfl) (.cons (congrArg (fun b => bv b) (congrArg not h2)) (.cons (congrArg (fun b => bv b) h3) .nil))) (by kernel_rfl) (by kernel_rfl) ?_
      refine tr_condT (by kernel_rfl) ?_
      refine tr_sr hT hm [] [8] [(8, .d (bv false))] .nil (by kernel_rfl) (by kernel_rfl) ?_
      refine tr_ret (q_r (rg_r ?_))
      obtain rfl := Option.some.inj hM
      exact retg (names := []) .nil (by kernel_rfl)
    · have hM := ite_false' hM h3
      obtain ⟨v4, hv4, hM⟩ := bind_some' hM
      refine tr_sr hT hm [(3, .call [] [] [.agg (eXCategory.b a0.Target), iv a1.Apex] [] (bv v1)), (5, .val (bv false)), (14, .val (bv false)), (20, .call [] [] [iv (a0.Target.From.length : Int), .sl a1.Legs.length 0 (a1.Legs.flatMap eI.b)] [] (bv v4))] [4, 6, 10, 64, 2005, 2007, 2011] [(4, .d (.rp 1002 0)), (6, .d (.rp 1003 0)), (10, .d (.rp 1005 0)), (64, .d (bv (!v4))), bxB 2005 (eXFunctor.b a0), bxB 2007 (eXCone.b a1), bxB 2011 (eXCategory.b a0.Target)] (cc0 ok155 (spec_l02Object_c a0.Target a1.Apex _ hv1) (by kernel_rfl) (.cons (congrArg (fun b => bv b) (congrArg not h2)) (.cons (congrArg (fun b => bv b) h3) (cc0 ok154 (spec_l01Map_c (a0.Target.From.length : Int) a1.Legs _ hv4) (by kernel_rfl) .nil)))) (by kernel_rfl) (by kernel_rfl) ?_
      rcases Bool.eq_false_or_eq_true v4 with h5 | h5
      · have hM := ite_true' hM h5
        refine tr_condFe (e := !v4) (congrArg not h5) (by kernel_rfl) ?_
        refine tr_skip (q_n ?_)
        refine tr_seq ?_
        refine tr_sr hT hm [] [4, 6, 10, 12, 2005, 2007, 2011] [(4, .d (.rp 1002 0)), (6, .d (.rp 1003 0)), (10, .d (.rp 1005 0)), (12, .d (iv 0)), bxB 2005 (eXFunctor.b a0), bxB 2007 (eXCone.b a1), bxB 2011 (eXCategory.b a0.Target)] .nil (by kernel_rfl) (by kernel_rfl) ?_
        refine tr_block ?_
        refine tr_iterS (fun (s6 : Int) => [(4, .d (.rp 1002 0)), (6, .d (.rp 1003 0)), (10, .d (.rp 1005 0)), (12, .d (iv s6)), bxB 2005 (eXFunctor.b a0), bxB 2007 (eXCone.b a1), bxB 2011 (eXCategory.b a0.Target)]) 0 [4, 6, 10, 12, 2005, 2007, 2011] (by kernel_rfl) hM ?_
        intro n9 next7 ih8 s6 hM
        refine tr_seq ?_
        refine tr_sr hT hm [] [4, 6, 10, 12, 74, 2005, 2007, 2011] [(4, .d (.rp 1002 0)), (6, .d (.rp 1003 0)), (10, .d (.rp 1005 0)), (12, .d (iv s6)), (74, .d (bv (decide (s6 < (a1.Legs.length : Int))))), bxB 2005 (eXFunctor.b a0), bxB 2007 (eXCone.b a1), bxB 2011 (eXCategory.b a0.Target)] .nil (by kernel_rfl) (by kernel_rfl) ?_
        rcases Bool.eq_false_or_eq_true (decide (s6 < (a1.Legs.length : Int))) with h10 | h10
        · have hM := ite_true' hM h10
          refine tr_condTe (e := decide (s6 < (a1.Legs.length : Int))) h10 (by kernel_rfl) ?_
          refine tr_skip (q_n ?_)
          refine tr_seq ?_
          refine tr_block ?_
          obtain ⟨y11, hy11, hM⟩ := bind_some' hM
          have hy11' := idx_some hy11
          obtain ⟨y12, hy12, hM⟩ := bind_some' hM
          have hy12' := idx_some hy12
          rcases Bool.eq_false_or_eq_true (y12 != a1.Apex) with h13 | h13
          · have hM := ite_true' hM h13
            refine tr_sr hT hm [(6, .val (iv y11)), (8, .val (iv y12)), (12, .val (bv true))] [4, 6, 10, 12, 136, 2005, 2007, 2011] [(4, .d (.rp 1002 0)), (6, .d (.rp 1003 0)), (10, .d (.rp 1005 0)), (12, .d (iv s6)), (136, .d (bv true)), bxB 2005 (eXFunctor.b a0), bxB 2007 (eXCone.b a1), bxB 2011 (eXCategory.b a0.Target)] (.cons hy11'.1 (.cons hy11'.2.1 (.cons (at_b0 eI_ok hy11'.2.2 (d := iv y11) (by kernel_rfl)) (.cons hy12'.1 (.cons hy12'.2.1 (.cons (at_b0 eI_ok hy12'.2.2 (d := iv y12) (by kernel_rfl)) (.cons (congrArg (fun b => bv b) h13) .nil))))))) (by kernel_rfl) (by kernel_rfl) ?_
            refine tr_condT (by kernel_rfl) ?_
            refine tr_sr hT hm [] [8] [(8, .d (bv false))] .nil (by kernel_rfl) (by kernel_rfl) ?_
            refine tr_ret (b_r (q_r (l_r (b_r (q_r (rg_r ?_))))))
            obtain rfl := Option.some.inj hM
            exact retg (names := []) .nil (by kernel_rfl)
          · have hM := ite_false' hM h13
            obtain ⟨y14, hy14, hM⟩ := bind_some' hM
            have hy14' := idx_some hy14
            obtain ⟨y15, hy15, hM⟩ := bind_some' hM
            have hy15' := idx_some hy15
            refine tr_sr hT hm [(6, .val (iv y11)), (8, .val (iv y12)), (12, .val (bv false)), (19, .val (iv y11)), (21, .val (iv y14)), (26, .val (iv y15))] [4, 6, 10, 12, 136, 2005, 2007, 2011] [(4, .d (.rp 1002 0)), (6, .d (.rp 1003 0)), (10, .d (.rp 1005 0)), (12, .d (iv s6)), (136, .d (bv (y14 != y15))), bxB 2005 (eXFunctor.b a0), bxB 2007 (eXCone.b a1), bxB 2011 (eXCategory.b a0.Target)] (.cons hy11'.1 (.cons hy11'.2.1 (.cons (at_b0 eI_ok hy11'.2.2 (d := iv y11) (by kernel_rfl)) (.cons hy12'.1 (.cons hy12'.2.1 (.cons (at_b0 eI_ok hy12'.2.2 (d := iv y12) (by kernel_rfl)) (.cons (congrArg (fun b => bv b) h13) (.cons hy11'.1 (.cons hy11'.2.1 (.cons (at_b0 eI_ok hy11'.2.2 (d := iv y11) (by kernel_rfl)) (.cons hy14'.1 (.cons hy14'.2.1 (.cons (at_b0 eI_ok hy14'.2.2 (d := iv y14) (by kernel_rfl)) (.cons hy15'.1 (.cons hy15'.2.1 (.cons (at_b0 eI_ok hy15'.2.2 (d := iv y15) (by kernel_rfl)) .nil)))))))))))))))) (by kernel_rfl) (by kernel_rfl) ?_
            rcases Bool.eq_false_or_eq_true (y14 != y15) with h16 | h16
            · have hM := ite_true' hM h16
              refine tr_condTe (e := y14 != y15) h16 (by kernel_rfl) ?_
              refine tr_sr hT hm [] [8] [(8, .d (bv false))] .nil (by kernel_rfl) (by kernel_rfl) ?_
              refine tr_ret (b_r (q_r (l_r (b_r (q_r (rg_r ?_))))))
              obtain rfl := Option.some.inj hM
              exact retg (names := []) .nil (by kernel_rfl)
            · have hM := ite_false' hM h16
              refine tr_condFe (e := y14 != y15) h16 (by kernel_rfl) ?_
              refine tr_skip (b_n (q_n ?_))
              refine tr_r hT hm [] [4, 6, 10, 12, 2005, 2007, 2011] [(4, .d (.rp 1002 0)), (6, .d (.rp 1003 0)), (10, .d (.rp 1005 0)), (12, .d (iv (IntKind.i64.wrap (s6 + 1)))), bxB 2005 (eXFunctor.b a0), bxB 2007 (eXCone.b a1), bxB 2011 (eXCategory.b a0.Target)] .nil (by kernel_rfl) (by kernel_rfl) (l_n ?_)
              exact trl_start (ks := [4, 6, 10, 12, 2005, 2007, 2011]) (by kernel_rfl) (ih8 (IntKind.i64.wrap (s6 + 1)) hM)
        · have hM := ite_false' hM h10
          refine tr_condFe (e := decide (s6 < (a1.Legs.length : Int))) h10 (by kernel_rfl) ?_
          refine tr_exit (q_x (l_x (b_h (q_n ?_))))
          refine tr_seq ?_
          refine tr_sr hT hm [] [4, 6, 10, 14, 2005, 2007, 2011] [(4, .d (.rp 1002 0)), (6, .d (.rp 1003 0)), (10, .d (.rp 1005 0)), (14, .d (iv 0)), bxB 2005 (eXFunctor.b a0), bxB 2007 (eXCone.b a1), bxB 2011 (eXCategory.b a0.Target)] .nil (by kernel_rfl) (by kernel_rfl) ?_
          refine tr_block ?_
          refine tr_iterS (fun (s17 : Int) => [(4, .d (.rp 1002 0)), (6, .d (.rp 1003 0)), (10, .d (.rp 1005 0)), (14, .d (iv s17)), bxB 2005 (eXFunctor.b a0), bxB 2007 (eXCone.b a1), bxB 2011 (eXCategory.b a0.Target)]) 0 [4, 6, 10, 14, 2005, 2007, 2011] (by kernel_rfl) hM ?_
          intro n20 next18 ih19 s17 hM
          refine tr_seq ?_
          refine tr_sr hT hm [] [4, 6, 10, 14, 146, 2005, 2007, 2011] [(4, .d (.rp 1002 0)), (6, .d (.rp 1003 0)), (10, .d (.rp 1005 0)), (14, .d (iv s17)), (146, .d (bv (decide (s17 < (a0.Arrows.length : Int))))), bxB 2005 (eXFunctor.b a0), bxB 2007 (eXCone.b a1), bxB 2011 (eXCategory.b a0.Target)] .nil (by kernel_rfl) (by kernel_rfl) ?_
          rcases Bool.eq_false_or_eq_true (decide (s17 < (a0.Arrows.length : Int))) with h21 | h21
          · have hM := ite_true' hM h21
            refine tr_condTe (e := decide (s17 < (a0.Arrows.length : Int))) h21 (by kernel_rfl) ?_
            refine tr_skip (q_n ?_)
            refine tr_seq ?_
            refine tr_block ?_
            obtain ⟨y22, hy22, hM⟩ := bind_some' hM
            have hy22' := idx_some hy22
            obtain ⟨y23, hy23, hM⟩ := bind_some' hM
            have hy23' := idx_some hy23
            obtain ⟨y24, hy24, hM⟩ := bind_some' hM
            have hy24' := idx_some hy24
            obtain ⟨v25, hv25, hM⟩ := bind_some' hM
            obtain ⟨y26, hy26, hM⟩ := bind_some' hM
            have hy26' := idx_some hy26
            obtain ⟨y27, hy27, hM⟩ := bind_some' hM
            have hy27' := idx_some hy27
            refine tr_sr hT hm [(8, .val (iv y22)), (10, .val (iv y23)), (15, .val (iv y24)), (16, .call [] [] [.agg (eXCategory.b a0.Target), iv y23, iv y24] [] (iv v25)), (24, .val (iv y26)), (26, .val (iv y27))] [4, 6, 10, 14, 206, 2005, 2007, 2011] [(4, .d (.rp 1002 0)), (6, .d (.rp 1003 0)), (10, .d (.rp 1005 0)), (14, .d (iv s17)), (206, .d (bv (v25 != y27))), bxB 2005 (eXFunctor.b a0), bxB 2007 (eXCone.b a1), bxB 2011 (eXCategory.b a0.Target)] (.cons hy22'.1 (.cons hy22'.2.1 (.cons (at_b0 eI_ok hy22'.2.2 (d := iv y22) (by kernel_rfl)) (.cons hy23'.1 (.cons hy23'.2.1 (.cons (at_b0 eI_ok hy23'.2.2 (d := iv y23) (by kernel_rfl)) (.cons hy24'.1 (.cons hy24'.2.1 (.cons (at_b0 eI_ok hy24'.2.2 (d := iv y24) (by kernel_rfl)) (cc0 ok113 (spec_l02Then_c a0.Target y23 y24 _ hv25) (by kernel_rfl) (.cons hy26'.1 (.cons hy26'.2.1 (.cons (at_b0 eI_ok hy26'.2.2 (d := iv y26) (by kernel_rfl)) (.cons hy27'.1 (.cons hy27'.2.1 (.cons (at_b0 eI_ok hy27'.2.2 (d := iv y27) (by kernel_rfl)) .nil)))))))))))))))) (by kernel_rfl) (by kernel_rfl) ?_
            rcases Bool.eq_false_or_eq_true (v25 != y27) with h28 | h28
            · have hM := ite_true' hM h28
              refine tr_condTe (e := v25 != y27) h28 (by kernel_rfl) ?_
              refine tr_sr hT hm [] [8] [(8, .d (bv false))] .nil (by kernel_rfl) (by kernel_rfl) ?_
              refine tr_ret (b_r (q_r (l_r (b_r (q_r (rg_r ?_))))))
              obtain rfl := Option.some.inj hM
              exact retg (names := []) .nil (by kernel_rfl)
            · have hM := ite_false' hM h28
              refine tr_condFe (e := v25 != y27) h28 (by kernel_rfl) ?_
              refine tr_skip (b_n (q_n ?_))
              refine tr_r hT hm [] [4, 6, 10, 14, 2005, 2007, 2011] [(4, .d (.rp 1002 0)), (6, .d (.rp 1003 0)), (10, .d (.rp 1005 0)), (14, .d (iv (IntKind.i64.wrap (s17 + 1)))), bxB 2005 (eXFunctor.b a0), bxB 2007 (eXCone.b a1), bxB 2011 (eXCategory.b a0.Target)] .nil (by kernel_rfl) (by kernel_rfl) (l_n ?_)
              exact trl_start (ks := [4, 6, 10, 14, 2005, 2007, 2011]) (by kernel_rfl) (ih19 (IntKind.i64.wrap (s17 + 1)) hM)
          · have hM := ite_false' hM h21
            refine tr_condFe (e := decide (s17 < (a0.Arrows.length : Int))) h21 (by kernel_rfl) ?_
            refine tr_exit (q_x (l_x (b_h (q_n ?_))))
            refine tr_sr hT hm [] [8] [(8, .d (bv true))] .nil (by kernel_rfl) (by kernel_rfl) ?_
            refine tr_ret (rg_r ?_)
            obtain rfl := Option.some.inj hM
            exact retg (names := []) .nil (by kernel_rfl)
      · have hM := ite_false' hM h5
        refine tr_condTe (e := !v4) (congrArg not h5) (by kernel_rfl) ?_
        refine tr_sr hT hm [] [8] [(8, .d (bv false))] .nil (by kernel_rfl) (by kernel_rfl) ?_
        refine tr_ret (q_r (rg_r ?_))
        obtain rfl := Option.some.inj hM
        exact retg (names := []) .nil (by kernel_rfl)
  · have hM := ite_false' hM h2
    refine tr_sr hT hm [(3, .call [] [] [.agg (eXCategory.b a0.Target), iv a1.Apex] [] (bv v1)), (5, .val (bv true))] [4, 6, 10, 64, 2005, 2007, 2011] [(4, .d (.rp 1002 0)), (6, .d (.rp 1003 0)), (10, .d (.rp 1005 0)), (64, .d (bv true)), bxB 2005 (eXFunctor.b a0), bxB 2007 (eXCone.b a1), bxB 2011 (eXCategory.b a0.Target)] (cc0 ok155 (spec_l02Object_c a0.Target a1.Apex _ hv1) (by kernel_rfl) (.cons (congrArg (fun b => bv b) (congrArg not h2)) .nil)) (by kernel_rfl) (by kernel_rfl) ?_
    refine tr_condT (by kernel_rfl) ?_
    refine tr_sr hT hm [] [8] [(8, .d (bv false))] .nil (by kernel_rfl) (by kernel_rfl) ?_
    refine tr_ret (q_r (rg_r ?_))
    obtain rfl := Option.some.inj hM
    exact retg (names := []) .nil (by kernel_rfl)

theorem ok82 : CallOk Try.prog 82 := callOk_of Try.func82 (by kernel_rfl) (by kernel_rfl)
theorem impl_isCone_c (a0 : XFunctor) (a1 : XCone) (r : Bool) (hM : M.impl_isCone a0 a1 = some r) :
    FnC Try.prog 82 [] [.pt (eXFunctor.b a0) 0, .agg (eXCone.b a1)] [] (bv r) := by
  refine fnc_startG (N := 103) (np := 500) hT Try.func82 rfl rfl (by kernel_rfl) ?_
  unfold M.impl_isCone at hM
  refine tr_start (ks := [0, 2]) (st' := [(0, .d (.pt (eXFunctor.b a0) 0)), (2, .d (.agg (eXCone.b a1)))]) (by kernel_rfl) ?_
  refine tr_sr hT hm [] [0, 6, 2007] [(0, .d (.pt (eXFunctor.b a0) 0)), (6, .d (.rp 1003 0)), bxB 2007 (eXCone.b a1)] .nil (by kernel_rfl) (by kernel_rfl) ?_
  refine tr_sr hT hm [] [0, 6, 10, 2007] [(0, .d (.pt (eXFunctor.b a0) 0)), (6, .d (.rp 1003 0)), (10, .d (.pt (eXFunctor.b a0) 5)), bxB 2007 (eXCone.b a1)] .nil (by kernel_rfl) (by kernel_rfl) ?_
  refine tr_seq ?_
  obtain ⟨v1, hv1, hM⟩ := bind_some' hM
  rcases Bool.eq_false_or_eq_true v1 with h2 | h2
  · have hM := ite_true' hM h2
    rcases Bool.eq_false_or_eq_true ((a1.Legs.length : Int) != (a0.Objects.length : Int)) with h3 | h3
    · have hM := ite_true' hM h3
      refine tr_sr hT hm [(7, .call [] [] [iv a1.Apex, iv 0, iv (IntKind.i64.wrap (a0.Target.Objects - 1))] [] (bv v1)), (9, .val (bv false)), (20, .val (bv true))] [0, 6, 10, 80, 2007] [(0, .d (.pt (eXFunctor.b a0) 0)), (6, .d (.rp 1003 0)), (10, .d (.pt (eXFunctor.b a0) 5)), (80, .d (bv true)), bxB 2007 (eXCone.b a1)] (cc0 ok159 (impl_inRange_c a1.Apex 0 (IntKind.i64.wrap (a0.Target.Objects - 1)) _ hv1) (by kernel_rfl) (.cons (congrArg (fun b => bv b) (congrArg not h2)) (.cons (congrArg (fun b => bv b) h3) .nil))) (by kernel_rfl) (by kernel_rfl) ?_
      refine tr_condT (by kernel_rfl) ?_
      refine tr_sr hT hm [] [8] [(8, .d (bv false))] .nil (by kernel_rfl) (by kernel_rfl) ?_
      refine tr_ret (q_r (rg_r ?_))
      obtain rfl := Option.some.inj hM
      exact retg (names := []) .nil (by kernel_rfl)
    · have hM := ite_false' hM h3
      obtain ⟨v4, hv4, hM⟩ := bind_some' hM
      obtain ⟨v5, hv5, hM⟩ := bind_some' hM
      refine tr_sr hT hm [(7, .call [] [] [iv a1.Apex, iv 0, iv (IntKind.i64.wrap (a0.Target.Objects - 1))] [] (bv v1)), (9, .val (bv false)), (20, .val (bv false)), (24, .call [] [] [.pt (eXCategory.b a0.Target) 0] [] (iv v4)), (25, .call [] [] [.sl a1.Legs.length 0 (a1.Legs.flatMap eI.b), iv v4] [] (bv v5))] [0, 6, 10, 80, 2007] [(0, .d (.pt (eXFunctor.b a0) 0)), (6, .d (.rp 1003 0)), (10, .d (.pt (eXFunctor.b a0) 5)), (80, .d (bv (!v5))), bxB 2007 (eXCone.b a1)] (cc0 ok159 (impl_inRange_c a1.Apex 0 (IntKind.i64.wrap (a0.Target.Objects - 1)) _ hv1) (by kernel_rfl) (.cons (congrArg (fun b => bv b) (congrArg not h2)) (.cons (congrArg (fun b => bv b) h3) (cc (B := []) (ρ := []) (rB := []) ok161 (impl_Category_arrows_c a0.Target _ hv4) (.cons (.pass (.ptk (ds := eXFunctor.b a0) (ds' := eXCategory.b a0.Target) (off := 5) (n := 5) (by kernel_rfl) (by kernel_rfl) (by kernel_rfl))) .nil) (.inl rfl) (cc0 ok160 (impl_within_c a1.Legs v4 _ hv5) (by kernel_rfl) .nil))))) (by kernel_rfl) (by kernel_rfl) ?_
      rcases Bool.eq_false_or_eq_true v5 with h6 | h6
      · have hM := ite_true' hM h6
        refine tr_condFe (e := !v5) (congrArg not h6) (by kernel_rfl) ?_
        refine tr_skip (q_n ?_)
        refine tr_seq ?_
        refine tr_sr hT hm [] [0, 6, 10, 84, 86, 88, 2007] [(0, .d (.pt (eXFunctor.b a0) 0)), (6, .d (.rp 1003 0)), (10, .d (.pt (eXFunctor.b a0) 5)), (84, .d (.sl a1.Legs.length 0 (a1.Legs.flatMap eI.b))), (86, .d (iv (a1.Legs.length : Int))), (88, .d (iv 0)), bxB 2007 (eXCone.b a1)] .nil (by kernel_rfl) (by kernel_rfl) ?_
        refine tr_block ?_
        refine tr_iterS (fun (s7 : Int) => [(0, .d (.pt (eXFunctor.b a0) 0)), (6, .d (.rp 1003 0)), (10, .d (.pt (eXFunctor.b a0) 5)), (84, .d (.sl a1.Legs.length 0 (a1.Legs.flatMap eI.b))), (86, .d (iv (a1.Legs.length : Int))), (88, .d (iv s7)), bxB 2007 (eXCone.b a1)]) 0 [0, 6, 10, 84, 86, 88, 2007] (by kernel_rfl) hM ?_
        intro n10 next8 ih9 s7 hM
        refine tr_sr hT hm [] [0, 6, 10, 84, 86, 88, 90, 2007] [(0, .d (.pt (eXFunctor.b a0) 0)), (6, .d (.rp 1003 0)), (10, .d (.pt (eXFunctor.b a0) 5)), (84, .d (.sl a1.Legs.length 0 (a1.Legs.flatMap eI.b))), (86, .d (iv (a1.Legs.length : Int))), (88, .d (iv s7)), (90, .d (bv (decide (s7 < (a1.Legs.length : Int))))), bxB 2007 (eXCone.b a1)] .nil (by kernel_rfl) (by kernel_rfl) ?_
        refine tr_seq ?_
        rcases Bool.eq_false_or_eq_true (decide (s7 < (a1.Legs.length : Int))) with h11 | h11
        · have hM := ite_true' hM h11
          refine tr_condTe (e := decide (s7 < (a1.Legs.length : Int))) h11 (by kernel_rfl) ?_
          refine tr_skip (q_n ?_)
          refine tr_seq ?_
          refine tr_block ?_
          obtain ⟨y12, hy12, hM⟩ := bind_some' hM
          have hy12' := idx_some hy12
          refine tr_sr hT hm [(2, .val (iv y12))] [0, 6, 10, 12, 14, 84, 86, 88, 2007] [(0, .d (.pt (eXFunctor.b a0) 0)), (6, .d (.rp 1003 0)), (10, .d (.pt (eXFunctor.b a0) 5)), (12, .d (iv s7)), (14, .d (iv y12)), (84, .d (.sl a1.Legs.length 0 (a1.Legs.flatMap eI.b))), (86, .d (iv (a1.Legs.length : Int))), (88, .d (iv s7)), bxB 2007 (eXCone.b a1)] (.cons hy12'.1 (.cons hy12'.2.1 (.cons (at_b0 eI_ok hy12'.2.2 (d := iv y12) (by kernel_rfl)) .nil))) (by kernel_rfl) (by kernel_rfl) ?_
          obtain ⟨v13, hv13, hM⟩ := bind_some' hM
          obtain ⟨y14, hy14, hM⟩ := bind_some' hM
          have hy14' := idx_some hy14
          refine tr_sr hT hm [(2, .call [] [] [.pt (eXCategory.b a0.Target) 0, iv y12] [] (.agg (eXends.o v13))), (11, .val (iv y14))] [0, 6, 10, 84, 86, 88, 124, 2007] [(0, .d (.pt (eXFunctor.b a0) 0)), (6, .d (.rp 1003 0)), (10, .d (.pt (eXFunctor.b a0) 5)), (84, .d (.sl a1.Legs.length 0 (a1.Legs.flatMap eI.b))), (86, .d (iv (a1.Legs.length : Int))), (88, .d (iv s7)), (124, .d (bv (((v13.from_ == a1.Apex) && (v13.to_ == y14)) == false))), bxB 2007 (eXCone.b a1)] (cc (B := []) (ρ := []) (rB := []) ok162 (impl_Category_ends_c a0.Target y12 _ hv13) (.cons (.pass (.ptk (ds := eXFunctor.b a0) (ds' := eXCategory.b a0.Target) (off := 5) (n := 5) (by kernel_rfl) (by kernel_rfl) (by kernel_rfl))) (.cons (.same rfl) .nil)) (.inl rfl) (.cons hy14'.1 (.cons hy14'.2.1 (.cons (at_b0 eI_ok hy14'.2.2 (d := iv y14) (by kernel_rfl)) (.cons (by kernel_rfl : Try.prog.stoodInHeld 217 = false) (.cons (by kernel_rfl : Try.prog.eqGuardType Try.prog.depth 217 = false) .nil)))))) (by kernel_rfl) (by kernel_rfl) ?_
          rcases Bool.eq_false_or_eq_true (((v13.from_ == a1.Apex) && (v13.to_ == y14)) == false) with h15 | h15
          · have hM := ite_true' hM h15
            refine tr_condTe (e := ((v13.from_ == a1.Apex) && (v13.to_ == y14)) == false) h15 (by kernel_rfl) ?_
            refine tr_sr hT hm [] [8] [(8, .d (bv false))] .nil (by kernel_rfl) (by kernel_rfl) ?_
            refine tr_ret (b_r (q_r (l_r (b_r (q_r (rg_r ?_))))))
            obtain rfl := Option.some.inj hM
            exact retg (names := []) .nil (by kernel_rfl)
          · have hM := ite_false' hM h15
            refine tr_condFe (e := ((v13.from_ == a1.Apex) && (v13.to_ == y14)) == false) h15 (by kernel_rfl) ?_
            refine tr_skip (b_n (q_n ?_))
            refine tr_r hT hm [] [0, 6, 10, 84, 86, 88, 2007] [(0, .d (.pt (eXFunctor.b a0) 0)), (6, .d (.rp 1003 0)), (10, .d (.pt (eXFunctor.b a0) 5)), (84, .d (.sl a1.Legs.length 0 (a1.Legs.flatMap eI.b))), (86, .d (iv (a1.Legs.length : Int))), (88, .d (iv (IntKind.i64.wrap (s7 + 1)))), bxB 2007 (eXCone.b a1)] .nil (by kernel_rfl) (by kernel_rfl) (l_n ?_)
            exact trl_start (ks := [0, 6, 10, 84, 86, 88, 2007]) (by kernel_rfl) (ih9 (IntKind.i64.wrap (s7 + 1)) hM)
        · have hM := ite_false' hM h11
          refine tr_condFe (e := decide (s7 < (a1.Legs.length : Int))) h11 (by kernel_rfl) ?_
          refine tr_exit (q_x (l_x (b_h (q_n ?_))))
          refine tr_seq ?_
          refine tr_sr hT hm [] [0, 6, 10, 134, 136, 138, 2007] [(0, .d (.pt (eXFunctor.b a0) 0)), (6, .d (.rp 1003 0)), (10, .d (.pt (eXFunctor.b a0) 5)), (134, .d (.sl a0.Arrows.length 0 (a0.Arrows.flatMap eI.b))), (136, .d (iv (a0.Arrows.length : Int))), (138, .d (iv 0)), bxB 2007 (eXCone.b a1)] .nil (by kernel_rfl) (by kernel_rfl) ?_
          refine tr_block ?_
          refine tr_iterS (fun (s16 : Int) => [(0, .d (.pt (eXFunctor.b a0) 0)), (6, .d (.rp 1003 0)), (10, .d (.pt (eXFunctor.b a0) 5)), (134, .d (.sl a0.Arrows.length 0 (a0.Arrows.flatMap eI.b))), (136, .d (iv (a0.Arrows.length : Int))), (138, .d (iv s16)), bxB 2007 (eXCone.b a1)]) 0 [0, 6, 10, 134, 136, 138, 2007] (by kernel_rfl) hM ?_
          intro n19 next17 ih18 s16 hM
          refine tr_sr hT hm [] [0, 6, 10, 134, 136, 138, 140, 2007] [(0, .d (.pt (eXFunctor.b a0) 0)), (6, .d (.rp 1003 0)), (10, .d (.pt (eXFunctor.b a0) 5)), (134, .d (.sl a0.Arrows.length 0 (a0.Arrows.flatMap eI.b))), (136, .d (iv (a0.Arrows.length : Int))), (138, .d (iv s16)), (140, .d (bv (decide (s16 < (a0.Arrows.length : Int))))), bxB 2007 (eXCone.b a1)] .nil (by kernel_rfl) (by kernel_rfl) ?_
          refine tr_seq ?_
          rcases Bool.eq_false_or_eq_true (decide (s16 < (a0.Arrows.length : Int))) with h20 | h20
          · have hM := ite_true' hM h20
            refine tr_condTe (e := decide (s16 < (a0.Arrows.length : Int))) h20 (by kernel_rfl) ?_
            refine tr_skip (q_n ?_)
            refine tr_seq ?_
            refine tr_block ?_
            obtain ⟨y21, hy21, hM⟩ := bind_some' hM
            have hy21' := idx_some hy21
            refine tr_sr hT hm [(2, .val (iv y21))] [0, 6, 10, 16, 18, 134, 136, 138, 2007] [(0, .d (.pt (eXFunctor.b a0) 0)), (6, .d (.rp 1003 0)), (10, .d (.pt (eXFunctor.b a0) 5)), (16, .d (iv s16)), (18, .d (iv y21)), (134, .d (.sl a0.Arrows.length 0 (a0.Arrows.flatMap eI.b))), (136, .d (iv (a0.Arrows.length : Int))), (138, .d (iv s16)), bxB 2007 (eXCone.b a1)] (.cons hy21'.1 (.cons hy21'.2.1 (.cons (at_b0 eI_ok hy21'.2.2 (d := iv y21) (by kernel_rfl)) .nil))) (by kernel_rfl) (by kernel_rfl) ?_
            obtain ⟨y22, hy22, hM⟩ := bind_some' hM
            have hy22' := idx_some hy22
            obtain ⟨y23, hy23, hM⟩ := bind_some' hM
            have hy23' := idx_some hy23
            obtain ⟨v24, hv24, hM⟩ := bind_some' hM
            obtain ⟨y25, hy25, hM⟩ := bind_some' hM
            have hy25' := idx_some hy25
            obtain ⟨y26, hy26, hM⟩ := bind_some' hM
            have hy26' := idx_some hy26
            refine tr_sr hT hm [(10, .val (iv y22)), (12, .val (iv y23)), (14, .call [] [] [.pt (eXCategory.b a0.Target) 0, iv y23, iv y21] [] (iv v24)), (24, .val (iv y25)), (26, .val (iv y26))] [0, 6, 10, 134, 136, 138, 202, 2007] [(0, .d (.pt (eXFunctor.b a0) 0)), (6, .d (.rp 1003 0)), (10, .d (.pt (eXFunctor.b a0) 5)), (134, .d (.sl a0.Arrows.length 0 (a0.Arrows.flatMap eI.b))), (136, .d (iv (a0.Arrows.length : Int))), (138, .d (iv s16)), (202, .d (bv (v24 != y26))), bxB 2007 (eXCone.b a1)] (.cons hy22'.1 (.cons hy22'.2.1 (.cons (at_b0 eI_ok hy22'.2.2 (d := iv y22) (by kernel_rfl)) (.cons hy23'.1 (.cons hy23'.2.1 (.cons (at_b0 eI_ok hy23'.2.2 (d := iv y23) (by kernel_rfl)) (cc (B := []) (ρ := []) (rB := []) ok163 (impl_Category_then_c a0.Target y23 y21 _ hv24) (.cons (.pass (.ptk (ds := eXFunctor.b a0) (ds' := eXCategory.b a0.Target) (off := 5) (n := 5) (by kernel_rfl) (by kernel_rfl) (by kernel_rfl))) (.cons (.same rfl) (.cons (.same rfl) .nil))) (.inl rfl) (.cons hy25'.1 (.cons hy25'.2.1 (.cons (at_b0 eI_ok hy25'.2.2 (d := iv y25) (by kernel_rfl)) (.cons hy26'.1 (.cons hy26'.2.1 (.cons (at_b0 eI_ok hy26'.2.2 (d := iv y26) (by kernel_rfl)) .nil))))))))))))) (by kernel_rfl) (by kernel_rfl) ?_
            rcases Bool.eq_false_or_eq_true (v24 != y26) with h27 | h27
            · have hM := ite_true' hM h27
              refine tr_condTe (e := v24 != y26) h27 (by kernel_rfl) ?_
              refine tr_sr hT hm [] [8] [(8, .d (bv false))] .nil (by kernel_rfl) (by kernel_rfl) ?_
              refine tr_ret (b_r (q_r (l_r (b_r (q_r (rg_r ?_))))))
              obtain rfl := Option.some.inj hM
              exact retg (names := []) .nil (by kernel_rfl)
            · have hM := ite_false' hM h27
              refine tr_condFe (e := v24 != y26) h27 (by kernel_rfl) ?_
              refine tr_skip (b_n (q_n ?_))
              refine tr_r hT hm [] [0, 6, 10, 134, 136, 138, 2007] [(0, .d (.pt (eXFunctor.b a0) 0)), (6, .d (.rp 1003 0)), (10, .d (.pt (eXFunctor.b a0) 5)), (134, .d (.sl a0.Arrows.length 0 (a0.Arrows.flatMap eI.b))), (136, .d (iv (a0.Arrows.length : Int))), (138, .d (iv (IntKind.i64.wrap (s16 + 1)))), bxB 2007 (eXCone.b a1)] .nil (by kernel_rfl) (by kernel_rfl) (l_n ?_)
              exact trl_start (ks := [0, 6, 10, 134, 136, 138, 2007]) (by kernel_rfl) (ih18 (IntKind.i64.wrap (s16 + 1)) hM)
          · have hM := ite_false' hM h20
            refine tr_condFe (e := decide (s16 < (a0.Arrows.length : Int))) h20 (by kernel_rfl) ?_
            refine tr_exit (q_x (l_x (b_h (q_n ?_))))
            refine tr_sr hT hm [] [8] [(8, .d (bv true))] .nil (by kernel_rfl) (by kernel_rfl) ?_
            refine tr_ret (rg_r ?_)
            obtain rfl := Option.some.inj hM
            exact retg (names := []) .nil (by kernel_rfl)
      · have hM := ite_false' hM h6
        refine tr_condTe (e := !v5) (congrArg not h6) (by kernel_rfl) ?_
        refine tr_sr hT hm [] [8] [(8, .d (bv false))] .nil (by kernel_rfl) (by kernel_rfl) ?_
        refine tr_ret (q_r (rg_r ?_))
        obtain rfl := Option.some.inj hM
        exact retg (names := []) .nil (by kernel_rfl)
  · have hM := ite_false' hM h2
    refine tr_sr hT hm [(7, .call [] [] [iv a1.Apex, iv 0, iv (IntKind.i64.wrap (a0.Target.Objects - 1))] [] (bv v1)), (9, .val (bv true))] [0, 6, 10, 80, 2007] [(0, .d (.pt (eXFunctor.b a0) 0)), (6, .d (.rp 1003 0)), (10, .d (.pt (eXFunctor.b a0) 5)), (80, .d (bv true)), bxB 2007 (eXCone.b a1)] (cc0 ok159 (impl_inRange_c a1.Apex 0 (IntKind.i64.wrap (a0.Target.Objects - 1)) _ hv1) (by kernel_rfl) (.cons (congrArg (fun b => bv b) (congrArg not h2)) .nil)) (by kernel_rfl) (by kernel_rfl) ?_
    refine tr_condT (by kernel_rfl) ?_
    refine tr_sr hT hm [] [8] [(8, .d (bv false))] .nil (by kernel_rfl) (by kernel_rfl) ?_
    refine tr_ret (q_r (rg_r ?_))
    obtain rfl := Option.some.inj hM
    exact retg (names := []) .nil (by kernel_rfl)

theorem ok83 : CallOk Try.prog 83 := callOk_of Try.func83 (by kernel_rfl) (by kernel_rfl)
theorem impl_coconesOf_c (a0 : XFunctor) (r : XFunctor) (hM : M.impl_coconesOf a0 = some r) :
    FnC Try.prog 83 [] [.pt (eXFunctor.b a0) 0] [] (.ifc 221 (.agg [.pt (eXFunctor.b r) 0])) := by
  refine fnc_startG (N := 8) (np := 500) hT Try.func83 rfl rfl (by kernel_rfl) ?_
  unfold M.impl_coconesOf at hM
  refine tr_start (ks := [0]) (st' := [(0, .d (.pt (eXFunctor.b a0) 0))]) (by kernel_rfl) ?_
  refine tr_sr hT hm [] [0] [(0, .d (.pt (eXFunctor.b a0) 0))] .nil (by kernel_rfl) (by kernel_rfl) ?_
  obtain ⟨v1, hv1, hM⟩ := bind_some' hM
  refine tr_sr hT hm [(1, .call [] [] [.pt (eXFunctor.b a0) 0] [] (.agg (eXFunctor.o v1)))] [6, 2007, 14003, 14005, 14007, 14009, 14013, 14015, 14017, 14019, 14021, 14023] ([(6, .d (.rp 1003 0)), bxO 2007 7000 (eXFunctor.o v1)] ++ rsS 7000 (eXFunctor.o v1)) (cc0 ok133 (impl_Functor_opposite_c a0 _ hv1) (by kernel_rfl) (.cons (Nat.le_of_ble_eq_true (n := 12) (m := 12) rfl) .nil)) (by kernel_rfl) (by kernel_rfl) ?_
  refine tr_sr hT hm [] [4, 2007, 14003, 14005, 14007, 14009, 14013, 14015, 14017, 14019, 14021, 14023] ([(4, .d (.ifc 221 (.agg [.rp 1003 0]))), bxO 2007 7000 (eXFunctor.o v1)] ++ rsS 7000 (eXFunctor.o v1)) .nil (by kernel_rfl) (by kernel_rfl) ?_
  refine tr_ret (rg_r ?_)
  refine RetG.by (imp_freeze (B := [1003, 7001, 7002, 7003, 7004, 7006, 7007, 7008, 7009, 7010, 7011]) (cv := [(2, .ifc 221 (.agg [.pt (eXFunctor.b v1) 0]))]) (.cons (by kernel_rfl) (.ifc (.agg (.cons (.rp (r := 1003) (sz := 1) (cells := [iv v1.Source.Objects, .rs 7001 0 v1.Source.From.length, .rs 7002 0 v1.Source.To.length, .rs 7003 0 v1.Source.Identity.length, .rs 7004 0 v1.Source.Composites.length, iv v1.Target.Objects, .rs 7006 0 v1.Target.From.length, .rs 7007 0 v1.Target.To.length, .rs 7008 0 v1.Target.Identity.length, .rs 7009 0 v1.Target.Composites.length, .rs 7010 0 v1.Objects.length, .rs 7011 0 v1.Arrows.length]) (refs := [7001, 7002, 7003, 7004, 7006, 7007, 7008, 7009, 7010, 7011]) (memB (by kernel_rfl)) (by kernel_rfl) (.cons .v (.cons (.rs (r := 7001) (sz := 1) (refs := []) (memB (by kernel_rfl)) (by kernel_rfl) (bor_flat eI_ok _ _ _)) (.cons (.rs (r := 7002) (sz := 1) (refs := []) (memB (by kernel_rfl)) (by kernel_rfl) (bor_flat eI_ok _ _ _)) (.cons (.rs (r := 7003) (sz := 1) (refs := []) (memB (by kernel_rfl)) (by kernel_rfl) (bor_flat eI_ok _ _ _)) (.cons (.rs (r := 7004) (sz := 1) (refs := []) (memB (by kernel_rfl)) (by kernel_rfl) (bor_flat (eS_ok eI_ok) _ _ _)) (.cons .v (.cons (.rs (r := 7006) (sz := 1) (refs := []) (memB (by kernel_rfl)) (by kernel_rfl) (bor_flat eI_ok _ _ _)) (.cons (.rs (r := 7007) (sz := 1) (refs := []) (memB (by kernel_rfl)) (by kernel_rfl) (bor_flat eI_ok _ _ _)) (.cons (.rs (r := 7008) (sz := 1) (refs := []) (memB (by kernel_rfl)) (by kernel_rfl) (bor_flat eI_ok _ _ _)) (.cons (.rs (r := 7009) (sz := 1) (refs := []) (memB (by kernel_rfl)) (by kernel_rfl) (bor_flat (eS_ok eI_ok) _ _ _)) (.cons (.rs (r := 7010) (sz := 1) (refs := []) (memB (by kernel_rfl)) (by kernel_rfl) (bor_flat eI_ok _ _ _)) (.cons (.rs (r := 7011) (sz := 1) (refs := []) (memB (by kernel_rfl)) (by kernel_rfl) (bor_flat eI_ok _ _ _)) .nil))))))))))))) .nil))) .nil)) ?_
  obtain rfl := Option.some.inj hM
  exact retg (names := []) .nil (by kernel_rfl)

theorem ok300 : CallOk Try.prog 300 := callOk_of Try.func300 (by kernel_rfl) (by kernel_rfl)
theorem impl_cocones_diagram_c (a0 : Xcocones) (r : XFunctor) (hM : M.impl_cocones_diagram a0 = some r) :
    FnC Try.prog 300 [] [.agg (eXcocones.b a0)] [] (.pt (eXFunctor.b r) 0) := by
  refine fnc_startG (N := 5) (np := 500) hT Try.func300 rfl rfl (by kernel_rfl) ?_
  unfold M.impl_cocones_diagram at hM
  refine tr_start (ks := [0]) (st' := [(0, .d (.agg [.pt (eXFunctor.b a0.opposite_) 0]))]) (by kernel_rfl) ?_
  refine tr_sr hT hm [] [2, 2003] [(2, .d (.rp 1001 0)), (2003, .r (.arr 1 [.pt (eXFunctor.b a0.opposite_) 0] []))] .nil (by kernel_rfl) (by kernel_rfl) ?_
  refine tr_sr hT hm [] [4] [(4, .d (.pt (eXFunctor.b a0.opposite_) 0))] .nil (by kernel_rfl) (by kernel_rfl) ?_
  refine tr_ret (rg_r ?_)
  obtain rfl := Option.some.inj hM
  exact retg (names := []) .nil (by kernel_rfl)

theorem ok22 : CallOk Try.prog 22 := callOk_of Try.func22 (by kernel_rfl) (by kernel_rfl)
theorem laws_eqCone_c (a0 : XCone) (a1 : XCone) (r : Bool) (hM : M.laws_eqCone a0 a1 = some r) :
    FnC Try.prog 22 [] [.agg (eXCone.b a0), .agg (eXCone.b a1)] [] (bv r) := by
  refine fnc_startG (N := 16) (np := 500) hT Try.func22 rfl rfl (by kernel_rfl) ?_
  unfold M.laws_eqCone at hM
  refine tr_start (ks := [0, 2]) (st' := [(0, .d (.agg (eXCone.b a0))), (2, .d (.agg (eXCone.b a1)))]) (by kernel_rfl) ?_
  refine tr_sr hT hm [] [4, 6, 2005, 2007] [(4, .d (.rp 1002 0)), (6, .d (.rp 1003 0)), bxB 2005 (eXCone.b a0), bxB 2007 (eXCone.b a1)] .nil (by kernel_rfl) (by kernel_rfl) ?_
  refine tr_seq ?_
  refine tr_sr hT hm [] [4, 6, 18, 2005, 2007] [(4, .d (.rp 1002 0)), (6, .d (.rp 1003 0)), (18, .d (bv (a0.Apex != a1.Apex))), bxB 2005 (eXCone.b a0), bxB 2007 (eXCone.b a1)] .nil (by kernel_rfl) (by kernel_rfl) ?_
  rcases Bool.eq_false_or_eq_true (a0.Apex != a1.Apex) with h1 | h1
  · have hM := ite_true' hM h1
    refine tr_condTe (e := a0.Apex != a1.Apex) h1 (by kernel_rfl) ?_
    refine tr_sr hT hm [] [8] [(8, .d (bv false))] .nil (by kernel_rfl) (by kernel_rfl) ?_
    refine tr_ret (q_r (rg_r ?_))
    obtain rfl := Option.some.inj hM
    exact retg (names := []) .nil (by kernel_rfl)
  · have hM := ite_false' hM h1
    refine tr_condFe (e := a0.Apex != a1.Apex) h1 (by kernel_rfl) ?_
    refine tr_skip (q_n ?_)
    refine tr_seq ?_
    obtain ⟨v2, hv2, hM⟩ := bind_some' hM
    refine tr_sr hT hm [(4, .call [] [] [.sl a0.Legs.length 0 (a0.Legs.flatMap eI.b), .sl a1.Legs.length 0 (a1.Legs.flatMap eI.b)] [] (bv v2))] [30] [(30, .d (bv (!v2)))] (cc0 ok32 (laws_eqInt64S_c a0.Legs a1.Legs _ hv2) (by kernel_rfl) .nil) (by kernel_rfl) (by kernel_rfl) ?_
    rcases Bool.eq_false_or_eq_true v2 with h3 | h3
    · have hM := ite_true' hM h3
      refine tr_condFe (e := !v2) (congrArg not h3) (by kernel_rfl) ?_
      refine tr_skip (q_n ?_)
      refine tr_sr hT hm [] [8] [(8, .d (bv true))] .nil (by kernel_rfl) (by kernel_rfl) ?_
      refine tr_ret (rg_r ?_)
      obtain rfl := Option.some.inj hM
      exact retg (names := []) .nil (by kernel_rfl)
    · have hM := ite_false' hM h3
      refine tr_condTe (e := !v2) (congrArg not h3) (by kernel_rfl) ?_
      refine tr_sr hT hm [] [8] [(8, .d (bv false))] .nil (by kernel_rfl) (by kernel_rfl) ?_
      refine tr_ret (q_r (rg_r ?_))
      obtain rfl := Option.some.inj hM
      exact retg (names := []) .nil (by kernel_rfl)

end Go.Proofs.Ytiikkfdehbcfaaa.WzN
