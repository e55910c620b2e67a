/- Walks. Printed by wip/gen. -/
import Derived.Test.YtpfdieaiogfihaaGxw43M
import Derived.Test.YtpfdieaiogfihaaGxwRW
import Derived.KernelRfl
namespace Go.Proofs.Ytpfdieaiogfihaa.Ww43
open Go.Gx Go.Proofs.Ytpfdieaiogfihaa.WvB Go.Proofs.Ytpfdieaiogfihaa.WwN Go.Proofs.Ytpfdieaiogfihaa.WvS Go.Proofs.Ytpfdieaiogfihaa.WvF Go.Proofs.Ytpfdieaiogfihaa.WwT Go.Proofs.Ytpfdieaiogfihaa.WwU Go.Proofs.Ytpfdieaiogfihaa.WvH Go.Proofs.Ytpfdieaiogfihaa.WvI Go.Proofs.Ytpfdieaiogfihaa.WwM Go.Proofs.Ytpfdieaiogfihaa.WwR

theorem eXCategory_r : EncR eXCategory := (eA_r (eC_r eI_r _) (eA_r (eC_r (eS_r eI_ok) _) (eA_r (eC_r (eS_r eI_ok) _) (eA_r (eC_r (eS_r eI_ok) _) (eC_r (eS_r (eS_ok eI_ok)) _)))))
theorem eXFunctor_r : EncR eXFunctor := (eA_r (eC_r eXCategory_r _) (eA_r (eC_r eXCategory_r _) (eA_r (eC_r (eS_r eI_ok) _) (eC_r (eS_r eI_ok) _))))
theorem eXends_r : EncR eXends := (eA_r (eC_r eI_r _) (eC_r eI_r _))
theorem eXTransformation_r : EncR eXTransformation := (eA_r (eC_r eXFunctor_r _) (eA_r (eC_r eXFunctor_r _) (eC_r (eS_r eI_ok) _)))
theorem eXMonad_r : EncR eXMonad := (eA_r (eC_r eXFunctor_r _) (eA_r (eC_r (eS_r eI_ok) _) (eC_r (eS_r eI_ok) _)))
def T : Tab := [(2, ⟨.int .i64, 1, 8, [.int .i64 0]⟩),
  (3, ⟨.int .i64, 1, 8, [.int .i64 0]⟩),
  (4, ⟨.bool, 1, 1, [.bool false]⟩),
  (22, ⟨.slice 2, 1, 24, [.slice .none 0 0]⟩),
  (23, ⟨.slice 22, 1, 24, [.slice .none 0 0]⟩),
  (25, ⟨.struct #[⟨"Objects", 2, 0, false, "", "", 0⟩, ⟨"From", 22, 1, false, "", "", 8⟩, ⟨"To", 22, 2, false, "", "", 32⟩, ⟨"Identity", 22, 3, false, "", "", 56⟩, ⟨"Composites", 23, 4, false, "", "", 80⟩], 5, 104, [.int .i64 0, .slice .none 0 0, .slice .none 0 0, .slice .none 0 0, .slice .none 0 0]⟩),
  (27, ⟨.struct #[⟨"Source", 25, 0, false, "", "", 0⟩, ⟨"Target", 25, 5, false, "", "", 104⟩, ⟨"Objects", 22, 10, false, "", "", 208⟩, ⟨"Arrows", 22, 11, false, "", "", 232⟩], 12, 256, [.int .i64 0, .slice .none 0 0, .slice .none 0 0, .slice .none 0 0, .slice .none 0 0, .int .i64 0, .slice .none 0 0, .slice .none 0 0, .slice .none 0 0, .slice .none 0 0, .slice .none 0 0, .slice .none 0 0]⟩),
  (29, ⟨.struct #[⟨"On", 27, 0, false, "", "", 0⟩, ⟨"Unit", 22, 12, false, "", "", 256⟩, ⟨"Join", 22, 13, false, "", "", 280⟩], 14, 304, [.int .i64 0, .slice .none 0 0, .slice .none 0 0, .slice .none 0 0, .slice .none 0 0, .int .i64 0, .slice .none 0 0, .slice .none 0 0, .slice .none 0 0, .slice .none 0 0, .slice .none 0 0, .slice .none 0 0, .slice .none 0 0, .slice .none 0 0]⟩),
  (32, ⟨.struct #[⟨"Objects", 2, 0, false, "", "", 0⟩, ⟨"From", 22, 1, false, "", "", 8⟩, ⟨"To", 22, 2, false, "", "", 32⟩, ⟨"Identity", 22, 3, false, "", "", 56⟩, ⟨"Composites", 23, 4, false, "", "", 80⟩], 5, 104, [.int .i64 0, .slice .none 0 0, .slice .none 0 0, .slice .none 0 0, .slice .none 0 0]⟩),
  (34, ⟨.struct #[⟨"Source", 32, 0, false, "", "", 0⟩, ⟨"Target", 32, 5, false, "", "", 104⟩, ⟨"Objects", 22, 10, false, "", "", 208⟩, ⟨"Arrows", 22, 11, false, "", "", 232⟩], 12, 256, [.int .i64 0, .slice .none 0 0, .slice .none 0 0, .slice .none 0 0, .slice .none 0 0, .int .i64 0, .slice .none 0 0, .slice .none 0 0, .slice .none 0 0, .slice .none 0 0, .slice .none 0 0, .slice .none 0 0]⟩),
  (36, ⟨.struct #[⟨"On", 34, 0, false, "", "", 0⟩, ⟨"Unit", 22, 12, false, "", "", 256⟩, ⟨"Join", 22, 13, false, "", "", 280⟩], 14, 304, [.int .i64 0, .slice .none 0 0, .slice .none 0 0, .slice .none 0 0, .slice .none 0 0, .int .i64 0, .slice .none 0 0, .slice .none 0 0, .slice .none 0 0, .slice .none 0 0, .slice .none 0 0, .slice .none 0 0, .slice .none 0 0, .slice .none 0 0]⟩),
  (116, ⟨.struct #[⟨"Source", 34, 0, false, "", "", 0⟩, ⟨"Target", 34, 12, false, "", "", 256⟩, ⟨"Components", 22, 24, false, "", "", 512⟩], 25, 536, [.int .i64 0, .slice .none 0 0, .slice .none 0 0, .slice .none 0 0, .slice .none 0 0, .int .i64 0, .slice .none 0 0, .slice .none 0 0, .slice .none 0 0, .slice .none 0 0, .slice .none 0 0, .slice .none 0 0, .int .i64 0, .slice .none 0 0, .slice .none 0 0, .slice .none 0 0, .slice .none 0 0, .int .i64 0, .slice .none 0 0, .slice .none 0 0, .slice .none 0 0, .slice .none 0 0, .slice .none 0 0, .slice .none 0 0, .slice .none 0 0]⟩)]
theorem hT : TabOk Try.prog T := ⟨tiok (by kernel_rfl) (by kernel_rfl), tiok (by kernel_rfl) (by kernel_rfl), tiok (by kernel_rfl) (by kernel_rfl), tiok (by kernel_rfl) (by kernel_rfl), tiok (by kernel_rfl) (by kernel_rfl), tiok (by kernel_rfl) (by kernel_rfl), tiok (by kernel_rfl) (by kernel_rfl), tiok (by kernel_rfl) (by kernel_rfl), tiok (by kernel_rfl) (by kernel_rfl), tiok (by kernel_rfl) (by kernel_rfl), tiok (by kernel_rfl) (by kernel_rfl), tiok (by kernel_rfl) (by kernel_rfl), trivial⟩
theorem hm : Try.prog.follows .mixedOrders = true := by kernel_rfl

theorem ok72 : CallOk Try.prog 72 := callOk_of Try.func72 (by kernel_rfl) (by kernel_rfl)
theorem spec_l16Map_c (a0 : XMonad) (a1 : XMonad) (a2 : List Int) (r : Bool) (hM : M.spec_l16Map a0 a1 a2 = some r) :
    FnC Try.prog 72 [] [.agg (eXMonad.b a0), .agg (eXMonad.b a1), .sl a2.length 0 (a2.flatMap eI.b)] [] (bv r) := by
  refine fnc_startG (N := 83) (np := 500) hT Try.func72 rfl rfl (by kernel_rfl) ?_
  unfold M.spec_l16Map at hM
  refine tr_start (ks := [0, 2, 4]) (st' := [(0, .d (.agg (eXMonad.b a0))), (2, .d (.agg (eXMonad.b a1))), (4, .d (.sl a2.length 0 (a2.flatMap eI.b)))]) (by kernel_rfl) ?_
  refine tr_sr hT hm [] [4, 6, 8, 2007, 2009] [(4, .d (.sl a2.length 0 (a2.flatMap eI.b))), (6, .d (.rp 1003 0)), (8, .d (.rp 1004 0)), bxB 2007 (eXMonad.b a0), bxB 2009 (eXMonad.b a1)] .nil (by kernel_rfl) (by kernel_rfl) ?_
  refine tr_seq ?_
  obtain ⟨v1, hv1, hM⟩ := bind_some' hM
  refine tr_sr hT hm [(5, .call [] [] [.agg (eXFunctor.b a0.On), .agg (eXFunctor.b a1.On), .sl a2.length 0 (a2.flatMap eI.b)] [] (bv v1))] [4, 6, 8, 32, 2007, 2009] [(4, .d (.sl a2.length 0 (a2.flatMap eI.b))), (6, .d (.rp 1003 0)), (8, .d (.rp 1004 0)), (32, .d (bv (!v1))), bxB 2007 (eXMonad.b a0), bxB 2009 (eXMonad.b a1)] (cc0 ok89 (spec_l15Natural_c a0.On a1.On a2 _ hv1) (by kernel_rfl) .nil) (by kernel_rfl) (by kernel_rfl) ?_
  rcases Bool.eq_false_or_eq_true v1 with h2 | h2
  · have hM := ite_true' hM h2
    refine tr_condFe (e := !v1) (congrArg not h2) (by kernel_rfl) ?_
    refine tr_skip (q_n ?_)
    refine tr_sr hT hm [] [4, 6, 8, 14, 2007, 2009, 2015] [(4, .d (.sl a2.length 0 (a2.flatMap eI.b))), (6, .d (.rp 1003 0)), (8, .d (.rp 1004 0)), (14, .d (.rp 1007 0)), bxB 2007 (eXMonad.b a0), bxB 2009 (eXMonad.b a1), bxB 2015 (eXCategory.b a0.On.Source)] (.cons (Nat.le_of_ble_eq_true (n := 5) (m := 5) rfl) .nil) (by kernel_rfl) (by kernel_rfl) ?_
    refine tr_seq ?_
    refine tr_sr hT hm [] [4, 6, 8, 14, 16, 2007, 2009, 2015] [(4, .d (.sl a2.length 0 (a2.flatMap eI.b))), (6, .d (.rp 1003 0)), (8, .d (.rp 1004 0)), (14, .d (.rp 1007 0)), (16, .d (iv 0)), bxB 2007 (eXMonad.b a0), bxB 2009 (eXMonad.b a1), bxB 2015 (eXCategory.b a0.On.Source)] .nil (by kernel_rfl) (by kernel_rfl) ?_
    refine tr_block ?_
    refine tr_iterS (fun (s3 : Int) => [(4, .d (.sl a2.length 0 (a2.flatMap eI.b))), (6, .d (.rp 1003 0)), (8, .d (.rp 1004 0)), (14, .d (.rp 1007 0)), (16, .d (iv s3)), bxB 2007 (eXMonad.b a0), bxB 2009 (eXMonad.b a1), bxB 2015 (eXCategory.b a0.On.Source)]) 0 [4, 6, 8, 14, 16, 2007, 2009, 2015] (by kernel_rfl) hM ?_
    intro n6 next4 ih5 s3 hM
    refine tr_seq ?_
    refine tr_sr hT hm [] [4, 6, 8, 14, 16, 46, 2007, 2009, 2015] [(4, .d (.sl a2.length 0 (a2.flatMap eI.b))), (6, .d (.rp 1003 0)), (8, .d (.rp 1004 0)), (14, .d (.rp 1007 0)), (16, .d (iv s3)), (46, .d (bv (decide (s3 < a0.On.Source.Objects)))), bxB 2007 (eXMonad.b a0), bxB 2009 (eXMonad.b a1), bxB 2015 (eXCategory.b a0.On.Source)] .nil (by kernel_rfl) (by kernel_rfl) ?_
    rcases Bool.eq_false_or_eq_true (decide (s3 < a0.On.Source.Objects)) with h7 | h7
    · have hM := ite_true' hM h7
      refine tr_condTe (e := decide (s3 < a0.On.Source.Objects)) h7 (by kernel_rfl) ?_
      refine tr_skip (q_n ?_)
      refine tr_seq ?_
      refine tr_block ?_
      refine tr_seq ?_
      obtain ⟨y8, hy8, hM⟩ := bind_some' hM
      have hy8' := idx_some hy8
      obtain ⟨y9, hy9, hM⟩ := bind_some' hM
      have hy9' := idx_some hy9
      obtain ⟨v10, hv10, hM⟩ := bind_some' hM
      obtain ⟨y11, hy11, hM⟩ := bind_some' hM
      have hy11' := idx_some hy11
      refine tr_sr hT hm [(5, .val (iv y8)), (9, .val (iv y9)), (10, .call [] [] [.agg (eXCategory.b a0.On.Source), iv y8, iv y9] [] (iv v10)), (15, .val (iv y11))] [4, 6, 8, 14, 16, 84, 2007, 2009, 2015] [(4, .d (.sl a2.length 0 (a2.flatMap eI.b))), (6, .d (.rp 1003 0)), (8, .d (.rp 1004 0)), (14, .d (.rp 1007 0)), (16, .d (iv s3)), (84, .d (bv (v10 != y11))), bxB 2007 (eXMonad.b a0), bxB 2009 (eXMonad.b a1), bxB 2015 (eXCategory.b a0.On.Source)] (.cons hy8'.1 (.cons hy8'.2.1 (.cons (at_b0 eI_ok hy8'.2.2 (d := iv y8) (by kernel_rfl)) (.cons hy9'.1 (.cons hy9'.2.1 (.cons (at_b0 eI_ok hy9'.2.2 (d := iv y9) (by kernel_rfl)) (cc0 ok68 (spec_l02Then_c a0.On.Source y8 y9 _ hv10) (by kernel_rfl) (.cons hy11'.1 (.cons hy11'.2.1 (.cons (at_b0 eI_ok hy11'.2.2 (d := iv y11) (by kernel_rfl)) .nil)))))))))) (by kernel_rfl) (by kernel_rfl) ?_
      rcases Bool.eq_false_or_eq_true (v10 != y11) with h12 | h12
      · have hM := ite_true' hM h12
        refine tr_condTe (e := v10 != y11) h12 (by kernel_rfl) ?_
        refine tr_sr hT hm [] [12] [(12, .d (bv false))] .nil (by kernel_rfl) (by kernel_rfl) ?_
        refine tr_ret (q_r (b_r (q_r (l_r (b_r (q_r (rg_r ?_)))))))
        obtain rfl := Option.some.inj hM
        exact retg (names := []) .nil (by kernel_rfl)
      · have hM := ite_false' hM h12
        refine tr_condFe (e := v10 != y11) h12 (by kernel_rfl) ?_
        refine tr_skip (q_n ?_)
        obtain ⟨y13, hy13, hM⟩ := bind_some' hM
        have hy13' := idx_some hy13
        obtain ⟨y14, hy14, hM⟩ := bind_some' hM
        have hy14' := idx_some hy14
        obtain ⟨y15, hy15, hM⟩ := bind_some' hM
        have hy15' := idx_some hy15
        obtain ⟨v16, hv16, hM⟩ := bind_some' hM
        refine tr_sr hT hm [(7, .val (iv y13)), (9, .val (iv y14)), (16, .val (iv y9)), (18, .val (iv y15)), (19, .call [] [] [.agg (eXCategory.b a0.On.Source), iv y14, iv y15] [] (iv v16))] [4, 6, 8, 14, 16, 18, 2007, 2009, 2015] [(4, .d (.sl a2.length 0 (a2.flatMap eI.b))), (6, .d (.rp 1003 0)), (8, .d (.rp 1004 0)), (14, .d (.rp 1007 0)), (16, .d (iv s3)), (18, .d (iv v16)), bxB 2007 (eXMonad.b a0), bxB 2009 (eXMonad.b a1), bxB 2015 (eXCategory.b a0.On.Source)] (.cons hy13'.1 (.cons hy13'.2.1 (.cons (at_b0 eI_ok hy13'.2.2 (d := iv y13) (by kernel_rfl)) (.cons hy14'.1 (.cons hy14'.2.1 (.cons (at_b0 eI_ok hy14'.2.2 (d := iv y14) (by kernel_rfl)) (.cons hy9'.1 (.cons hy9'.2.1 (.cons (at_b0 eI_ok hy9'.2.2 (d := iv y9) (by kernel_rfl)) (.cons hy15'.1 (.cons hy15'.2.1 (.cons (at_b0 eI_ok hy15'.2.2 (d := iv y15) (by kernel_rfl)) (cc0 ok68 (spec_l02Then_c a0.On.Source y14 y15 _ hv16) (by kernel_rfl) .nil))))))))))))) (by kernel_rfl) (by kernel_rfl) ?_
        obtain ⟨y17, hy17, hM⟩ := bind_some' hM
        have hy17' := idx_some hy17
        obtain ⟨v18, hv18, hM⟩ := bind_some' hM
        obtain ⟨y19, hy19, hM⟩ := bind_some' hM
        have hy19' := idx_some hy19
        obtain ⟨v20, hv20, hM⟩ := bind_some' hM
        refine tr_sr hT hm [(5, .val (iv y17)), (9, .val (iv y9)), (10, .call [] [] [.agg (eXCategory.b a0.On.Source), iv y17, iv y9] [] (iv v18)), (17, .val (iv y19)), (18, .call [] [] [.agg (eXCategory.b a0.On.Source), iv v16, iv y19] [] (iv v20))] [4, 6, 8, 14, 16, 164, 2007, 2009, 2015] [(4, .d (.sl a2.length 0 (a2.flatMap eI.b))), (6, .d (.rp 1003 0)), (8, .d (.rp 1004 0)), (14, .d (.rp 1007 0)), (16, .d (iv s3)), (164, .d (bv (v18 != v20))), bxB 2007 (eXMonad.b a0), bxB 2009 (eXMonad.b a1), bxB 2015 (eXCategory.b a0.On.Source)] (.cons hy17'.1 (.cons hy17'.2.1 (.cons (at_b0 eI_ok hy17'.2.2 (d := iv y17) (by kernel_rfl)) (.cons hy9'.1 (.cons hy9'.2.1 (.cons (at_b0 eI_ok hy9'.2.2 (d := iv y9) (by kernel_rfl)) (cc0 ok68 (spec_l02Then_c a0.On.Source y17 y9 _ hv18) (by kernel_rfl) (.cons hy19'.1 (.cons hy19'.2.1 (.cons (at_b0 eI_ok hy19'.2.2 (d := iv y19) (by kernel_rfl)) (cc0 ok68 (spec_l02Then_c a0.On.Source v16 y19 _ hv20) (by kernel_rfl) .nil))))))))))) (by kernel_rfl) (by kernel_rfl) ?_
        rcases Bool.eq_false_or_eq_true (v18 != v20) with h21 | h21
        · have hM := ite_true' hM h21
          refine tr_condTe (e := v18 != v20) h21 (by kernel_rfl) ?_
          refine tr_sr hT hm [] [12] [(12, .d (bv false))] .nil (by kernel_rfl) (by kernel_rfl) ?_
          refine tr_ret (b_r (q_r (l_r (b_r (q_r (rg_r ?_))))))
          obtain rfl := Option.some.inj hM
          exact retg (names := []) .nil (by kernel_rfl)
        · have hM := ite_false' hM h21
          refine tr_condFe (e := v18 != v20) h21 (by kernel_rfl) ?_
          refine tr_skip (b_n (q_n ?_))
          refine tr_r hT hm [] [4, 6, 8, 14, 16, 2007, 2009, 2015] [(4, .d (.sl a2.length 0 (a2.flatMap eI.b))), (6, .d (.rp 1003 0)), (8, .d (.rp 1004 0)), (14, .d (.rp 1007 0)), (16, .d (iv (IntKind.i64.wrap (s3 + 1)))), bxB 2007 (eXMonad.b a0), bxB 2009 (eXMonad.b a1), bxB 2015 (eXCategory.b a0.On.Source)] .nil (by kernel_rfl) (by kernel_rfl) (l_n ?_)
          exact trl_start (ks := [4, 6, 8, 14, 16, 2007, 2009, 2015]) (by kernel_rfl) (ih5 (IntKind.i64.wrap (s3 + 1)) hM)
    · have hM := ite_false' hM h7
      refine tr_condFe (e := decide (s3 < a0.On.Source.Objects)) h7 (by kernel_rfl) ?_
      refine tr_exit (q_x (l_x (b_h (q_n ?_))))
      refine tr_sr hT hm [] [12] [(12, .d (bv true))] .nil (by kernel_rfl) (by kernel_rfl) ?_
      refine tr_ret (rg_r ?_)
      obtain rfl := Option.some.inj hM
      exact retg (names := []) .nil (by kernel_rfl)
  · have hM := ite_false' hM h2
    refine tr_condTe (e := !v1) (congrArg not h2) (by kernel_rfl) ?_
    refine tr_sr hT hm [] [12] [(12, .d (bv false))] .nil (by kernel_rfl) (by kernel_rfl) ?_
    refine tr_ret (q_r (rg_r ?_))
    obtain rfl := Option.some.inj hM
    exact retg (names := []) .nil (by kernel_rfl)

theorem ok33 : CallOk Try.prog 33 := callOk_of Try.func33 (by kernel_rfl) (by kernel_rfl)
theorem spec_IsMonadMap_c (a0 : XMonad) (a1 : XMonad) (a2 : List Int) (r : Bool × Int) (hM : M.spec_IsMonadMap a0 a1 a2 = some r) :
    FnC Try.prog 33 [] [.agg (eXMonad.b a0), .agg (eXMonad.b a1), .sl a2.length 0 (a2.flatMap eI.b)] [] (.tup [bv r.1, iv r.2]) := by
  refine fnc_startG (N := 19) (np := 500) hT Try.func33 rfl rfl (by kernel_rfl) ?_
  unfold M.spec_IsMonadMap at hM
  refine tr_start (ks := [0, 2, 4]) (st' := [(0, .d (.agg (eXMonad.b a0))), (2, .d (.agg (eXMonad.b a1))), (4, .d (.sl a2.length 0 (a2.flatMap eI.b)))]) (by kernel_rfl) ?_
  refine tr_sr hT hm [] [4, 6, 8, 2007, 2009] [(4, .d (.sl a2.length 0 (a2.flatMap eI.b))), (6, .d (.rp 1003 0)), (8, .d (.rp 1004 0)), bxB 2007 (eXMonad.b a0), bxB 2009 (eXMonad.b a1)] .nil (by kernel_rfl) (by kernel_rfl) ?_
  refine tr_seq ?_
  obtain ⟨v1, hv1, hM⟩ := bind_some' hM
  refine tr_sr hT hm [(2, .call [] [] [.agg (eXMonad.b a0), .agg (eXMonad.b a1)] [] (iv v1))] [4, 6, 8, 16, 2007, 2009] [(4, .d (.sl a2.length 0 (a2.flatMap eI.b))), (6, .d (.rp 1003 0)), (8, .d (.rp 1004 0)), (16, .d (iv v1)), bxB 2007 (eXMonad.b a0), bxB 2009 (eXMonad.b a1)] (cc0 ok71 (spec_l16Two_c a0 a1 _ hv1) (by kernel_rfl) .nil) (by kernel_rfl) (by kernel_rfl) ?_
  refine tr_sr hT hm [] [4, 6, 8, 16, 26, 2007, 2009] [(4, .d (.sl a2.length 0 (a2.flatMap eI.b))), (6, .d (.rp 1003 0)), (8, .d (.rp 1004 0)), (16, .d (iv v1)), (26, .d (bv (v1 != 0))), bxB 2007 (eXMonad.b a0), bxB 2009 (eXMonad.b a1)] .nil (by kernel_rfl) (by kernel_rfl) ?_
  rcases Bool.eq_false_or_eq_true (v1 != 0) with h2 | h2
  · have hM := ite_true' hM h2
    refine tr_condTe (e := v1 != 0) h2 (by kernel_rfl) ?_
    refine tr_sr hT hm [] [12, 14] [(12, .d (bv false)), (14, .d (iv v1))] .nil (by kernel_rfl) (by kernel_rfl) ?_
    refine tr_ret (q_r (rg_r ?_))
    obtain rfl := Option.some.inj hM
    exact retg (names := []) .nil (by kernel_rfl)
  · have hM := ite_false' hM h2
    refine tr_condFe (e := v1 != 0) h2 (by kernel_rfl) ?_
    refine tr_skip (q_n ?_)
    obtain ⟨v3, hv3, hM⟩ := bind_some' hM
    refine tr_sr hT hm [(3, .call [] [] [.agg (eXMonad.b a0), .agg (eXMonad.b a1), .sl a2.length 0 (a2.flatMap eI.b)] [] (bv v3))] [12, 14] [(12, .d (bv v3)), (14, .d (iv 0))] (cc0 ok72 (spec_l16Map_c a0 a1 a2 _ hv3) (by kernel_rfl) .nil) (by kernel_rfl) (by kernel_rfl) ?_
    refine tr_ret (rg_r ?_)
    obtain rfl := Option.some.inj hM
    exact retg (names := []) .nil (by kernel_rfl)

theorem ok74 : CallOk Try.prog 74 := callOk_of Try.func74 (by kernel_rfl) (by kernel_rfl)
theorem impl_isMonadMap_c (a0 : XMonad) (a1 : XMonad) (a2 : List Int) (r : Bool) (hM : M.impl_isMonadMap a0 a1 a2 = some r) :
    FnC Try.prog 74 [] [.pt (eXMonad.b a0) 0, .pt (eXMonad.b a1) 0, .sl a2.length 0 (a2.flatMap eI.b)] [] (bv r) := by
  refine fnc_startG (N := 84) (np := 500) hT Try.func74 rfl rfl (by kernel_rfl) ?_
  unfold M.impl_isMonadMap at hM
  refine tr_start (ks := [0, 2, 4]) (st' := [(0, .d (.pt (eXMonad.b a0) 0)), (2, .d (.pt (eXMonad.b a1) 0)), (4, .d (.sl a2.length 0 (a2.flatMap eI.b)))]) (by kernel_rfl) ?_
  refine tr_sr hT hm [] [0, 2, 4] [(0, .d (.pt (eXMonad.b a0) 0)), (2, .d (.pt (eXMonad.b a1) 0)), (4, .d (.sl a2.length 0 (a2.flatMap eI.b)))] .nil (by kernel_rfl) (by kernel_rfl) ?_
  refine tr_sr hT hm [] [0, 2, 4, 14] [(0, .d (.pt (eXMonad.b a0) 0)), (2, .d (.pt (eXMonad.b a1) 0)), (4, .d (.sl a2.length 0 (a2.flatMap eI.b))), (14, .d (.pt (eXMonad.b a0) 0))] .nil (by kernel_rfl) (by kernel_rfl) ?_
  refine tr_sr hT hm [] [0, 2, 4, 14, 16, 2017] [(0, .d (.pt (eXMonad.b a0) 0)), (2, .d (.pt (eXMonad.b a1) 0)), (4, .d (.sl a2.length 0 (a2.flatMap eI.b))), (14, .d (.pt (eXMonad.b a0) 0)), (16, .d (.rp 1008 0)), (2017, .r (.arr 1 [iv a0.On.Source.Objects, .sl a0.On.Source.From.length 0 (a0.On.Source.From.flatMap eI.b), .sl a0.On.Source.To.length 0 (a0.On.Source.To.flatMap eI.b), .sl a0.On.Source.Identity.length 0 (a0.On.Source.Identity.flatMap eI.b), .sl a0.On.Source.Composites.length 0 (a0.On.Source.Composites.flatMap (eS eI).b), iv a0.On.Target.Objects, .sl a0.On.Target.From.length 0 (a0.On.Target.From.flatMap eI.b), .sl a0.On.Target.To.length 0 (a0.On.Target.To.flatMap eI.b), .sl a0.On.Target.Identity.length 0 (a0.On.Target.Identity.flatMap eI.b), .sl a0.On.Target.Composites.length 0 (a0.On.Target.Composites.flatMap (eS eI).b), .sl a0.On.Objects.length 0 (a0.On.Objects.flatMap eI.b), .sl a0.On.Arrows.length 0 (a0.On.Arrows.flatMap eI.b), iv a1.On.Source.Objects, .sl a1.On.Source.From.length 0 (a1.On.Source.From.flatMap eI.b), .sl a1.On.Source.To.length 0 (a1.On.Source.To.flatMap eI.b), .sl a1.On.Source.Identity.length 0 (a1.On.Source.Identity.flatMap eI.b), .sl a1.On.Source.Composites.length 0 (a1.On.Source.Composites.flatMap (eS eI).b), iv a1.On.Target.Objects, .sl a1.On.Target.From.length 0 (a1.On.Target.From.flatMap eI.b), .sl a1.On.Target.To.length 0 (a1.On.Target.To.flatMap eI.b), .sl a1.On.Target.Identity.length 0 (a1.On.Target.Identity.flatMap eI.b), .sl a1.On.Target.Composites.length 0 (a1.On.Target.Composites.flatMap (eS eI).b), .sl a1.On.Objects.length 0 (a1.On.Objects.flatMap eI.b), .sl a1.On.Arrows.length 0 (a1.On.Arrows.flatMap eI.b), .sl a2.length 0 (a2.flatMap eI.b)] []))] (.cons (Nat.le_of_ble_eq_true (n := 25) (m := 25) rfl) .nil) (by kernel_rfl) (by kernel_rfl) ?_
  refine tr_seq ?_
  obtain ⟨v1, hv1, hM⟩ := bind_some' hM
  refine tr_sr hT hm [(0, .call [1008] [] [.pt (eXTransformation.b (⟨a0.On, a1.On, a2⟩ : XTransformation)) 0] [] (bv v1))] [0, 2, 4, 14, 52] [(0, .d (.pt (eXMonad.b a0) 0)), (2, .d (.pt (eXMonad.b a1) 0)), (4, .d (.sl a2.length 0 (a2.flatMap eI.b))), (14, .d (.pt (eXMonad.b a0) 0)), (52, .d (bv (!v1)))] (cc (B := [1008]) (ρ := []) (rB := [(1008, .arr 1 [iv a0.On.Source.Objects, .sl a0.On.Source.From.length 0 (a0.On.Source.From.flatMap eI.b), .sl a0.On.Source.To.length 0 (a0.On.Source.To.flatMap eI.b), .sl a0.On.Source.Identity.length 0 (a0.On.Source.Identity.flatMap eI.b), .sl a0.On.Source.Composites.length 0 (a0.On.Source.Composites.flatMap (eS eI).b), iv a0.On.Target.Objects, .sl a0.On.Target.From.length 0 (a0.On.Target.From.flatMap eI.b), .sl a0.On.Target.To.length 0 (a0.On.Target.To.flatMap eI.b), .sl a0.On.Target.Identity.length 0 (a0.On.Target.Identity.flatMap eI.b), .sl a0.On.Target.Composites.length 0 (a0.On.Target.Composites.flatMap (eS eI).b), .sl a0.On.Objects.length 0 (a0.On.Objects.flatMap eI.b), .sl a0.On.Arrows.length 0 (a0.On.Arrows.flatMap eI.b), iv a1.On.Source.Objects, .sl a1.On.Source.From.length 0 (a1.On.Source.From.flatMap eI.b), .sl a1.On.Source.To.length 0 (a1.On.Source.To.flatMap eI.b), .sl a1.On.Source.Identity.length 0 (a1.On.Source.Identity.flatMap eI.b), .sl a1.On.Source.Composites.length 0 (a1.On.Source.Composites.flatMap (eS eI).b), iv a1.On.Target.Objects, .sl a1.On.Target.From.length 0 (a1.On.Target.From.flatMap eI.b), .sl a1.On.Target.To.length 0 (a1.On.Target.To.flatMap eI.b), .sl a1.On.Target.Identity.length 0 (a1.On.Target.Identity.flatMap eI.b), .sl a1.On.Target.Composites.length 0 (a1.On.Target.Composites.flatMap (eS eI).b), .sl a1.On.Objects.length 0 (a1.On.Objects.flatMap eI.b), .sl a1.On.Arrows.length 0 (a1.On.Arrows.flatMap eI.b), .sl a2.length 0 (a2.flatMap eI.b)] [])]) ok109 (impl_Transformation_isNatural_c (⟨a0.On, a1.On, a2⟩ : XTransformation) _ hv1) (.cons (.of1 (.rp (r := 1008) (sz := 1) (cells := [iv a0.On.Source.Objects, .sl a0.On.Source.From.length 0 (a0.On.Source.From.flatMap eI.b), .sl a0.On.Source.To.length 0 (a0.On.Source.To.flatMap eI.b), .sl a0.On.Source.Identity.length 0 (a0.On.Source.Identity.flatMap eI.b), .sl a0.On.Source.Composites.length 0 (a0.On.Source.Composites.flatMap (eS eI).b), iv a0.On.Target.Objects, .sl a0.On.Target.From.length 0 (a0.On.Target.From.flatMap eI.b), .sl a0.On.Target.To.length 0 (a0.On.Target.To.flatMap eI.b), .sl a0.On.Target.Identity.length 0 (a0.On.Target.Identity.flatMap eI.b), .sl a0.On.Target.Composites.length 0 (a0.On.Target.Composites.flatMap (eS eI).b), .sl a0.On.Objects.length 0 (a0.On.Objects.flatMap eI.b), .sl a0.On.Arrows.length 0 (a0.On.Arrows.flatMap eI.b), iv a1.On.Source.Objects, .sl a1.On.Source.From.length 0 (a1.On.Source.From.flatMap eI.b), .sl a1.On.Source.To.length 0 (a1.On.Source.To.flatMap eI.b), .sl a1.On.Source.Identity.length 0 (a1.On.Source.Identity.flatMap eI.b), .sl a1.On.Source.Composites.length 0 (a1.On.Source.Composites.flatMap (eS eI).b), iv a1.On.Target.Objects, .sl a1.On.Target.From.length 0 (a1.On.Target.From.flatMap eI.b), .sl a1.On.Target.To.length 0 (a1.On.Target.To.flatMap eI.b), .sl a1.On.Target.Identity.length 0 (a1.On.Target.Identity.flatMap eI.b), .sl a1.On.Target.Composites.length 0 (a1.On.Target.Composites.flatMap (eS eI).b), .sl a1.On.Objects.length 0 (a1.On.Objects.flatMap eI.b), .sl a1.On.Arrows.length 0 (a1.On.Arrows.flatMap eI.b), .sl a2.length 0 (a2.flatMap eI.b)]) (refs := []) (memB (by kernel_rfl)) (by kernel_rfl) (.cons .v (.cons (.same rfl rfl) (.cons (.same rfl rfl) (.cons (.same rfl rfl) (.cons (.same rfl rfl) (.cons .v (.cons (.same rfl rfl) (.cons (.same rfl rfl) (.cons (.same rfl rfl) (.cons (.same rfl rfl) (.cons (.same rfl rfl) (.cons (.same rfl rfl) (.cons .v (.cons (.same rfl rfl) (.cons (.same rfl rfl) (.cons (.same rfl rfl) (.cons (.same rfl rfl) (.cons .v (.cons (.same rfl rfl) (.cons (.same rfl rfl) (.cons (.same rfl rfl) (.cons (.same rfl rfl) (.cons (.same rfl rfl) (.cons (.same rfl rfl) (.cons (.same rfl rfl) .nil))))))))))))))))))))))))))) .nil) (.inr ⟨.v, trivial⟩) .nil) (by kernel_rfl) (by kernel_rfl) ?_
  rcases Bool.eq_false_or_eq_true v1 with h2 | h2
  · have hM := ite_true' hM h2
    refine tr_condFe (e := !v1) (congrArg not h2) (by kernel_rfl) ?_
    refine tr_skip (q_n ?_)
    refine tr_seq ?_
    refine tr_sr hT hm [] [0, 2, 4, 14, 54, 56, 58] [(0, .d (.pt (eXMonad.b a0) 0)), (2, .d (.pt (eXMonad.b a1) 0)), (4, .d (.sl a2.length 0 (a2.flatMap eI.b))), (14, .d (.pt (eXMonad.b a0) 0)), (54, .d (.sl a2.length 0 (a2.flatMap eI.b))), (56, .d (iv (a2.length : Int))), (58, .d (iv 0))] .nil (by kernel_rfl) (by kernel_rfl) ?_
    refine tr_block ?_
    refine tr_iterS (fun (s3 : Int) => [(0, .d (.pt (eXMonad.b a0) 0)), (2, .d (.pt (eXMonad.b a1) 0)), (4, .d (.sl a2.length 0 (a2.flatMap eI.b))), (14, .d (.pt (eXMonad.b a0) 0)), (54, .d (.sl a2.length 0 (a2.flatMap eI.b))), (56, .d (iv (a2.length : Int))), (58, .d (iv s3))]) 0 [0, 2, 4, 14, 54, 56, 58] (by kernel_rfl) hM ?_
    intro n6 next4 ih5 s3 hM
    refine tr_sr hT hm [] [0, 2, 4, 14, 54, 56, 58, 60] [(0, .d (.pt (eXMonad.b a0) 0)), (2, .d (.pt (eXMonad.b a1) 0)), (4, .d (.sl a2.length 0 (a2.flatMap eI.b))), (14, .d (.pt (eXMonad.b a0) 0)), (54, .d (.sl a2.length 0 (a2.flatMap eI.b))), (56, .d (iv (a2.length : Int))), (58, .d (iv s3)), (60, .d (bv (decide (s3 < (a2.length : Int)))))] .nil (by kernel_rfl) (by kernel_rfl) ?_
    refine tr_seq ?_
    rcases Bool.eq_false_or_eq_true (decide (s3 < (a2.length : Int))) with h7 | h7
    · have hM := ite_true' hM h7
      refine tr_condTe (e := decide (s3 < (a2.length : Int))) h7 (by kernel_rfl) ?_
      refine tr_skip (q_n ?_)
      refine tr_seq ?_
      refine tr_block ?_
      obtain ⟨y8, hy8, hM⟩ := bind_some' hM
      have hy8' := idx_some hy8
      refine tr_sr hT hm [(2, .val (iv y8))] [0, 2, 4, 14, 18, 20, 54, 56, 58] [(0, .d (.pt (eXMonad.b a0) 0)), (2, .d (.pt (eXMonad.b a1) 0)), (4, .d (.sl a2.length 0 (a2.flatMap eI.b))), (14, .d (.pt (eXMonad.b a0) 0)), (18, .d (iv s3)), (20, .d (iv y8)), (54, .d (.sl a2.length 0 (a2.flatMap eI.b))), (56, .d (iv (a2.length : Int))), (58, .d (iv s3))] (.cons hy8'.1 (.cons hy8'.2.1 (.cons (at_b0 eI_ok hy8'.2.2 (d := iv y8) (by kernel_rfl)) .nil))) (by kernel_rfl) (by kernel_rfl) ?_
      refine tr_seq ?_
      obtain ⟨y9, hy9, hM⟩ := bind_some' hM
      have hy9' := idx_some hy9
      obtain ⟨v10, hv10, hM⟩ := bind_some' hM
      obtain ⟨y11, hy11, hM⟩ := bind_some' hM
      have hy11' := idx_some hy11
      refine tr_sr hT hm [(7, .val (iv y9)), (9, .call [] [] [.pt (eXCategory.b a0.On.Source) 0, iv y9, iv y8] [] (iv v10)), (16, .val (iv y11))] [0, 2, 4, 14, 18, 20, 54, 56, 58, 102] [(0, .d (.pt (eXMonad.b a0) 0)), (2, .d (.pt (eXMonad.b a1) 0)), (4, .d (.sl a2.length 0 (a2.flatMap eI.b))), (14, .d (.pt (eXMonad.b a0) 0)), (18, .d (iv s3)), (20, .d (iv y8)), (54, .d (.sl a2.length 0 (a2.flatMap eI.b))), (56, .d (iv (a2.length : Int))), (58, .d (iv s3)), (102, .d (bv (v10 != y11)))] (.cons hy9'.1 (.cons hy9'.2.1 (.cons (at_b0 eI_ok hy9'.2.2 (d := iv y9) (by kernel_rfl)) (cc (B := []) (ρ := []) (rB := []) ok69 (impl_Category_then_c a0.On.Source y9 y8 _ hv10) (.cons (.pass (.ptk (ds := eXMonad.b a0) (ds' := eXCategory.b a0.On.Source) (off := 0) (n := 5) (by kernel_rfl) (by kernel_rfl) (by kernel_rfl))) (.cons (.same rfl) (.cons (.same rfl) .nil))) (.inl rfl) (.cons hy11'.1 (.cons hy11'.2.1 (.cons (at_b0 eI_ok hy11'.2.2 (d := iv y11) (by kernel_rfl)) .nil))))))) (by kernel_rfl) (by kernel_rfl) ?_
      rcases Bool.eq_false_or_eq_true (v10 != y11) with h12 | h12
      · have hM := ite_true' hM h12
        refine tr_condTe (e := v10 != y11) h12 (by kernel_rfl) ?_
        refine tr_sr hT hm [] [12] [(12, .d (bv false))] .nil (by kernel_rfl) (by kernel_rfl) ?_
        refine tr_ret (q_r (b_r (q_r (l_r (b_r (q_r (rg_r ?_)))))))
        obtain rfl := Option.some.inj hM
        exact retg (names := []) .nil (by kernel_rfl)
      · have hM := ite_false' hM h12
        refine tr_condFe (e := v10 != y11) h12 (by kernel_rfl) ?_
        refine tr_skip (q_n ?_)
        obtain ⟨y13, hy13, hM⟩ := bind_some' hM
        have hy13' := idx_some hy13
        obtain ⟨v14, hv14, hM⟩ := bind_some' hM
        obtain ⟨v15, hv15, hM⟩ := bind_some' hM
        obtain ⟨y16, hy16, hM⟩ := bind_some' hM
        have hy16' := idx_some hy16
        obtain ⟨v17, hv17, hM⟩ := bind_some' hM
        obtain ⟨v18, hv18, hM⟩ := bind_some' hM
        obtain ⟨y19, hy19, hM⟩ := bind_some' hM
        have hy19' := idx_some hy19
        obtain ⟨v20, hv20, hM⟩ := bind_some' hM
        refine tr_sr hT hm [(7, .val (iv y13)), (9, .call [] [] [.pt (eXCategory.b a0.On.Source) 0, iv y13, iv y8] [] (iv v14)), (15, .call [] [] [.pt (eXMonad.b a0) 0, iv s3] [] (iv v15)), (17, .val (iv y16)), (20, .call [] [] [.pt (eXMonad.b a1) 0, iv y8] [] (iv v17)), (21, .call [] [] [.pt (eXCategory.b a0.On.Source) 0, iv y16, iv v17] [] (iv v18)), (28, .val (iv y19)), (29, .call [] [] [.pt (eXCategory.b a0.On.Source) 0, iv v18, iv y19] [] (iv v20))] [0, 2, 4, 14, 54, 56, 58, 164] [(0, .d (.pt (eXMonad.b a0) 0)), (2, .d (.pt (eXMonad.b a1) 0)), (4, .d (.sl a2.length 0 (a2.flatMap eI.b))), (14, .d (.pt (eXMonad.b a0) 0)), (54, .d (.sl a2.length 0 (a2.flatMap eI.b))), (56, .d (iv (a2.length : Int))), (58, .d (iv s3)), (164, .d (bv (v14 != v20)))] (.cons hy13'.1 (.cons hy13'.2.1 (.cons (at_b0 eI_ok hy13'.2.2 (d := iv y13) (by kernel_rfl)) (cc (B := []) (ρ := []) (rB := []) ok69 (impl_Category_then_c a0.On.Source y13 y8 _ hv14) (.cons (.pass (.ptk (ds := eXMonad.b a0) (ds' := eXCategory.b a0.On.Source) (off := 0) (n := 5) (by kernel_rfl) (by kernel_rfl) (by kernel_rfl))) (.cons (.same rfl) (.cons (.same rfl) .nil))) (.inl rfl) (cc0 ok62 (impl_Monad_object_c a0 s3 _ hv15) (by kernel_rfl) (.cons hy16'.1 (.cons hy16'.2.1 (.cons (at_b0 eI_ok hy16'.2.2 (d := iv y16) (by kernel_rfl)) (cc0 ok70 (impl_Monad_arrow_c a1 y8 _ hv17) (by kernel_rfl) (cc (B := []) (ρ := []) (rB := []) ok69 (impl_Category_then_c a0.On.Source y16 v17 _ hv18) (.cons (.pass (.ptk (ds := eXMonad.b a0) (ds' := eXCategory.b a0.On.Source) (off := 0) (n := 5) (by kernel_rfl) (by kernel_rfl) (by kernel_rfl))) (.cons (.same rfl) (.cons (.same rfl) .nil))) (.inl rfl) (.cons hy19'.1 (.cons hy19'.2.1 (.cons (at_b0 eI_ok hy19'.2.2 (d := iv y19) (by kernel_rfl)) (cc (B := []) (ρ := []) (rB := []) ok69 (impl_Category_then_c a0.On.Source v18 y19 _ hv20) (.cons (.pass (.ptk (ds := eXMonad.b a0) (ds' := eXCategory.b a0.On.Source) (off := 0) (n := 5) (by kernel_rfl) (by kernel_rfl) (by kernel_rfl))) (.cons (.same rfl) (.cons (.same rfl) .nil))) (.inl rfl) .nil)))))))))))))) (by kernel_rfl) (by kernel_rfl) ?_
        rcases Bool.eq_false_or_eq_true (v14 != v20) with h21 | h21
        · have hM := ite_true' hM h21
          refine tr_condTe (e := v14 != v20) h21 (by kernel_rfl) ?_
          refine tr_sr hT hm [] [12] [(12, .d (bv false))] .nil (by kernel_rfl) (by kernel_rfl) ?_
          refine tr_ret (b_r (q_r (l_r (b_r (q_r (rg_r ?_))))))
          obtain rfl := Option.some.inj hM
          exact retg (names := []) .nil (by kernel_rfl)
        · have hM := ite_false' hM h21
          refine tr_condFe (e := v14 != v20) h21 (by kernel_rfl) ?_
          refine tr_skip (b_n (q_n ?_))
          refine tr_r hT hm [] [0, 2, 4, 14, 54, 56, 58] [(0, .d (.pt (eXMonad.b a0) 0)), (2, .d (.pt (eXMonad.b a1) 0)), (4, .d (.sl a2.length 0 (a2.flatMap eI.b))), (14, .d (.pt (eXMonad.b a0) 0)), (54, .d (.sl a2.length 0 (a2.flatMap eI.b))), (56, .d (iv (a2.length : Int))), (58, .d (iv (IntKind.i64.wrap (s3 + 1))))] .nil (by kernel_rfl) (by kernel_rfl) (l_n ?_)
          exact trl_start (ks := [0, 2, 4, 14, 54, 56, 58]) (by kernel_rfl) (ih5 (IntKind.i64.wrap (s3 + 1)) hM)
    · have hM := ite_false' hM h7
      refine tr_condFe (e := decide (s3 < (a2.length : Int))) h7 (by kernel_rfl) ?_
      refine tr_exit (q_x (l_x (b_h (q_n ?_))))
      refine tr_sr hT hm [] [12] [(12, .d (bv true))] .nil (by kernel_rfl) (by kernel_rfl) ?_
      refine tr_ret (rg_r ?_)
      obtain rfl := Option.some.inj hM
      exact retg (names := []) .nil (by kernel_rfl)
  · have hM := ite_false' hM h2
    refine tr_condTe (e := !v1) (congrArg not h2) (by kernel_rfl) ?_
    refine tr_sr hT hm [] [12] [(12, .d (bv false))] .nil (by kernel_rfl) (by kernel_rfl) ?_
    refine tr_ret (q_r (rg_r ?_))
    obtain rfl := Option.some.inj hM
    exact retg (names := []) .nil (by kernel_rfl)

theorem ok35 : CallOk Try.prog 35 := callOk_of Try.func35 (by kernel_rfl) (by kernel_rfl)
theorem impl_IsMonadMap_c (a0 : XMonad) (a1 : XMonad) (a2 : List Int) (r : Bool × Int) (hM : M.impl_IsMonadMap a0 a1 a2 = some r) :
    FnC Try.prog 35 [] [.agg (eXMonad.b a0), .agg (eXMonad.b a1), .sl a2.length 0 (a2.flatMap eI.b)] [] (.tup [bv r.1, iv r.2]) := by
  refine fnc_startG (N := 15) (np := 500) hT Try.func35 rfl rfl (by kernel_rfl) ?_
  unfold M.impl_IsMonadMap at hM
  refine tr_start (ks := [0, 2, 4]) (st' := [(0, .d (.agg (eXMonad.b a0))), (2, .d (.agg (eXMonad.b a1))), (4, .d (.sl a2.length 0 (a2.flatMap eI.b)))]) (by kernel_rfl) ?_
  refine tr_sr hT hm [] [4, 6, 8, 2007, 2009] [(4, .d (.sl a2.length 0 (a2.flatMap eI.b))), (6, .d (.rp 1003 0)), (8, .d (.rp 1004 0)), bxB 2007 (eXMonad.b a0), bxB 2009 (eXMonad.b a1)] .nil (by kernel_rfl) (by kernel_rfl) ?_
  refine tr_seq ?_
  obtain ⟨v1, hv1, hM⟩ := bind_some' hM
  refine tr_sr hT hm [(0, .call [1003, 1004] [] [.pt (eXMonad.b a0) 0, .pt (eXMonad.b a1) 0] [] (iv v1))] [4, 6, 8, 16, 2007, 2009] [(4, .d (.sl a2.length 0 (a2.flatMap eI.b))), (6, .d (.rp 1003 0)), (8, .d (.rp 1004 0)), (16, .d (iv v1)), bxB 2007 (eXMonad.b a0), bxB 2009 (eXMonad.b a1)] (cc (B := [1003, 1004]) (ρ := []) (rB := [(1003, .arr 1 [iv a0.On.Source.Objects, .sl a0.On.Source.From.length 0 (a0.On.Source.From.flatMap eI.b), .sl a0.On.Source.To.length 0 (a0.On.Source.To.flatMap eI.b), .sl a0.On.Source.Identity.length 0 (a0.On.Source.Identity.flatMap eI.b), .sl a0.On.Source.Composites.length 0 (a0.On.Source.Composites.flatMap (eS eI).b), iv a0.On.Target.Objects, .sl a0.On.Target.From.length 0 (a0.On.Target.From.flatMap eI.b), .sl a0.On.Target.To.length 0 (a0.On.Target.To.flatMap eI.b), .sl a0.On.Target.Identity.length 0 (a0.On.Target.Identity.flatMap eI.b), .sl a0.On.Target.Composites.length 0 (a0.On.Target.Composites.flatMap (eS eI).b), .sl a0.On.Objects.length 0 (a0.On.Objects.flatMap eI.b), .sl a0.On.Arrows.length 0 (a0.On.Arrows.flatMap eI.b), .sl a0.Unit.length 0 (a0.Unit.flatMap eI.b), .sl a0.Join.length 0 (a0.Join.flatMap eI.b)] []), (1004, .arr 1 [iv a1.On.Source.Objects, .sl a1.On.Source.From.length 0 (a1.On.Source.From.flatMap eI.b), .sl a1.On.Source.To.length 0 (a1.On.Source.To.flatMap eI.b), .sl a1.On.Source.Identity.length 0 (a1.On.Source.Identity.flatMap eI.b), .sl a1.On.Source.Composites.length 0 (a1.On.Source.Composites.flatMap (eS eI).b), iv a1.On.Target.Objects, .sl a1.On.Target.From.length 0 (a1.On.Target.From.flatMap eI.b), .sl a1.On.Target.To.length 0 (a1.On.Target.To.flatMap eI.b), .sl a1.On.Target.Identity.length 0 (a1.On.Target.Identity.flatMap eI.b), .sl a1.On.Target.Composites.length 0 (a1.On.Target.Composites.flatMap (eS eI).b), .sl a1.On.Objects.length 0 (a1.On.Objects.flatMap eI.b), .sl a1.On.Arrows.length 0 (a1.On.Arrows.flatMap eI.b), .sl a1.Unit.length 0 (a1.Unit.flatMap eI.b), .sl a1.Join.length 0 (a1.Join.flatMap eI.b)] [])]) ok73 (impl_monadsCode_c a0 a1 _ hv1) (.cons (.of1 (.rp (r := 1003) (sz := 1) (cells := [iv a0.On.Source.Objects, .sl a0.On.Source.From.length 0 (a0.On.Source.From.flatMap eI.b), .sl a0.On.Source.To.length 0 (a0.On.Source.To.flatMap eI.b), .sl a0.On.Source.Identity.length 0 (a0.On.Source.Identity.flatMap eI.b), .sl a0.On.Source.Composites.length 0 (a0.On.Source.Composites.flatMap (eS eI).b), iv a0.On.Target.Objects, .sl a0.On.Target.From.length 0 (a0.On.Target.From.flatMap eI.b), .sl a0.On.Target.To.length 0 (a0.On.Target.To.flatMap eI.b), .sl a0.On.Target.Identity.length 0 (a0.On.Target.Identity.flatMap eI.b), .sl a0.On.Target.Composites.length 0 (a0.On.Target.Composites.flatMap (eS eI).b), .sl a0.On.Objects.length 0 (a0.On.Objects.flatMap eI.b), .sl a0.On.Arrows.length 0 (a0.On.Arrows.flatMap eI.b), .sl a0.Unit.length 0 (a0.Unit.flatMap eI.b), .sl a0.Join.length 0 (a0.Join.flatMap eI.b)]) (refs := []) (memB (by kernel_rfl)) (by kernel_rfl) (.cons .v (.cons (.same rfl rfl) (.cons (.same rfl rfl) (.cons (.same rfl rfl) (.cons (.same rfl rfl) (.cons .v (.cons (.same rfl rfl) (.cons (.same rfl rfl) (.cons (.same rfl rfl) (.cons (.same rfl rfl) (.cons (.same rfl rfl) (.cons (.same rfl rfl) (.cons (.same rfl rfl) (.cons (.same rfl rfl) .nil)))))))))))))))) (.cons (.of1 (.rp (r := 1004) (sz := 1) (cells := [iv a1.On.Source.Objects, .sl a1.On.Source.From.length 0 (a1.On.Source.From.flatMap eI.b), .sl a1.On.Source.To.length 0 (a1.On.Source.To.flatMap eI.b), .sl a1.On.Source.Identity.length 0 (a1.On.Source.Identity.flatMap eI.b), .sl a1.On.Source.Composites.length 0 (a1.On.Source.Composites.flatMap (eS eI).b), iv a1.On.Target.Objects, .sl a1.On.Target.From.length 0 (a1.On.Target.From.flatMap eI.b), .sl a1.On.Target.To.length 0 (a1.On.Target.To.flatMap eI.b), .sl a1.On.Target.Identity.length 0 (a1.On.Target.Identity.flatMap eI.b), .sl a1.On.Target.Composites.length 0 (a1.On.Target.Composites.flatMap (eS eI).b), .sl a1.On.Objects.length 0 (a1.On.Objects.flatMap eI.b), .sl a1.On.Arrows.length 0 (a1.On.Arrows.flatMap eI.b), .sl a1.Unit.length 0 (a1.Unit.flatMap eI.b), .sl a1.Join.length 0 (a1.Join.flatMap eI.b)]) (refs := []) (memB (by kernel_rfl)) (by kernel_rfl) (.cons .v (.cons (.same rfl rfl) (.cons (.same rfl rfl) (.cons (.same rfl rfl) (.cons (.same rfl rfl) (.cons .v (.cons (.same rfl rfl) (.cons (.same rfl rfl) (.cons (.same rfl rfl) (.cons (.same rfl rfl) (.cons (.same rfl rfl) (.cons (.same rfl rfl) (.cons (.same rfl rfl) (.cons (.same rfl rfl) .nil)))))))))))))))) .nil)) (.inr ⟨.v, trivial⟩) .nil) (by kernel_rfl) (by kernel_rfl) ?_
  refine tr_sr hT hm [] [4, 6, 8, 16, 22, 2007, 2009] [(4, .d (.sl a2.length 0 (a2.flatMap eI.b))), (6, .d (.rp 1003 0)), (8, .d (.rp 1004 0)), (16, .d (iv v1)), (22, .d (bv (v1 != 0))), bxB 2007 (eXMonad.b a0), bxB 2009 (eXMonad.b a1)] .nil (by kernel_rfl) (by kernel_rfl) ?_
  rcases Bool.eq_false_or_eq_true (v1 != 0) with h2 | h2
  · have hM := ite_true' hM h2
    refine tr_condTe (e := v1 != 0) h2 (by kernel_rfl) ?_
    refine tr_sr hT hm [] [12, 14] [(12, .d (bv false)), (14, .d (iv v1))] .nil (by kernel_rfl) (by kernel_rfl) ?_
    refine tr_ret (q_r (rg_r ?_))
    obtain rfl := Option.some.inj hM
    exact retg (names := []) .nil (by kernel_rfl)
  · have hM := ite_false' hM h2
    refine tr_condFe (e := v1 != 0) h2 (by kernel_rfl) ?_
    refine tr_skip (q_n ?_)
    obtain ⟨v3, hv3, hM⟩ := bind_some' hM
    refine tr_sr hT hm [(1, .call [1003, 1004] [] [.pt (eXMonad.b a0) 0, .pt (eXMonad.b a1) 0, .sl a2.length 0 (a2.flatMap eI.b)] [] (bv v3))] [12, 14] [(12, .d (bv v3)), (14, .d (iv 0))] (cc (B := [1003, 1004]) (ρ := []) (rB := [(1003, .arr 1 [iv a0.On.Source.Objects, .sl a0.On.Source.From.length 0 (a0.On.Source.From.flatMap eI.b), .sl a0.On.Source.To.length 0 (a0.On.Source.To.flatMap eI.b), .sl a0.On.Source.Identity.length 0 (a0.On.Source.Identity.flatMap eI.b), .sl a0.On.Source.Composites.length 0 (a0.On.Source.Composites.flatMap (eS eI).b), iv a0.On.Target.Objects, .sl a0.On.Target.From.length 0 (a0.On.Target.From.flatMap eI.b), .sl a0.On.Target.To.length 0 (a0.On.Target.To.flatMap eI.b), .sl a0.On.Target.Identity.length 0 (a0.On.Target.Identity.flatMap eI.b), .sl a0.On.Target.Composites.length 0 (a0.On.Target.Composites.flatMap (eS eI).b), .sl a0.On.Objects.length 0 (a0.On.Objects.flatMap eI.b), .sl a0.On.Arrows.length 0 (a0.On.Arrows.flatMap eI.b), .sl a0.Unit.length 0 (a0.Unit.flatMap eI.b), .sl a0.Join.length 0 (a0.Join.flatMap eI.b)] []), (1004, .arr 1 [iv a1.On.Source.Objects, .sl a1.On.Source.From.length 0 (a1.On.Source.From.flatMap eI.b), .sl a1.On.Source.To.length 0 (a1.On.Source.To.flatMap eI.b), .sl a1.On.Source.Identity.length 0 (a1.On.Source.Identity.flatMap eI.b), .sl a1.On.Source.Composites.length 0 (a1.On.Source.Composites.flatMap (eS eI).b), iv a1.On.Target.Objects, .sl a1.On.Target.From.length 0 (a1.On.Target.From.flatMap eI.b), .sl a1.On.Target.To.length 0 (a1.On.Target.To.flatMap eI.b), .sl a1.On.Target.Identity.length 0 (a1.On.Target.Identity.flatMap eI.b), .sl a1.On.Target.Composites.length 0 (a1.On.Target.Composites.flatMap (eS eI).b), .sl a1.On.Objects.length 0 (a1.On.Objects.flatMap eI.b), .sl a1.On.Arrows.length 0 (a1.On.Arrows.flatMap eI.b), .sl a1.Unit.length 0 (a1.Unit.flatMap eI.b), .sl a1.Join.length 0 (a1.Join.flatMap eI.b)] [])]) ok74 (impl_isMonadMap_c a0 a1 a2 _ hv3) (.cons (.of1 (.rp (r := 1003) (sz := 1) (cells := [iv a0.On.Source.Objects, .sl a0.On.Source.From.length 0 (a0.On.Source.From.flatMap eI.b), .sl a0.On.Source.To.length 0 (a0.On.Source.To.flatMap eI.b), .sl a0.On.Source.Identity.length 0 (a0.On.Source.Identity.flatMap eI.b), .sl a0.On.Source.Composites.length 0 (a0.On.Source.Composites.flatMap (eS eI).b), iv a0.On.Target.Objects, .sl a0.On.Target.From.length 0 (a0.On.Target.From.flatMap eI.b), .sl a0.On.Target.To.length 0 (a0.On.Target.To.flatMap eI.b), .sl a0.On.Target.Identity.length 0 (a0.On.Target.Identity.flatMap eI.b), .sl a0.On.Target.Composites.length 0 (a0.On.Target.Composites.flatMap (eS eI).b), .sl a0.On.Objects.length 0 (a0.On.Objects.flatMap eI.b), .sl a0.On.Arrows.length 0 (a0.On.Arrows.flatMap eI.b), .sl a0.Unit.length 0 (a0.Unit.flatMap eI.b), .sl a0.Join.length 0 (a0.Join.flatMap eI.b)]) (refs := []) (memB (by kernel_rfl)) (by kernel_rfl) (.cons .v (.cons (.same rfl rfl) (.cons (.same rfl rfl) (.cons (.same rfl rfl) (.cons (.same rfl rfl) (.cons .v (.cons (.same rfl rfl) (.cons (.same rfl rfl) (.cons (.same rfl rfl) (.cons (.same rfl rfl) (.cons (.same rfl rfl) (.cons (.same rfl rfl) (.cons (.same rfl rfl) (.cons (.same rfl rfl) .nil)))))))))))))))) (.cons (.of1 (.rp (r := 1004) (sz := 1) (cells := [iv a1.On.Source.Objects, .sl a1.On.Source.From.length 0 (a1.On.Source.From.flatMap eI.b), .sl a1.On.Source.To.length 0 (a1.On.Source.To.flatMap eI.b), .sl a1.On.Source.Identity.length 0 (a1.On.Source.Identity.flatMap eI.b), .sl a1.On.Source.Composites.length 0 (a1.On.Source.Composites.flatMap (eS eI).b), iv a1.On.Target.Objects, .sl a1.On.Target.From.length 0 (a1.On.Target.From.flatMap eI.b), .sl a1.On.Target.To.length 0 (a1.On.Target.To.flatMap eI.b), .sl a1.On.Target.Identity.length 0 (a1.On.Target.Identity.flatMap eI.b), .sl a1.On.Target.Composites.length 0 (a1.On.Target.Composites.flatMap (eS eI).b), .sl a1.On.Objects.length 0 (a1.On.Objects.flatMap eI.b), .sl a1.On.Arrows.length 0 (a1.On.Arrows.flatMap eI.b), .sl a1.Unit.length 0 (a1.Unit.flatMap eI.b), .sl a1.Join.length 0 (a1.Join.flatMap eI.b)]) (refs := []) (memB (by kernel_rfl)) (by kernel_rfl) (.cons .v (.cons (.same rfl rfl) (.cons (.same rfl rfl) (.cons (.same rfl rfl) (.cons (.same rfl rfl) (.cons .v (.cons (.same rfl rfl) (.cons (.same rfl rfl) (.cons (.same rfl rfl) (.cons (.same rfl rfl) (.cons (.same rfl rfl) (.cons (.same rfl rfl) (.cons (.same rfl rfl) (.cons (.same rfl rfl) .nil)))))))))))))))) (.cons (.same rfl) .nil))) (.inr ⟨.v, trivial⟩) .nil) (by kernel_rfl) (by kernel_rfl) ?_
    refine tr_ret (rg_r ?_)
    obtain rfl := Option.some.inj hM
    exact retg (names := []) .nil (by kernel_rfl)

theorem ok9 : CallOk Try.prog 9 := callOk_of Try.func9 (by kernel_rfl) (by kernel_rfl)
theorem laws_FnExactIsMonadMap_c (a0 : XMonad) (a1 : XMonad) (a2 : List Int) (r : Bool) (hM : M.laws_FnExactIsMonadMap a0 a1 a2 = some r) :
    FnC Try.prog 9 [] [.agg (eXMonad.b a0), .agg (eXMonad.b a1), .sl a2.length 0 (a2.flatMap eI.b)] [] (bv r) := by
  refine fnc_startG (N := 74) (np := 500) hT Try.func9 rfl rfl (by kernel_rfl) ?_
  unfold M.laws_FnExactIsMonadMap at hM
  refine tr_start (ks := [0, 2, 4]) (st' := [(0, .d (.agg (eXMonad.b a0))), (2, .d (.agg (eXMonad.b a1))), (4, .d (.sl a2.length 0 (a2.flatMap eI.b)))]) (by kernel_rfl) ?_
  refine tr_sr hT hm [] [4, 6, 8, 2007, 2009] [(4, .d (.sl a2.length 0 (a2.flatMap eI.b))), (6, .d (.rp 1003 0)), (8, .d (.rp 1004 0)), bxB 2007 (eXMonad.b a0), bxB 2009 (eXMonad.b a1)] .nil (by kernel_rfl) (by kernel_rfl) ?_
  refine tr_seq ?_
  refine tr_sr hT hm [] [4, 6, 8, 34, 2007, 2009] [(4, .d (.sl a2.length 0 (a2.flatMap eI.b))), (6, .d (.rp 1003 0)), (8, .d (.rp 1004 0)), (34, .d (bv (decide ((a2.length : Int) > 1048576)))), bxB 2007 (eXMonad.b a0), bxB 2009 (eXMonad.b a1)] .nil (by kernel_rfl) (by kernel_rfl) ?_
  rcases Bool.eq_false_or_eq_true (decide ((a2.length : Int) > 1048576)) with h1 | h1
  · have hM := ite_true' hM h1
    refine tr_condTe (e := decide ((a2.length : Int) > 1048576)) h1 (by kernel_rfl) ?_
    refine tr_sr hT hm [] [12] [(12, .d (bv true))] .nil (by kernel_rfl) (by kernel_rfl) ?_
    refine tr_ret (q_r (rg_r ?_))
    obtain rfl := Option.some.inj hM
    exact retg (names := []) .nil (by kernel_rfl)
  · have hM := ite_false' hM h1
    refine tr_condFe (e := decide ((a2.length : Int) > 1048576)) h1 (by kernel_rfl) ?_
    refine tr_skip (q_n ?_)
    refine tr_sr hT hm [] [4, 6, 8, 14, 2007, 2009] [(4, .d (.sl a2.length 0 (a2.flatMap eI.b))), (6, .d (.rp 1003 0)), (8, .d (.rp 1004 0)), (14, .d (iv 1048576)), bxB 2007 (eXMonad.b a0), bxB 2009 (eXMonad.b a1)] .nil (by kernel_rfl) (by kernel_rfl) ?_
    obtain ⟨v2, hv2, hM⟩ := bind_some' hM
    refine tr_sr hT hm [(2, .call [] [] [.agg (eXMonad.b a0), iv 1048576] [] (iv v2))] [4, 6, 8, 14, 2007, 2009] [(4, .d (.sl a2.length 0 (a2.flatMap eI.b))), (6, .d (.rp 1003 0)), (8, .d (.rp 1004 0)), (14, .d (iv v2)), bxB 2007 (eXMonad.b a0), bxB 2009 (eXMonad.b a1)] (cc0 ok15 (laws_szMonad_c a0 1048576 _ hv2) (by kernel_rfl) .nil) (by kernel_rfl) (by kernel_rfl) ?_
    refine tr_seq ?_
    refine tr_sr hT hm [] [4, 6, 8, 14, 44, 2007, 2009] [(4, .d (.sl a2.length 0 (a2.flatMap eI.b))), (6, .d (.rp 1003 0)), (8, .d (.rp 1004 0)), (14, .d (iv v2)), (44, .d (bv (decide (v2 < 0)))), bxB 2007 (eXMonad.b a0), bxB 2009 (eXMonad.b a1)] .nil (by kernel_rfl) (by kernel_rfl) ?_
    rcases Bool.eq_false_or_eq_true (decide (v2 < 0)) with h3 | h3
    · have hM := ite_true' hM h3
      refine tr_condTe (e := decide (v2 < 0)) h3 (by kernel_rfl) ?_
      refine tr_sr hT hm [] [12] [(12, .d (bv true))] .nil (by kernel_rfl) (by kernel_rfl) ?_
      refine tr_ret (q_r (rg_r ?_))
      obtain rfl := Option.some.inj hM
      exact retg (names := []) .nil (by kernel_rfl)
    · have hM := ite_false' hM h3
      refine tr_condFe (e := decide (v2 < 0)) h3 (by kernel_rfl) ?_
      refine tr_skip (q_n ?_)
      obtain ⟨v4, hv4, hM⟩ := bind_some' hM
      refine tr_sr hT hm [(2, .call [] [] [.agg (eXMonad.b a1), iv v2] [] (iv v4))] [4, 6, 8, 14, 2007, 2009] [(4, .d (.sl a2.length 0 (a2.flatMap eI.b))), (6, .d (.rp 1003 0)), (8, .d (.rp 1004 0)), (14, .d (iv v4)), bxB 2007 (eXMonad.b a0), bxB 2009 (eXMonad.b a1)] (cc0 ok15 (laws_szMonad_c a1 v2 _ hv4) (by kernel_rfl) .nil) (by kernel_rfl) (by kernel_rfl) ?_
      refine tr_seq ?_
      refine tr_sr hT hm [] [4, 6, 8, 54, 2007, 2009] [(4, .d (.sl a2.length 0 (a2.flatMap eI.b))), (6, .d (.rp 1003 0)), (8, .d (.rp 1004 0)), (54, .d (bv (decide (v4 < 0)))), bxB 2007 (eXMonad.b a0), bxB 2009 (eXMonad.b a1)] .nil (by kernel_rfl) (by kernel_rfl) ?_
      rcases Bool.eq_false_or_eq_true (decide (v4 < 0)) with h5 | h5
      · have hM := ite_true' hM h5
        refine tr_condTe (e := decide (v4 < 0)) h5 (by kernel_rfl) ?_
        refine tr_sr hT hm [] [12] [(12, .d (bv true))] .nil (by kernel_rfl) (by kernel_rfl) ?_
        refine tr_ret (q_r (rg_r ?_))
        obtain rfl := Option.some.inj hM
        exact retg (names := []) .nil (by kernel_rfl)
      · have hM := ite_false' hM h5
        refine tr_condFe (e := decide (v4 < 0)) h5 (by kernel_rfl) ?_
        refine tr_skip (q_n ?_)
        obtain ⟨v6, hv6, hM⟩ := bind_some' hM
        obtain ⟨v7, hv7, hM⟩ := bind_some' hM
        obtain ⟨v8, hv8, hM⟩ := bind_some' hM
        obtain ⟨v9, hv9, hM⟩ := bind_some' hM
        refine tr_sr hT hm [(1, .call [] [] [.agg (eXMonad.b a0)] [] (.agg (eXMonad.o v6))), (3, .call [] [] [.agg (eXMonad.b a1)] [] (.agg (eXMonad.o v7))), (5, .call [] [] [.sl a2.length 0 (a2.flatMap eI.b)] [] (.fr 1 v8.length (v8.flatMap eI.o))), (6, .call (rsR 32000 (eXMonad.o v6) ++ rsR 34000 (eXMonad.o v7) ++ [36000]) [] [.agg (eXMonad.b v6), .agg (eXMonad.b v7), .sl v8.length 0 (v8.flatMap eI.b)] [] (.tup [bv v9.1, iv v9.2]))] [4, 6, 8, 16, 18, 2007, 2009] [(4, .d (.sl a2.length 0 (a2.flatMap eI.b))), (6, .d (.rp 1003 0)), (8, .d (.rp 1004 0)), (16, .d (bv v9.1)), (18, .d (iv v9.2)), bxB 2007 (eXMonad.b a0), bxB 2009 (eXMonad.b a1)] (cc0 ok17 (laws_toMonad_c a0 _ hv6) (by kernel_rfl) (cc0 ok17 (laws_toMonad_c a1 _ hv7) (by kernel_rfl) (cc0 ok34 (laws_toInt64S_c a2 _ hv8) (by kernel_rfl) (cc (B := (rsR 32000 (eXMonad.o v6) ++ rsR 34000 (eXMonad.o v7) ++ [36000])) (ρ := []) (rB := (rsP 32000 (eXMonad.o v6) ++ rsP 34000 (eXMonad.o v7) ++ [(36000, .arr 1 (v8.flatMap eI.o) [])])) ok33 (spec_IsMonadMap_c v6 v7 v8 _ hv9) (.cons (bor_rs eXMonad_r (q := 32000) (x := v6) (by kernel_rfl) (by kernel_rfl)) (.cons (bor_rs eXMonad_r (q := 34000) (x := v7) (by kernel_rfl) (by kernel_rfl)) (.cons (.of1 (.rs (r := 36000) (sz := 1) (refs := []) (memB (by kernel_rfl)) (by kernel_rfl) (bor_flat eI_ok _ _ _))) .nil))) (.inr ⟨(nobor_tup (.cons .v (.cons .v .nil))), trivial⟩) .nil)))) (by kernel_rfl) (by kernel_rfl) ?_
        refine tr_sr hT hm [(1, .call [] [] [.agg (eXMonad.b a0)] [] (.agg (eXMonad.o v6)))] [4, 6, 8, 16, 18, 20, 2007, 2009, 2021, 82003, 82005, 82007, 82009, 82013, 82015, 82017, 82019, 82021, 82023, 82025, 82027] ([(4, .d (.sl a2.length 0 (a2.flatMap eI.b))), (6, .d (.rp 1003 0)), (8, .d (.rp 1004 0)), (16, .d (bv v9.1)), (18, .d (iv v9.2)), (20, .d (.rp 1010 0)), bxB 2007 (eXMonad.b a0), bxB 2009 (eXMonad.b a1), bxO 2021 41000 (eXMonad.o v6)] ++ rsS 41000 (eXMonad.o v6)) (cc0 ok17 (laws_toMonad_c a0 _ hv6) (by kernel_rfl) (.cons (Nat.le_of_ble_eq_true (n := 14) (m := 14) rfl) .nil)) (by kernel_rfl) (by kernel_rfl) ?_
        refine tr_sr hT hm [(1, .call [] [] [.agg (eXMonad.b a1)] [] (.agg (eXMonad.o v7)))] [4, 6, 8, 16, 18, 20, 22, 2007, 2009, 2021, 2023, 82003, 82005, 82007, 82009, 82013, 82015, 82017, 82019, 82021, 82023, 82025, 82027, 86003, 86005, 86007, 86009, 86013, 86015, 86017, 86019, 86021, 86023, 86025, 86027] ([(4, .d (.sl a2.length 0 (a2.flatMap eI.b))), (6, .d (.rp 1003 0)), (8, .d (.rp 1004 0)), (16, .d (bv v9.1)), (18, .d (iv v9.2)), (20, .d (.rp 1010 0)), (22, .d (.rp 1011 0)), bxB 2007 (eXMonad.b a0), bxB 2009 (eXMonad.b a1), bxO 2021 41000 (eXMonad.o v6), bxO 2023 43000 (eXMonad.o v7)] ++ rsS 41000 (eXMonad.o v6) ++ rsS 43000 (eXMonad.o v7)) (cc0 ok17 (laws_toMonad_c a1 _ hv7) (by kernel_rfl) (.cons (Nat.le_of_ble_eq_true (n := 14) (m := 14) rfl) .nil)) (by kernel_rfl) (by kernel_rfl) ?_
        refine tr_sr hT hm [(1, .call [] [] [.sl a2.length 0 (a2.flatMap eI.b)] [] (.fr 1 v8.length (v8.flatMap eI.o)))] [4, 6, 8, 16, 18, 20, 22, 24, 2007, 2009, 2021, 2023, 82003, 82005, 82007, 82009, 82013, 82015, 82017, 82019, 82021, 82023, 82025, 82027, 86003, 86005, 86007, 86009, 86013, 86015, 86017, 86019, 86021, 86023, 86025, 86027, 90001] ([(4, .d (.sl a2.length 0 (a2.flatMap eI.b))), (6, .d (.rp 1003 0)), (8, .d (.rp 1004 0)), (16, .d (bv v9.1)), (18, .d (iv v9.2)), (20, .d (.rp 1010 0)), (22, .d (.rp 1011 0)), (24, .d (.rs 45000 0 v8.length)), bxB 2007 (eXMonad.b a0), bxB 2009 (eXMonad.b a1), bxO 2021 41000 (eXMonad.o v6), bxO 2023 43000 (eXMonad.o v7)] ++ rsS 41000 (eXMonad.o v6) ++ rsS 43000 (eXMonad.o v7) ++ [(90001, .r (.arr 1 (v8.flatMap eI.o) []))]) (cc0 ok34 (laws_toInt64S_c a2 _ hv8) (by kernel_rfl) .nil) (by kernel_rfl) (by kernel_rfl) ?_
        obtain ⟨v10, hv10, hM⟩ := bind_some' hM
        refine tr_sr hT hm [(3, .call (rsR 41000 (eXMonad.o v6) ++ rsR 43000 (eXMonad.o v7) ++ [45000]) [] [.agg (eXMonad.b v6), .agg (eXMonad.b v7), .sl v8.length 0 (v8.flatMap eI.b)] [] (.tup [bv v10.1, iv v10.2]))] [4, 6, 8, 16, 18, 20, 22, 24, 26, 28, 2007, 2009, 2021, 2023, 82003, 82005, 82007, 82009, 82013, 82015, 82017, 82019, 82021, 82023, 82025, 82027, 86003, 86005, 86007, 86009, 86013, 86015, 86017, 86019, 86021, 86023, 86025, 86027, 90001] ([(4, .d (.sl a2.length 0 (a2.flatMap eI.b))), (6, .d (.rp 1003 0)), (8, .d (.rp 1004 0)), (16, .d (bv v9.1)), (18, .d (iv v9.2)), (20, .d (.rp 1010 0)), (22, .d (.rp 1011 0)), (24, .d (.rs 45000 0 v8.length)), (26, .d (bv v10.1)), (28, .d (iv v10.2)), bxB 2007 (eXMonad.b a0), bxB 2009 (eXMonad.b a1), bxO 2021 41000 (eXMonad.o v6), bxO 2023 43000 (eXMonad.o v7)] ++ rsS 41000 (eXMonad.o v6) ++ rsS 43000 (eXMonad.o v7) ++ [(90001, .r (.arr 1 (v8.flatMap eI.o) []))]) (cc (B := (rsR 41000 (eXMonad.o v6) ++ rsR 43000 (eXMonad.o v7) ++ [45000])) (ρ := []) (rB := (rsP 41000 (eXMonad.o v6) ++ rsP 43000 (eXMonad.o v7) ++ [(45000, .arr 1 (v8.flatMap eI.o) [])])) ok35 (impl_IsMonadMap_c v6 v7 v8 _ hv10) (.cons (bor_rs eXMonad_r (q := 41000) (x := v6) (by kernel_rfl) (by kernel_rfl)) (.cons (bor_rs eXMonad_r (q := 43000) (x := v7) (by kernel_rfl) (by kernel_rfl)) (.cons (.of1 (.rs (r := 45000) (sz := 1) (refs := []) (memB (by kernel_rfl)) (by kernel_rfl) (bor_flat eI_ok _ _ _))) .nil))) (.inr ⟨(nobor_tup (.cons .v (.cons .v .nil))), trivial⟩) .nil) (by kernel_rfl) (by kernel_rfl) ?_
        refine tr_seq ?_
        rcases Bool.eq_false_or_eq_true ((v10.1 == v9.1) == false) with h11 | h11
        · have hM := ite_true' hM h11
          refine tr_sr hT hm [(3, .val (bv true))] [4, 6, 8, 20, 22, 24, 116, 2007, 2009, 2021, 2023, 82003, 82005, 82007, 82009, 82013, 82015, 82017, 82019, 82021, 82023, 82025, 82027, 86003, 86005, 86007, 86009, 86013, 86015, 86017, 86019, 86021, 86023, 86025, 86027, 90001] ([(4, .d (.sl a2.length 0 (a2.flatMap eI.b))), (6, .d (.rp 1003 0)), (8, .d (.rp 1004 0)), (20, .d (.rp 1010 0)), (22, .d (.rp 1011 0)), (24, .d (.rs 45000 0 v8.length)), (116, .d (bv true)), bxB 2007 (eXMonad.b a0), bxB 2009 (eXMonad.b a1), bxO 2021 41000 (eXMonad.o v6), bxO 2023 43000 (eXMonad.o v7)] ++ rsS 41000 (eXMonad.o v6) ++ rsS 43000 (eXMonad.o v7) ++ [(90001, .r (.arr 1 (v8.flatMap eI.o) []))]) (.cons (congrArg (fun b => bv b) h11) .nil) (by kernel_rfl) (by kernel_rfl) ?_
          refine tr_condT (by kernel_rfl) ?_
          refine tr_sr hT hm [] [12] [(12, .d (bv false))] .nil (by kernel_rfl) (by kernel_rfl) ?_
          refine tr_ret (q_r (rg_r ?_))
          obtain rfl := Option.some.inj hM
          exact retg (names := []) .nil (by kernel_rfl)
        · have hM := ite_false' hM h11
          refine tr_sr hT hm [(3, .val (bv false))] [4, 6, 8, 20, 22, 24, 116, 2007, 2009, 2021, 2023, 82003, 82005, 82007, 82009, 82013, 82015, 82017, 82019, 82021, 82023, 82025, 82027, 86003, 86005, 86007, 86009, 86013, 86015, 86017, 86019, 86021, 86023, 86025, 86027, 90001] ([(4, .d (.sl a2.length 0 (a2.flatMap eI.b))), (6, .d (.rp 1003 0)), (8, .d (.rp 1004 0)), (20, .d (.rp 1010 0)), (22, .d (.rp 1011 0)), (24, .d (.rs 45000 0 v8.length)), (116, .d (bv (v10.2 != v9.2))), bxB 2007 (eXMonad.b a0), bxB 2009 (eXMonad.b a1), bxO 2021 41000 (eXMonad.o v6), bxO 2023 43000 (eXMonad.o v7)] ++ rsS 41000 (eXMonad.o v6) ++ rsS 43000 (eXMonad.o v7) ++ [(90001, .r (.arr 1 (v8.flatMap eI.o) []))]) (.cons (congrArg (fun b => bv b) h11) .nil) (by kernel_rfl) (by kernel_rfl) ?_
          rcases Bool.eq_false_or_eq_true (v10.2 != v9.2) with h12 | h12
          · have hM := ite_true' hM h12
            refine tr_condTe (e := v10.2 != v9.2) h12 (by kernel_rfl) ?_
            refine tr_sr hT hm [] [12] [(12, .d (bv false))] .nil (by kernel_rfl) (by kernel_rfl) ?_
            refine tr_ret (q_r (rg_r ?_))
            obtain rfl := Option.some.inj hM
            exact retg (names := []) .nil (by kernel_rfl)
          · have hM := ite_false' hM h12
            refine tr_condFe (e := v10.2 != v9.2) h12 (by kernel_rfl) ?_
            refine tr_skip (q_n ?_)
            refine tr_seq ?_
            obtain ⟨v13, hv13, hM⟩ := bind_some' hM
            refine tr_sr hT hm [(2, .call [] [] [.agg (eXMonad.b a0)] [] (.agg (eXMonad.o v6))), (3, .call (rsR 41000 (eXMonad.o v6) ++ rsR 63000 (eXMonad.o v6)) [] [.agg (eXMonad.b v6), .agg (eXMonad.b v6)] [] (bv v13))] [4, 8, 22, 24, 126, 2009, 2023, 86003, 86005, 86007, 86009, 86013, 86015, 86017, 86019, 86021, 86023, 86025, 86027, 90001] ([(4, .d (.sl a2.length 0 (a2.flatMap eI.b))), (8, .d (.rp 1004 0)), (22, .d (.rp 1011 0)), (24, .d (.rs 45000 0 v8.length)), (126, .d (bv (!v13))), bxB 2009 (eXMonad.b a1), bxO 2023 43000 (eXMonad.o v7)] ++ rsS 43000 (eXMonad.o v7) ++ [(90001, .r (.arr 1 (v8.flatMap eI.o) []))]) (cc0 ok17 (laws_toMonad_c a0 _ hv6) (by kernel_rfl) (cc (B := (rsR 41000 (eXMonad.o v6) ++ rsR 63000 (eXMonad.o v6))) (ρ := []) (rB := (rsP 41000 (eXMonad.o v6) ++ rsP 63000 (eXMonad.o v6))) ok19 (laws_eqMonad_c v6 v6 _ hv13) (.cons (bor_rs eXMonad_r (q := 41000) (x := v6) (by kernel_rfl) (by kernel_rfl)) (.cons (bor_rs eXMonad_r (q := 63000) (x := v6) (by kernel_rfl) (by kernel_rfl)) .nil)) (.inr ⟨.v, trivial⟩) .nil)) (by kernel_rfl) (by kernel_rfl) ?_
            rcases Bool.eq_false_or_eq_true v13 with h14 | h14
            · have hM := ite_true' hM h14
              refine tr_condFe (e := !v13) (congrArg not h14) (by kernel_rfl) ?_
              refine tr_skip (q_n ?_)
              refine tr_seq ?_
              obtain ⟨v15, hv15, hM⟩ := bind_some' hM
              refine tr_sr hT hm [(2, .call [] [] [.agg (eXMonad.b a1)] [] (.agg (eXMonad.o v7))), (3, .call (rsR 43000 (eXMonad.o v7) ++ rsR 68000 (eXMonad.o v7)) [] [.agg (eXMonad.b v7), .agg (eXMonad.b v7)] [] (bv v15))] [4, 24, 136, 90001] [(4, .d (.sl a2.length 0 (a2.flatMap eI.b))), (24, .d (.rs 45000 0 v8.length)), (136, .d (bv (!v15))), (90001, .r (.arr 1 (v8.flatMap eI.o) []))] (cc0 ok17 (laws_toMonad_c a1 _ hv7) (by kernel_rfl) (cc (B := (rsR 43000 (eXMonad.o v7) ++ rsR 68000 (eXMonad.o v7))) (ρ := []) (rB := (rsP 43000 (eXMonad.o v7) ++ rsP 68000 (eXMonad.o v7))) ok19 (laws_eqMonad_c v7 v7 _ hv15) (.cons (bor_rs eXMonad_r (q := 43000) (x := v7) (by kernel_rfl) (by kernel_rfl)) (.cons (bor_rs eXMonad_r (q := 68000) (x := v7) (by kernel_rfl) (by kernel_rfl)) .nil)) (.inr ⟨.v, trivial⟩) .nil)) (by kernel_rfl) (by kernel_rfl) ?_
              rcases Bool.eq_false_or_eq_true v15 with h16 | h16
              · have hM := ite_true' hM h16
                refine tr_condFe (e := !v15) (congrArg not h16) (by kernel_rfl) ?_
                refine tr_skip (q_n ?_)
                refine tr_seq ?_
                obtain ⟨v17, hv17, hM⟩ := bind_some' hM
                refine tr_sr hT hm [(2, .call [] [] [.sl a2.length 0 (a2.flatMap eI.b)] [] (.fr 1 v8.length (v8.flatMap eI.o))), (3, .call [45000, 73000] [] [.sl v8.length 0 (v8.flatMap eI.b), .sl v8.length 0 (v8.flatMap eI.b)] [] (bv v17))] [146] [(146, .d (bv (!v17)))] (cc0 ok34 (laws_toInt64S_c a2 _ hv8) (by kernel_rfl) (cc (B := [45000, 73000]) (ρ := []) (rB := [(45000, .arr 1 (v8.flatMap eI.o) []), (73000, .arr 1 (v8.flatMap eI.o) [])]) ok36 (laws_eqInt64S_c v8 v8 _ hv17) (.cons (.of1 (.rs (r := 45000) (sz := 1) (refs := []) (memB (by kernel_rfl)) (by kernel_rfl) (bor_flat eI_ok _ _ _))) (.cons (.of1 (.rs (r := 73000) (sz := 1) (refs := []) (memB (by kernel_rfl)) (by kernel_rfl) (bor_flat eI_ok _ _ _))) .nil)) (.inr ⟨.v, trivial⟩) .nil)) (by kernel_rfl) (by kernel_rfl) ?_
                rcases Bool.eq_false_or_eq_true v17 with h18 | h18
                · have hM := ite_true' hM h18
                  refine tr_condFe (e := !v17) (congrArg not h18) (by kernel_rfl) ?_
                  refine tr_skip (q_n ?_)
                  refine tr_sr hT hm [] [12] [(12, .d (bv true))] .nil (by kernel_rfl) (by kernel_rfl) ?_
                  refine tr_ret (rg_r ?_)
                  obtain rfl := Option.some.inj hM
                  exact retg (names := []) .nil (by kernel_rfl)
                · have hM := ite_false' hM h18
                  refine tr_condTe (e := !v17) (congrArg not h18) (by kernel_rfl) ?_
                  refine tr_sr hT hm [] [12] [(12, .d (bv false))] .nil (by kernel_rfl) (by kernel_rfl) ?_
                  refine tr_ret (q_r (rg_r ?_))
                  obtain rfl := Option.some.inj hM
                  exact retg (names := []) .nil (by kernel_rfl)
              · have hM := ite_false' hM h16
                refine tr_condTe (e := !v15) (congrArg not h16) (by kernel_rfl) ?_
                refine tr_sr hT hm [] [12] [(12, .d (bv false))] .nil (by kernel_rfl) (by kernel_rfl) ?_
                refine tr_ret (q_r (rg_r ?_))
                obtain rfl := Option.some.inj hM
                exact retg (names := []) .nil (by kernel_rfl)
            · have hM := ite_false' hM h14
              refine tr_condTe (e := !v13) (congrArg not h14) (by kernel_rfl) ?_
              refine tr_sr hT hm [] [12] [(12, .d (bv false))] .nil (by kernel_rfl) (by kernel_rfl) ?_
              refine tr_ret (q_r (rg_r ?_))
              obtain rfl := Option.some.inj hM
              exact retg (names := []) .nil (by kernel_rfl)

end Go.Proofs.Ytpfdieaiogfihaa.Ww43
