/- Walks. Printed by wip/gen. -/
import Derived.Test.YtpfdieaiogfihaaGxw50M
import Derived.Test.YtpfdieaiogfihaaGxwRW
import Derived.KernelRfl
namespace Go.Proofs.Ytpfdieaiogfihaa.Ww50
open Go.Gx Go.Proofs.Ytpfdieaiogfihaa.WvB Go.Proofs.Ytpfdieaiogfihaa.WwN Go.Proofs.Ytpfdieaiogfihaa.WvS Go.Proofs.Ytpfdieaiogfihaa.WvF Go.Proofs.Ytpfdieaiogfihaa.WwT Go.Proofs.Ytpfdieaiogfihaa.WwU Go.Proofs.Ytpfdieaiogfihaa.WvH Go.Proofs.Ytpfdieaiogfihaa.WvI Go.Proofs.Ytpfdieaiogfihaa.WwM Go.Proofs.Ytpfdieaiogfihaa.WwR

theorem eXCategory_r : EncR eXCategory := (eA_r (eC_r eI_r _) (eA_r (eC_r (eS_r eI_ok) _) (eA_r (eC_r (eS_r eI_ok) _) (eA_r (eC_r (eS_r eI_ok) _) (eC_r (eS_r (eS_ok eI_ok)) _)))))
theorem eXFunctor_r : EncR eXFunctor := (eA_r (eC_r eXCategory_r _) (eA_r (eC_r eXCategory_r _) (eA_r (eC_r (eS_r eI_ok) _) (eC_r (eS_r eI_ok) _))))
theorem eXends_r : EncR eXends := (eA_r (eC_r eI_r _) (eC_r eI_r _))
theorem eXTransformation_r : EncR eXTransformation := (eA_r (eC_r eXFunctor_r _) (eA_r (eC_r eXFunctor_r _) (eC_r (eS_r eI_ok) _)))
theorem eXMonad_r : EncR eXMonad := (eA_r (eC_r eXFunctor_r _) (eA_r (eC_r (eS_r eI_ok) _) (eC_r (eS_r eI_ok) _)))
def T : Tab := [(2, ⟨.int .i64, 1, 8, [.int .i64 0]⟩),
  (3, ⟨.int .i64, 1, 8, [.int .i64 0]⟩),
  (4, ⟨.bool, 1, 1, [.bool false]⟩),
  (22, ⟨.slice 2, 1, 24, [.slice .none 0 0]⟩),
  (23, ⟨.slice 22, 1, 24, [.slice .none 0 0]⟩),
  (25, ⟨.struct #[⟨"Objects", 2, 0, false, "", "", 0⟩, ⟨"From", 22, 1, false, "", "", 8⟩, ⟨"To", 22, 2, false, "", "", 32⟩, ⟨"Identity", 22, 3, false, "", "", 56⟩, ⟨"Composites", 23, 4, false, "", "", 80⟩], 5, 104, [.int .i64 0, .slice .none 0 0, .slice .none 0 0, .slice .none 0 0, .slice .none 0 0]⟩),
  (27, ⟨.struct #[⟨"Source", 25, 0, false, "", "", 0⟩, ⟨"Target", 25, 5, false, "", "", 104⟩, ⟨"Objects", 22, 10, false, "", "", 208⟩, ⟨"Arrows", 22, 11, false, "", "", 232⟩], 12, 256, [.int .i64 0, .slice .none 0 0, .slice .none 0 0, .slice .none 0 0, .slice .none 0 0, .int .i64 0, .slice .none 0 0, .slice .none 0 0, .slice .none 0 0, .slice .none 0 0, .slice .none 0 0, .slice .none 0 0]⟩),
  (29, ⟨.struct #[⟨"On", 27, 0, false, "", "", 0⟩, ⟨"Unit", 22, 12, false, "", "", 256⟩, ⟨"Join", 22, 13, false, "", "", 280⟩], 14, 304, [.int .i64 0, .slice .none 0 0, .slice .none 0 0, .slice .none 0 0, .slice .none 0 0, .int .i64 0, .slice .none 0 0, .slice .none 0 0, .slice .none 0 0, .slice .none 0 0, .slice .none 0 0, .slice .none 0 0, .slice .none 0 0, .slice .none 0 0]⟩),
  (32, ⟨.struct #[⟨"Objects", 2, 0, false, "", "", 0⟩, ⟨"From", 22, 1, false, "", "", 8⟩, ⟨"To", 22, 2, false, "", "", 32⟩, ⟨"Identity", 22, 3, false, "", "", 56⟩, ⟨"Composites", 23, 4, false, "", "", 80⟩], 5, 104, [.int .i64 0, .slice .none 0 0, .slice .none 0 0, .slice .none 0 0, .slice .none 0 0]⟩),
  (34, ⟨.struct #[⟨"Source", 32, 0, false, "", "", 0⟩, ⟨"Target", 32, 5, false, "", "", 104⟩, ⟨"Objects", 22, 10, false, "", "", 208⟩, ⟨"Arrows", 22, 11, false, "", "", 232⟩], 12, 256, [.int .i64 0, .slice .none 0 0, .slice .none 0 0, .slice .none 0 0, .slice .none 0 0, .int .i64 0, .slice .none 0 0, .slice .none 0 0, .slice .none 0 0, .slice .none 0 0, .slice .none 0 0, .slice .none 0 0]⟩),
  (36, ⟨.struct #[⟨"On", 34, 0, false, "", "", 0⟩, ⟨"Unit", 22, 12, false, "", "", 256⟩, ⟨"Join", 22, 13, false, "", "", 280⟩], 14, 304, [.int .i64 0, .slice .none 0 0, .slice .none 0 0, .slice .none 0 0, .slice .none 0 0, .int .i64 0, .slice .none 0 0, .slice .none 0 0, .slice .none 0 0, .slice .none 0 0, .slice .none 0 0, .slice .none 0 0, .slice .none 0 0, .slice .none 0 0]⟩),
  (116, ⟨.struct #[⟨"Source", 34, 0, false, "", "", 0⟩, ⟨"Target", 34, 12, false, "", "", 256⟩, ⟨"Components", 22, 24, false, "", "", 512⟩], 25, 536, [.int .i64 0, .slice .none 0 0, .slice .none 0 0, .slice .none 0 0, .slice .none 0 0, .int .i64 0, .slice .none 0 0, .slice .none 0 0, .slice .none 0 0, .slice .none 0 0, .slice .none 0 0, .slice .none 0 0, .int .i64 0, .slice .none 0 0, .slice .none 0 0, .slice .none 0 0, .slice .none 0 0, .int .i64 0, .slice .none 0 0, .slice .none 0 0, .slice .none 0 0, .slice .none 0 0, .slice .none 0 0, .slice .none 0 0, .slice .none 0 0]⟩)]
theorem hT : TabOk Try.prog T := ⟨tiok (by kernel_rfl) (by kernel_rfl), tiok (by kernel_rfl) (by kernel_rfl), tiok (by kernel_rfl) (by kernel_rfl), tiok (by kernel_rfl) (by kernel_rfl), tiok (by kernel_rfl) (by kernel_rfl), tiok (by kernel_rfl) (by kernel_rfl), tiok (by kernel_rfl) (by kernel_rfl), tiok (by kernel_rfl) (by kernel_rfl), tiok (by kernel_rfl) (by kernel_rfl), tiok (by kernel_rfl) (by kernel_rfl), tiok (by kernel_rfl) (by kernel_rfl), tiok (by kernel_rfl) (by kernel_rfl), trivial⟩
theorem hm : Try.prog.follows .mixedOrders = true := by kernel_rfl

theorem ok84 : CallOk Try.prog 84 := callOk_of Try.func84 (by kernel_rfl) (by kernel_rfl)
theorem spec_l16Law_c (a0 : XMonad) (a1 : XMonad) (a2 : List Int) (r : Bool) (hM : M.spec_l16Law a0 a1 a2 = some r) :
    FnC Try.prog 84 [] [.agg (eXMonad.b a0), .agg (eXMonad.b a1), .sl a2.length 0 (a2.flatMap eI.b)] [] (bv r) := by
  refine fnc_startG (N := 173) (np := 500) hT Try.func84 rfl rfl (by kernel_rfl) ?_
  unfold M.spec_l16Law at hM
  refine tr_start (ks := [0, 2, 4]) (st' := [(0, .d (.agg (eXMonad.b a0))), (2, .d (.agg (eXMonad.b a1))), (4, .d (.sl a2.length 0 (a2.flatMap eI.b)))]) (by kernel_rfl) ?_
  refine tr_sr hT hm [] [4, 6, 8, 2007, 2009] [(4, .d (.sl a2.length 0 (a2.flatMap eI.b))), (6, .d (.rp 1003 0)), (8, .d (.rp 1004 0)), bxB 2007 (eXMonad.b a0), bxB 2009 (eXMonad.b a1)] .nil (by kernel_rfl) (by kernel_rfl) ?_
  refine tr_sr hT hm [] [4, 6, 8, 14, 2007, 2009, 2015] [(4, .d (.sl a2.length 0 (a2.flatMap eI.b))), (6, .d (.rp 1003 0)), (8, .d (.rp 1004 0)), (14, .d (.rp 1007 0)), bxB 2007 (eXMonad.b a0), bxB 2009 (eXMonad.b a1), bxB 2015 (eXCategory.b a0.On.Source)] (.cons (Nat.le_of_ble_eq_true (n := 5) (m := 5) rfl) .nil) (by kernel_rfl) (by kernel_rfl) ?_
  refine tr_seq ?_
  obtain ⟨v1, hv1, hM⟩ := bind_some' hM
  obtain ⟨v2, hv2, hM⟩ := bind_some' hM
  obtain ⟨v3, hv3, hM⟩ := bind_some' hM
  refine tr_sr hT hm [(4, .call [] [] [.agg (eXFunctor.b a1.On), .agg (eXFunctor.b a0.On)] [] (.agg (eXFunctor.o v1))), (9, .call [] [] [.agg (eXFunctor.b a0.On), .agg (eXFunctor.b a1.On)] [] (.agg (eXFunctor.o v2))), (11, .call (rsR 22000 (eXFunctor.o v1) ++ rsR 27000 (eXFunctor.o v2)) [] [.agg (eXFunctor.b v1), .agg (eXFunctor.b v2), .sl a2.length 0 (a2.flatMap eI.b)] [] (bv v3))] [4, 6, 8, 14, 56, 2007, 2009, 2015] [(4, .d (.sl a2.length 0 (a2.flatMap eI.b))), (6, .d (.rp 1003 0)), (8, .d (.rp 1004 0)), (14, .d (.rp 1007 0)), (56, .d (bv (!v3))), bxB 2007 (eXMonad.b a0), bxB 2009 (eXMonad.b a1), bxB 2015 (eXCategory.b a0.On.Source)] (cc0 ok102 (spec_l06Then_c a1.On a0.On _ hv1) (by kernel_rfl) (cc0 ok102 (spec_l06Then_c a0.On a1.On _ hv2) (by kernel_rfl) (cc (B := (rsR 22000 (eXFunctor.o v1) ++ rsR 27000 (eXFunctor.o v2))) (ρ := []) (rB := (rsP 22000 (eXFunctor.o v1) ++ rsP 27000 (eXFunctor.o v2))) ok89 (spec_l15Natural_c v1 v2 a2 _ hv3) (.cons (bor_rs eXFunctor_r (q := 22000) (x := v1) (by kernel_rfl) (by kernel_rfl)) (.cons (bor_rs eXFunctor_r (q := 27000) (x := v2) (by kernel_rfl) (by kernel_rfl)) (.cons (.same rfl) .nil))) (.inr ⟨.v, trivial⟩) .nil))) (by kernel_rfl) (by kernel_rfl) ?_
  rcases Bool.eq_false_or_eq_true v3 with h4 | h4
  · have hM := ite_true' hM h4
    refine tr_condFe (e := !v3) (congrArg not h4) (by kernel_rfl) ?_
    refine tr_skip (q_n ?_)
    refine tr_seq ?_
    refine tr_sr hT hm [] [4, 6, 8, 14, 16, 2007, 2009, 2015] [(4, .d (.sl a2.length 0 (a2.flatMap eI.b))), (6, .d (.rp 1003 0)), (8, .d (.rp 1004 0)), (14, .d (.rp 1007 0)), (16, .d (iv 0)), bxB 2007 (eXMonad.b a0), bxB 2009 (eXMonad.b a1), bxB 2015 (eXCategory.b a0.On.Source)] .nil (by kernel_rfl) (by kernel_rfl) ?_
    refine tr_block ?_
    refine tr_iterS (fun (s5 : Int) => [(4, .d (.sl a2.length 0 (a2.flatMap eI.b))), (6, .d (.rp 1003 0)), (8, .d (.rp 1004 0)), (14, .d (.rp 1007 0)), (16, .d (iv s5)), bxB 2007 (eXMonad.b a0), bxB 2009 (eXMonad.b a1), bxB 2015 (eXCategory.b a0.On.Source)]) 0 [4, 6, 8, 14, 16, 2007, 2009, 2015] (by kernel_rfl) hM ?_
    intro n8 next6 ih7 s5 hM
    refine tr_seq ?_
    refine tr_sr hT hm [] [4, 6, 8, 14, 16, 64, 2007, 2009, 2015] [(4, .d (.sl a2.length 0 (a2.flatMap eI.b))), (6, .d (.rp 1003 0)), (8, .d (.rp 1004 0)), (14, .d (.rp 1007 0)), (16, .d (iv s5)), (64, .d (bv (decide (s5 < a0.On.Source.Objects)))), bxB 2007 (eXMonad.b a0), bxB 2009 (eXMonad.b a1), bxB 2015 (eXCategory.b a0.On.Source)] .nil (by kernel_rfl) (by kernel_rfl) ?_
    rcases Bool.eq_false_or_eq_true (decide (s5 < a0.On.Source.Objects)) with h9 | h9
    · have hM := ite_true' hM h9
      refine tr_condTe (e := decide (s5 < a0.On.Source.Objects)) h9 (by kernel_rfl) ?_
      refine tr_skip (q_n ?_)
      refine tr_seq ?_
      refine tr_block ?_
      obtain ⟨y10, hy10, hM⟩ := bind_some' hM
      have hy10' := idx_some hy10
      obtain ⟨y11, hy11, hM⟩ := bind_some' hM
      have hy11' := idx_some hy11
      refine tr_sr hT hm [(5, .val (iv y10)), (11, .val (iv y11))] [4, 6, 8, 14, 16, 18, 20, 2007, 2009, 2015] [(4, .d (.sl a2.length 0 (a2.flatMap eI.b))), (6, .d (.rp 1003 0)), (8, .d (.rp 1004 0)), (14, .d (.rp 1007 0)), (16, .d (iv s5)), (18, .d (iv y10)), (20, .d (iv y11)), bxB 2007 (eXMonad.b a0), bxB 2009 (eXMonad.b a1), bxB 2015 (eXCategory.b a0.On.Source)] (.cons hy10'.1 (.cons hy10'.2.1 (.cons (at_b0 eI_ok hy10'.2.2 (d := iv y10) (by kernel_rfl)) (.cons hy11'.1 (.cons hy11'.2.1 (.cons (at_b0 eI_ok hy11'.2.2 (d := iv y11) (by kernel_rfl)) .nil)))))) (by kernel_rfl) (by kernel_rfl) ?_
      refine tr_seq ?_
      obtain ⟨y12, hy12, hM⟩ := bind_some' hM
      have hy12' := idx_some hy12
      obtain ⟨y13, hy13, hM⟩ := bind_some' hM
      have hy13' := idx_some hy13
      obtain ⟨y14, hy14, hM⟩ := bind_some' hM
      have hy14' := idx_some hy14
      obtain ⟨v15, hv15, hM⟩ := bind_some' hM
      obtain ⟨y16, hy16, hM⟩ := bind_some' hM
      have hy16' := idx_some hy16
      rcases Bool.eq_false_or_eq_true (v15 != y16) with h17 | h17
      · have hM := ite_true' hM h17
        refine tr_sr hT hm [(8, .val (iv y12)), (10, .val (iv y13)), (14, .val (iv y14)), (15, .call [] [] [.agg (eXCategory.b a0.On.Source), iv y13, iv y14] [] (iv v15)), (20, .val (iv y16)), (22, .val (bv true))] [4, 6, 8, 14, 16, 18, 20, 184, 2007, 2009, 2015] [(4, .d (.sl a2.length 0 (a2.flatMap eI.b))), (6, .d (.rp 1003 0)), (8, .d (.rp 1004 0)), (14, .d (.rp 1007 0)), (16, .d (iv s5)), (18, .d (iv y10)), (20, .d (iv y11)), (184, .d (bv true)), bxB 2007 (eXMonad.b a0), bxB 2009 (eXMonad.b a1), bxB 2015 (eXCategory.b a0.On.Source)] (.cons hy12'.1 (.cons hy12'.2.1 (.cons (at_b0 eI_ok hy12'.2.2 (d := iv y12) (by kernel_rfl)) (.cons hy13'.1 (.cons hy13'.2.1 (.cons (at_b0 eI_ok hy13'.2.2 (d := iv y13) (by kernel_rfl)) (.cons hy14'.1 (.cons hy14'.2.1 (.cons (at_b0 eI_ok hy14'.2.2 (d := iv y14) (by kernel_rfl)) (cc0 ok68 (spec_l02Then_c a0.On.Source y13 y14 _ hv15) (by kernel_rfl) (.cons hy16'.1 (.cons hy16'.2.1 (.cons (at_b0 eI_ok hy16'.2.2 (d := iv y16) (by kernel_rfl)) (.cons (congrArg (fun b => bv b) h17) .nil)))))))))))))) (by kernel_rfl) (by kernel_rfl) ?_
        refine tr_condT (by kernel_rfl) ?_
        refine tr_sr hT hm [] [12] [(12, .d (bv false))] .nil (by kernel_rfl) (by kernel_rfl) ?_
        refine tr_ret (q_r (b_r (q_r (l_r (b_r (q_r (rg_r ?_)))))))
        obtain rfl := Option.some.inj hM
        exact retg (names := []) .nil (by kernel_rfl)
      · have hM := ite_false' hM h17
        obtain ⟨y18, hy18, hM⟩ := bind_some' hM
        have hy18' := idx_some hy18
        obtain ⟨v19, hv19, hM⟩ := bind_some' hM
        obtain ⟨y20, hy20, hM⟩ := bind_some' hM
        have hy20' := idx_some hy20
        obtain ⟨y21, hy21, hM⟩ := bind_some' hM
        have hy21' := idx_some hy21
        refine tr_sr hT hm [(8, .val (iv y12)), (10, .val (iv y13)), (14, .val (iv y14)), (15, .call [] [] [.agg (eXCategory.b a0.On.Source), iv y13, iv y14] [] (iv v15)), (20, .val (iv y16)), (22, .val (bv false)), (28, .val (iv y18)), (32, .val (iv y14)), (33, .call [] [] [.agg (eXCategory.b a0.On.Source), iv y18, iv y14] [] (iv v19)), (41, .val (iv y20)), (43, .val (iv y21))] [4, 6, 8, 14, 16, 18, 20, 140, 142, 144, 146, 148, 150, 152, 154, 156, 158, 160, 162, 164, 166, 168, 170, 172, 174, 176, 178, 180, 182, 184, 2007, 2009, 2015] [(4, .d (.sl a2.length 0 (a2.flatMap eI.b))), (6, .d (.rp 1003 0)), (8, .d (.rp 1004 0)), (14, .d (.rp 1007 0)), (16, .d (iv s5)), (18, .d (iv y10)), (20, .d (iv y11)), (140, .d (.agg (eXCategory.b a0.On.Source))), (142, .d (.rp 1003 12)), (144, .d (.sl a0.Unit.length 0 (a0.Unit.flatMap eI.b))), (146, .d (iv y11)), (148, .d (.pt (a0.Unit.flatMap eI.b) (0 + y11.toNat * 1))), (150, .d (iv y18)), (152, .d (.sl a2.length 0 (a2.flatMap eI.b))), (154, .d (iv s5)), (156, .d (.pt (a2.flatMap eI.b) (0 + s5.toNat * 1))), (158, .d (iv y14)), (160, .d (iv v19)), (162, .d (.rp 1004 0)), (164, .d (.rp 1004 11)), (166, .d (.sl a1.On.Arrows.length 0 (a1.On.Arrows.flatMap eI.b))), (168, .d (.rp 1003 12)), (170, .d (.sl a0.Unit.length 0 (a0.Unit.flatMap eI.b))), (172, .d (iv s5)), (174, .d (.pt (a0.Unit.flatMap eI.b) (0 + s5.toNat * 1))), (176, .d (iv y20)), (178, .d (.pt (a1.On.Arrows.flatMap eI.b) (0 + y20.toNat * 1))), (180, .d (iv y21)), (182, .d (bv (v19 != y21))), (184, .d (bv (v19 != y21))), bxB 2007 (eXMonad.b a0), bxB 2009 (eXMonad.b a1), bxB 2015 (eXCategory.b a0.On.Source)] (.cons hy12'.1 (.cons hy12'.2.1 (.cons (at_b0 eI_ok hy12'.2.2 (d := iv y12) (by kernel_rfl)) (.cons hy13'.1 (.cons hy13'.2.1 (.cons (at_b0 eI_ok hy13'.2.2 (d := iv y13) (by kernel_rfl)) (.cons hy14'.1 (.cons hy14'.2.1 (.cons (at_b0 eI_ok hy14'.2.2 (d := iv y14) (by kernel_rfl)) (cc0 ok68 (spec_l02Then_c a0.On.Source y13 y14 _ hv15) (by kernel_rfl) (.cons hy16'.1 (.cons hy16'.2.1 (.cons (at_b0 eI_ok hy16'.2.2 (d := iv y16) (by kernel_rfl)) (.cons (congrArg (fun b => bv b) h17) (.cons hy18'.1 (.cons hy18'.2.1 (.cons (at_b0 eI_ok hy18'.2.2 (d := iv y18) (by kernel_rfl)) (.cons hy14'.1 (.cons hy14'.2.1 (.cons (at_b0 eI_ok hy14'.2.2 (d := iv y14) (by kernel_rfl)) (cc0 ok68 (spec_l02Then_c a0.On.Source y18 y14 _ hv19) (by kernel_rfl) (.cons hy20'.1 (.cons hy20'.2.1 (.cons (at_b0 eI_ok hy20'.2.2 (d := iv y20) (by kernel_rfl)) (.cons hy21'.1 (.cons hy21'.2.1 (.cons (at_b0 eI_ok hy21'.2.2 (d := iv y21) (by kernel_rfl)) .nil))))))))))))))))))))))))))) (by kernel_rfl) (by kernel_rfl) ?_
        rcases Bool.eq_false_or_eq_true (v19 != y21) with h22 | h22
        · have hM := ite_true' hM h22
          refine tr_condTe (e := v19 != y21) h22 (by kernel_rfl) ?_
          refine tr_sr hT hm [] [12] [(12, .d (bv false))] .nil (by kernel_rfl) (by kernel_rfl) ?_
          refine tr_ret (q_r (b_r (q_r (l_r (b_r (q_r (rg_r ?_)))))))
          obtain rfl := Option.some.inj hM
          exact retg (names := []) .nil (by kernel_rfl)
        · have hM := ite_false' hM h22
          refine tr_condFe (e := v19 != y21) h22 (by kernel_rfl) ?_
          refine tr_skip (q_n ?_)
          obtain ⟨y23, hy23, hM⟩ := bind_some' hM
          have hy23' := idx_some hy23
          obtain ⟨y24, hy24, hM⟩ := bind_some' hM
          have hy24' := idx_some hy24
          obtain ⟨v25, hv25, hM⟩ := bind_some' hM
          obtain ⟨y26, hy26, hM⟩ := bind_some' hM
          have hy26' := idx_some hy26
          obtain ⟨v27, hv27, hM⟩ := bind_some' hM
          refine tr_sr hT hm [(5, .val (iv y23)), (12, .val (iv y14)), (14, .val (iv y24)), (15, .call [] [] [.agg (eXCategory.b a0.On.Source), iv y23, iv y24] [] (iv v25)), (20, .val (iv y26)), (21, .call [] [] [.agg (eXCategory.b a0.On.Source), iv v25, iv y26] [] (iv v27))] [4, 6, 8, 14, 16, 18, 20, 22, 140, 142, 144, 146, 148, 150, 152, 154, 156, 158, 160, 162, 164, 166, 168, 170, 172, 174, 176, 178, 180, 182, 2007, 2009, 2015] [(4, .d (.sl a2.length 0 (a2.flatMap eI.b))), (6, .d (.rp 1003 0)), (8, .d (.rp 1004 0)), (14, .d (.rp 1007 0)), (16, .d (iv s5)), (18, .d (iv y10)), (20, .d (iv y11)), (22, .d (iv v27)), (140, .d (.agg (eXCategory.b a0.On.Source))), (142, .d (.rp 1003 12)), (144, .d (.sl a0.Unit.length 0 (a0.Unit.flatMap eI.b))), (146, .d (iv y11)), (148, .d (.pt (a0.Unit.flatMap eI.b) (0 + y11.toNat * 1))), (150, .d (iv y18)), (152, .d (.sl a2.length 0 (a2.flatMap eI.b))), (154, .d (iv s5)), (156, .d (.pt (a2.flatMap eI.b) (0 + s5.toNat * 1))), (158, .d (iv y14)), (160, .d (iv v19)), (162, .d (.rp 1004 0)), (164, .d (.rp 1004 11)), (166, .d (.sl a1.On.Arrows.length 0 (a1.On.Arrows.flatMap eI.b))), (168, .d (.rp 1003 12)), (170, .d (.sl a0.Unit.length 0 (a0.Unit.flatMap eI.b))), (172, .d (iv s5)), (174, .d (.pt (a0.Unit.flatMap eI.b) (0 + s5.toNat * 1))), (176, .d (iv y20)), (178, .d (.pt (a1.On.Arrows.flatMap eI.b) (0 + y20.toNat * 1))), (180, .d (iv y21)), (182, .d (bv (v19 != y21))), bxB 2007 (eXMonad.b a0), bxB 2009 (eXMonad.b a1), bxB 2015 (eXCategory.b a0.On.Source)] (.cons hy23'.1 (.cons hy23'.2.1 (.cons (at_b0 eI_ok hy23'.2.2 (d := iv y23) (by kernel_rfl)) (.cons hy14'.1 (.cons hy14'.2.1 (.cons (at_b0 eI_ok hy14'.2.2 (d := iv y14) (by kernel_rfl)) (.cons hy24'.1 (.cons hy24'.2.1 (.cons (at_b0 eI_ok hy24'.2.2 (d := iv y24) (by kernel_rfl)) (cc0 ok68 (spec_l02Then_c a0.On.Source y23 y24 _ hv25) (by kernel_rfl) (.cons hy26'.1 (.cons hy26'.2.1 (.cons (at_b0 eI_ok hy26'.2.2 (d := iv y26) (by kernel_rfl)) (cc0 ok68 (spec_l02Then_c a0.On.Source v25 y26 _ hv27) (by kernel_rfl) .nil)))))))))))))) (by kernel_rfl) (by kernel_rfl) ?_
          refine tr_seq ?_
          obtain ⟨y28, hy28, hM⟩ := bind_some' hM
          have hy28' := idx_some hy28
          obtain ⟨y29, hy29, hM⟩ := bind_some' hM
          have hy29' := idx_some hy29
          obtain ⟨v30, hv30, hM⟩ := bind_some' hM
          refine tr_sr hT hm [(8, .val (iv y28)), (10, .val (iv y29)), (14, .val (iv y14)), (15, .call [] [] [.agg (eXCategory.b a0.On.Source), iv y29, iv y14] [] (iv v30))] [4, 6, 8, 14, 16, 18, 20, 140, 142, 144, 146, 148, 150, 152, 154, 156, 158, 160, 162, 164, 166, 168, 170, 172, 174, 176, 178, 180, 182, 264, 2007, 2009, 2015] [(4, .d (.sl a2.length 0 (a2.flatMap eI.b))), (6, .d (.rp 1003 0)), (8, .d (.rp 1004 0)), (14, .d (.rp 1007 0)), (16, .d (iv s5)), (18, .d (iv y10)), (20, .d (iv y11)), (140, .d (.agg (eXCategory.b a0.On.Source))), (142, .d (.rp 1003 12)), (144, .d (.sl a0.Unit.length 0 (a0.Unit.flatMap eI.b))), (146, .d (iv y11)), (148, .d (.pt (a0.Unit.flatMap eI.b) (0 + y11.toNat * 1))), (150, .d (iv y18)), (152, .d (.sl a2.length 0 (a2.flatMap eI.b))), (154, .d (iv s5)), (156, .d (.pt (a2.flatMap eI.b) (0 + s5.toNat * 1))), (158, .d (iv y14)), (160, .d (iv v19)), (162, .d (.rp 1004 0)), (164, .d (.rp 1004 11)), (166, .d (.sl a1.On.Arrows.length 0 (a1.On.Arrows.flatMap eI.b))), (168, .d (.rp 1003 12)), (170, .d (.sl a0.Unit.length 0 (a0.Unit.flatMap eI.b))), (172, .d (iv s5)), (174, .d (.pt (a0.Unit.flatMap eI.b) (0 + s5.toNat * 1))), (176, .d (iv y20)), (178, .d (.pt (a1.On.Arrows.flatMap eI.b) (0 + y20.toNat * 1))), (180, .d (iv y21)), (182, .d (bv (v19 != y21))), (264, .d (bv (v30 != v27))), bxB 2007 (eXMonad.b a0), bxB 2009 (eXMonad.b a1), bxB 2015 (eXCategory.b a0.On.Source)] (.cons hy28'.1 (.cons hy28'.2.1 (.cons (at_b0 eI_ok hy28'.2.2 (d := iv y28) (by kernel_rfl)) (.cons hy29'.1 (.cons hy29'.2.1 (.cons (at_b0 eI_ok hy29'.2.2 (d := iv y29) (by kernel_rfl)) (.cons hy14'.1 (.cons hy14'.2.1 (.cons (at_b0 eI_ok hy14'.2.2 (d := iv y14) (by kernel_rfl)) (cc0 ok68 (spec_l02Then_c a0.On.Source y29 y14 _ hv30) (by kernel_rfl) .nil)))))))))) (by kernel_rfl) (by kernel_rfl) ?_
          rcases Bool.eq_false_or_eq_true (v30 != v27) with h31 | h31
          · have hM := ite_true' hM h31
            refine tr_condTe (e := v30 != v27) h31 (by kernel_rfl) ?_
            refine tr_sr hT hm [] [12] [(12, .d (bv false))] .nil (by kernel_rfl) (by kernel_rfl) ?_
            refine tr_ret (q_r (b_r (q_r (l_r (b_r (q_r (rg_r ?_)))))))
            obtain rfl := Option.some.inj hM
            exact retg (names := []) .nil (by kernel_rfl)
          · have hM := ite_false' hM h31
            refine tr_condFe (e := v30 != v27) h31 (by kernel_rfl) ?_
            refine tr_skip (q_n ?_)
            obtain ⟨y32, hy32, hM⟩ := bind_some' hM
            have hy32' := idx_some hy32
            obtain ⟨y33, hy33, hM⟩ := bind_some' hM
            have hy33' := idx_some hy33
            obtain ⟨v34, hv34, hM⟩ := bind_some' hM
            obtain ⟨y35, hy35, hM⟩ := bind_some' hM
            have hy35' := idx_some hy35
            obtain ⟨y36, hy36, hM⟩ := bind_some' hM
            have hy36' := idx_some hy36
            obtain ⟨v37, hv37, hM⟩ := bind_some' hM
            refine tr_sr hT hm [(8, .val (iv y14)), (10, .val (iv y32)), (14, .val (iv y33)), (15, .call [] [] [.agg (eXCategory.b a0.On.Source), iv y32, iv y33] [] (iv v34)), (23, .val (iv y35)), (25, .val (iv y36)), (26, .call [] [] [.agg (eXCategory.b a0.On.Source), iv v34, iv y36] [] (iv v37))] [4, 6, 8, 14, 16, 20, 24, 140, 142, 144, 146, 148, 150, 152, 154, 156, 158, 160, 162, 164, 166, 168, 170, 172, 174, 176, 178, 180, 182, 2007, 2009, 2015] [(4, .d (.sl a2.length 0 (a2.flatMap eI.b))), (6, .d (.rp 1003 0)), (8, .d (.rp 1004 0)), (14, .d (.rp 1007 0)), (16, .d (iv s5)), (20, .d (iv y11)), (24, .d (iv v37)), (140, .d (.agg (eXCategory.b a0.On.Source))), (142, .d (.rp 1003 12)), (144, .d (.sl a0.Unit.length 0 (a0.Unit.flatMap eI.b))), (146, .d (iv y11)), (148, .d (.pt (a0.Unit.flatMap eI.b) (0 + y11.toNat * 1))), (150, .d (iv y18)), (152, .d (.sl a2.length 0 (a2.flatMap eI.b))), (154, .d (iv s5)), (156, .d (.pt (a2.flatMap eI.b) (0 + s5.toNat * 1))), (158, .d (iv y14)), (160, .d (iv v19)), (162, .d (.rp 1004 0)), (164, .d (.rp 1004 11)), (166, .d (.sl a1.On.Arrows.length 0 (a1.On.Arrows.flatMap eI.b))), (168, .d (.rp 1003 12)), (170, .d (.sl a0.Unit.length 0 (a0.Unit.flatMap eI.b))), (172, .d (iv s5)), (174, .d (.pt (a0.Unit.flatMap eI.b) (0 + s5.toNat * 1))), (176, .d (iv y20)), (178, .d (.pt (a1.On.Arrows.flatMap eI.b) (0 + y20.toNat * 1))), (180, .d (iv y21)), (182, .d (bv (v19 != y21))), bxB 2007 (eXMonad.b a0), bxB 2009 (eXMonad.b a1), bxB 2015 (eXCategory.b a0.On.Source)] (.cons hy14'.1 (.cons hy14'.2.1 (.cons (at_b0 eI_ok hy14'.2.2 (d := iv y14) (by kernel_rfl)) (.cons hy32'.1 (.cons hy32'.2.1 (.cons (at_b0 eI_ok hy32'.2.2 (d := iv y32) (by kernel_rfl)) (.cons hy33'.1 (.cons hy33'.2.1 (.cons (at_b0 eI_ok hy33'.2.2 (d := iv y33) (by kernel_rfl)) (cc0 ok68 (spec_l02Then_c a0.On.Source y32 y33 _ hv34) (by kernel_rfl) (.cons hy35'.1 (.cons hy35'.2.1 (.cons (at_b0 eI_ok hy35'.2.2 (d := iv y35) (by kernel_rfl)) (.cons hy36'.1 (.cons hy36'.2.1 (.cons (at_b0 eI_ok hy36'.2.2 (d := iv y36) (by kernel_rfl)) (cc0 ok68 (spec_l02Then_c a0.On.Source v34 y36 _ hv37) (by kernel_rfl) .nil))))))))))))))))) (by kernel_rfl) (by kernel_rfl) ?_
            obtain ⟨y38, hy38, hM⟩ := bind_some' hM
            have hy38' := idx_some hy38
            obtain ⟨v39, hv39, hM⟩ := bind_some' hM
            refine tr_sr hT hm [(5, .val (iv y38)), (9, .val (iv y14)), (10, .call [] [] [.agg (eXCategory.b a0.On.Source), iv y38, iv y14] [] (iv v39))] [4, 6, 8, 14, 16, 140, 142, 144, 146, 148, 150, 152, 154, 156, 158, 160, 162, 164, 166, 168, 170, 172, 174, 176, 178, 180, 182, 344, 2007, 2009, 2015] [(4, .d (.sl a2.length 0 (a2.flatMap eI.b))), (6, .d (.rp 1003 0)), (8, .d (.rp 1004 0)), (14, .d (.rp 1007 0)), (16, .d (iv s5)), (140, .d (.agg (eXCategory.b a0.On.Source))), (142, .d (.rp 1003 12)), (144, .d (.sl a0.Unit.length 0 (a0.Unit.flatMap eI.b))), (146, .d (iv y11)), (148, .d (.pt (a0.Unit.flatMap eI.b) (0 + y11.toNat * 1))), (150, .d (iv y18)), (152, .d (.sl a2.length 0 (a2.flatMap eI.b))), (154, .d (iv s5)), (156, .d (.pt (a2.flatMap eI.b) (0 + s5.toNat * 1))), (158, .d (iv y14)), (160, .d (iv v19)), (162, .d (.rp 1004 0)), (164, .d (.rp 1004 11)), (166, .d (.sl a1.On.Arrows.length 0 (a1.On.Arrows.flatMap eI.b))), (168, .d (.rp 1003 12)), (170, .d (.sl a0.Unit.length 0 (a0.Unit.flatMap eI.b))), (172, .d (iv s5)), (174, .d (.pt (a0.Unit.flatMap eI.b) (0 + s5.toNat * 1))), (176, .d (iv y20)), (178, .d (.pt (a1.On.Arrows.flatMap eI.b) (0 + y20.toNat * 1))), (180, .d (iv y21)), (182, .d (bv (v19 != y21))), (344, .d (bv (v39 != v37))), bxB 2007 (eXMonad.b a0), bxB 2009 (eXMonad.b a1), bxB 2015 (eXCategory.b a0.On.Source)] (.cons hy38'.1 (.cons hy38'.2.1 (.cons (at_b0 eI_ok hy38'.2.2 (d := iv y38) (by kernel_rfl)) (.cons hy14'.1 (.cons hy14'.2.1 (.cons (at_b0 eI_ok hy14'.2.2 (d := iv y14) (by kernel_rfl)) (cc0 ok68 (spec_l02Then_c a0.On.Source y38 y14 _ hv39) (by kernel_rfl) .nil))))))) (by kernel_rfl) (by kernel_rfl) ?_
            rcases Bool.eq_false_or_eq_true (v39 != v37) with h40 | h40
            · have hM := ite_true' hM h40
              refine tr_condTe (e := v39 != v37) h40 (by kernel_rfl) ?_
              refine tr_sr hT hm [] [12] [(12, .d (bv false))] .nil (by kernel_rfl) (by kernel_rfl) ?_
              refine tr_ret (b_r (q_r (l_r (b_r (q_r (rg_r ?_))))))
              obtain rfl := Option.some.inj hM
              exact retg (names := []) .nil (by kernel_rfl)
            · have hM := ite_false' hM h40
              refine tr_condFe (e := v39 != v37) h40 (by kernel_rfl) ?_
              refine tr_skip (b_n (q_n ?_))
              refine tr_r hT hm [] [4, 6, 8, 14, 16, 140, 142, 144, 146, 148, 150, 152, 154, 156, 158, 160, 162, 164, 166, 168, 170, 172, 174, 176, 178, 180, 182, 2007, 2009, 2015] [(4, .d (.sl a2.length 0 (a2.flatMap eI.b))), (6, .d (.rp 1003 0)), (8, .d (.rp 1004 0)), (14, .d (.rp 1007 0)), (16, .d (iv (IntKind.i64.wrap (s5 + 1)))), (140, .d (.agg (eXCategory.b a0.On.Source))), (142, .d (.rp 1003 12)), (144, .d (.sl a0.Unit.length 0 (a0.Unit.flatMap eI.b))), (146, .d (iv y11)), (148, .d (.pt (a0.Unit.flatMap eI.b) (0 + y11.toNat * 1))), (150, .d (iv y18)), (152, .d (.sl a2.length 0 (a2.flatMap eI.b))), (154, .d (iv s5)), (156, .d (.pt (a2.flatMap eI.b) (0 + s5.toNat * 1))), (158, .d (iv y14)), (160, .d (iv v19)), (162, .d (.rp 1004 0)), (164, .d (.rp 1004 11)), (166, .d (.sl a1.On.Arrows.length 0 (a1.On.Arrows.flatMap eI.b))), (168, .d (.rp 1003 12)), (170, .d (.sl a0.Unit.length 0 (a0.Unit.flatMap eI.b))), (172, .d (iv s5)), (174, .d (.pt (a0.Unit.flatMap eI.b) (0 + s5.toNat * 1))), (176, .d (iv y20)), (178, .d (.pt (a1.On.Arrows.flatMap eI.b) (0 + y20.toNat * 1))), (180, .d (iv y21)), (182, .d (bv (v19 != y21))), bxB 2007 (eXMonad.b a0), bxB 2009 (eXMonad.b a1), bxB 2015 (eXCategory.b a0.On.Source)] .nil (by kernel_rfl) (by kernel_rfl) (l_n ?_)
              exact trl_start (ks := [4, 6, 8, 14, 16, 2007, 2009, 2015]) (by kernel_rfl) (ih7 (IntKind.i64.wrap (s5 + 1)) hM)
    · have hM := ite_false' hM h9
      refine tr_condFe (e := decide (s5 < a0.On.Source.Objects)) h9 (by kernel_rfl) ?_
      refine tr_exit (q_x (l_x (b_h (q_n ?_))))
      refine tr_sr hT hm [] [12] [(12, .d (bv true))] .nil (by kernel_rfl) (by kernel_rfl) ?_
      refine tr_ret (rg_r ?_)
      obtain rfl := Option.some.inj hM
      exact retg (names := []) .nil (by kernel_rfl)
  · have hM := ite_false' hM h4
    refine tr_condTe (e := !v3) (congrArg not h4) (by kernel_rfl) ?_
    refine tr_sr hT hm [] [12] [(12, .d (bv false))] .nil (by kernel_rfl) (by kernel_rfl) ?_
    refine tr_ret (q_r (rg_r ?_))
    obtain rfl := Option.some.inj hM
    exact retg (names := []) .nil (by kernel_rfl)

theorem ok43 : CallOk Try.prog 43 := callOk_of Try.func43 (by kernel_rfl) (by kernel_rfl)
theorem spec_IsDistributiveLaw_c (a0 : XMonad) (a1 : XMonad) (a2 : List Int) (r : Bool × Int) (hM : M.spec_IsDistributiveLaw a0 a1 a2 = some r) :
    FnC Try.prog 43 [] [.agg (eXMonad.b a0), .agg (eXMonad.b a1), .sl a2.length 0 (a2.flatMap eI.b)] [] (.tup [bv r.1, iv r.2]) := by
  refine fnc_startG (N := 19) (np := 500) hT Try.func43 rfl rfl (by kernel_rfl) ?_
  unfold M.spec_IsDistributiveLaw at hM
  refine tr_start (ks := [0, 2, 4]) (st' := [(0, .d (.agg (eXMonad.b a0))), (2, .d (.agg (eXMonad.b a1))), (4, .d (.sl a2.length 0 (a2.flatMap eI.b)))]) (by kernel_rfl) ?_
  refine tr_sr hT hm [] [4, 6, 8, 2007, 2009] [(4, .d (.sl a2.length 0 (a2.flatMap eI.b))), (6, .d (.rp 1003 0)), (8, .d (.rp 1004 0)), bxB 2007 (eXMonad.b a0), bxB 2009 (eXMonad.b a1)] .nil (by kernel_rfl) (by kernel_rfl) ?_
  refine tr_seq ?_
  obtain ⟨v1, hv1, hM⟩ := bind_some' hM
  refine tr_sr hT hm [(2, .call [] [] [.agg (eXMonad.b a0), .agg (eXMonad.b a1)] [] (iv v1))] [4, 6, 8, 16, 2007, 2009] [(4, .d (.sl a2.length 0 (a2.flatMap eI.b))), (6, .d (.rp 1003 0)), (8, .d (.rp 1004 0)), (16, .d (iv v1)), bxB 2007 (eXMonad.b a0), bxB 2009 (eXMonad.b a1)] (cc0 ok71 (spec_l16Two_c a0 a1 _ hv1) (by kernel_rfl) .nil) (by kernel_rfl) (by kernel_rfl) ?_
  refine tr_sr hT hm [] [4, 6, 8, 16, 26, 2007, 2009] [(4, .d (.sl a2.length 0 (a2.flatMap eI.b))), (6, .d (.rp 1003 0)), (8, .d (.rp 1004 0)), (16, .d (iv v1)), (26, .d (bv (v1 != 0))), bxB 2007 (eXMonad.b a0), bxB 2009 (eXMonad.b a1)] .nil (by kernel_rfl) (by kernel_rfl) ?_
  rcases Bool.eq_false_or_eq_true (v1 != 0) with h2 | h2
  · have hM := ite_true' hM h2
    refine tr_condTe (e := v1 != 0) h2 (by kernel_rfl) ?_
    refine tr_sr hT hm [] [12, 14] [(12, .d (bv false)), (14, .d (iv v1))] .nil (by kernel_rfl) (by kernel_rfl) ?_
    refine tr_ret (q_r (rg_r ?_))
    obtain rfl := Option.some.inj hM
    exact retg (names := []) .nil (by kernel_rfl)
  · have hM := ite_false' hM h2
    refine tr_condFe (e := v1 != 0) h2 (by kernel_rfl) ?_
    refine tr_skip (q_n ?_)
    obtain ⟨v3, hv3, hM⟩ := bind_some' hM
    refine tr_sr hT hm [(3, .call [] [] [.agg (eXMonad.b a0), .agg (eXMonad.b a1), .sl a2.length 0 (a2.flatMap eI.b)] [] (bv v3))] [12, 14] [(12, .d (bv v3)), (14, .d (iv 0))] (cc0 ok84 (spec_l16Law_c a0 a1 a2 _ hv3) (by kernel_rfl) .nil) (by kernel_rfl) (by kernel_rfl) ?_
    refine tr_ret (rg_r ?_)
    obtain rfl := Option.some.inj hM
    exact retg (names := []) .nil (by kernel_rfl)

theorem ok85 : CallOk Try.prog 85 := callOk_of Try.func85 (by kernel_rfl) (by kernel_rfl)
theorem impl_isLaw_c (a0 : XMonad) (a1 : XMonad) (a2 : List Int) (r : Bool) (hM : M.impl_isLaw a0 a1 a2 = some r) :
    FnC Try.prog 85 [] [.pt (eXMonad.b a0) 0, .pt (eXMonad.b a1) 0, .sl a2.length 0 (a2.flatMap eI.b)] [] (bv r) := by
  refine fnc_startG (N := 161) (np := 500) hT Try.func85 rfl rfl (by kernel_rfl) ?_
  unfold M.impl_isLaw at hM
  refine tr_start (ks := [0, 2, 4]) (st' := [(0, .d (.pt (eXMonad.b a0) 0)), (2, .d (.pt (eXMonad.b a1) 0)), (4, .d (.sl a2.length 0 (a2.flatMap eI.b)))]) (by kernel_rfl) ?_
  refine tr_sr hT hm [] [0, 2, 4] [(0, .d (.pt (eXMonad.b a0) 0)), (2, .d (.pt (eXMonad.b a1) 0)), (4, .d (.sl a2.length 0 (a2.flatMap eI.b)))] .nil (by kernel_rfl) (by kernel_rfl) ?_
  refine tr_sr hT hm [] [0, 2, 4, 14] [(0, .d (.pt (eXMonad.b a0) 0)), (2, .d (.pt (eXMonad.b a1) 0)), (4, .d (.sl a2.length 0 (a2.flatMap eI.b))), (14, .d (.pt (eXMonad.b a0) 0))] .nil (by kernel_rfl) (by kernel_rfl) ?_
  obtain ⟨v1, hv1, hM⟩ := bind_some' hM
  obtain ⟨v2, hv2, hM⟩ := bind_some' hM
  refine tr_sr hT hm [(6, .call [] [] [.pt (eXFunctor.b a1.On) 0, .pt (eXFunctor.b a0.On) 0] [] (.agg (eXFunctor.o v1))), (13, .call [] [] [.pt (eXFunctor.b a0.On) 0, .pt (eXFunctor.b a1.On) 0] [] (.agg (eXFunctor.o v2)))] [0, 2, 4, 14, 16, 18, 2017, 2019, 56003, 56005, 56007, 56009, 56013, 56015, 56017, 56019, 56021, 56023, 70003, 70005, 70007, 70009, 70013, 70015, 70017, 70019, 70021, 70023] ([(0, .d (.pt (eXMonad.b a0) 0)), (2, .d (.pt (eXMonad.b a1) 0)), (4, .d (.sl a2.length 0 (a2.flatMap eI.b))), (14, .d (.pt (eXMonad.b a0) 0)), (16, .d (.rp 1008 0)), (18, .d (.rp 1009 0)), bxO 2017 28000 (eXFunctor.o v1), bxO 2019 35000 (eXFunctor.o v2)] ++ rsS 28000 (eXFunctor.o v1) ++ rsS 35000 (eXFunctor.o v2)) (cc (B := []) (ρ := []) (rB := []) ok97 (impl_Functor_then_c a1.On a0.On _ hv1) (.cons (.pass (.ptk (ds := eXMonad.b a1) (ds' := eXFunctor.b a1.On) (off := 0) (n := 12) (by kernel_rfl) (by kernel_rfl) (by kernel_rfl))) (.cons (.pass (.ptk (ds := eXMonad.b a0) (ds' := eXFunctor.b a0.On) (off := 0) (n := 12) (by kernel_rfl) (by kernel_rfl) (by kernel_rfl))) .nil)) (.inl rfl) (cc (B := []) (ρ := []) (rB := []) ok97 (impl_Functor_then_c a0.On a1.On _ hv2) (.cons (.pass (.ptk (ds := eXMonad.b a0) (ds' := eXFunctor.b a0.On) (off := 0) (n := 12) (by kernel_rfl) (by kernel_rfl) (by kernel_rfl))) (.cons (.pass (.ptk (ds := eXMonad.b a1) (ds' := eXFunctor.b a1.On) (off := 0) (n := 12) (by kernel_rfl) (by kernel_rfl) (by kernel_rfl))) .nil)) (.inl rfl) (.cons (Nat.le_of_ble_eq_true (n := 12) (m := 12) rfl) (.cons (Nat.le_of_ble_eq_true (n := 12) (m := 12) rfl) .nil)))) (by kernel_rfl) (by kernel_rfl) ?_
  refine tr_sr hT hm [] [0, 2, 4, 14, 20, 2021, 56003, 56005, 56007, 56009, 56013, 56015, 56017, 56019, 56021, 56023, 70003, 70005, 70007, 70009, 70013, 70015, 70017, 70019, 70021, 70023] ([(0, .d (.pt (eXMonad.b a0) 0)), (2, .d (.pt (eXMonad.b a1) 0)), (4, .d (.sl a2.length 0 (a2.flatMap eI.b))), (14, .d (.pt (eXMonad.b a0) 0)), (20, .d (.rp 1010 0)), (2021, .r (.arr 1 [iv v1.Source.Objects, .rs 28001 0 v1.Source.From.length, .rs 28002 0 v1.Source.To.length, .rs 28003 0 v1.Source.Identity.length, .rs 28004 0 v1.Source.Composites.length, iv v1.Target.Objects, .rs 28006 0 v1.Target.From.length, .rs 28007 0 v1.Target.To.length, .rs 28008 0 v1.Target.Identity.length, .rs 28009 0 v1.Target.Composites.length, .rs 28010 0 v1.Objects.length, .rs 28011 0 v1.Arrows.length, iv v2.Source.Objects, .rs 35001 0 v2.Source.From.length, .rs 35002 0 v2.Source.To.length, .rs 35003 0 v2.Source.Identity.length, .rs 35004 0 v2.Source.Composites.length, iv v2.Target.Objects, .rs 35006 0 v2.Target.From.length, .rs 35007 0 v2.Target.To.length, .rs 35008 0 v2.Target.Identity.length, .rs 35009 0 v2.Target.Composites.length, .rs 35010 0 v2.Objects.length, .rs 35011 0 v2.Arrows.length, .sl a2.length 0 (a2.flatMap eI.b)] [28001, 28002, 28003, 28004, 28006, 28007, 28008, 28009, 28010, 28011, 35001, 35002, 35003, 35004, 35006, 35007, 35008, 35009, 35010, 35011]))] ++ rsS 28000 (eXFunctor.o v1) ++ rsS 35000 (eXFunctor.o v2)) (.cons (Nat.le_of_ble_eq_true (n := 25) (m := 25) rfl) .nil) (by kernel_rfl) (by kernel_rfl) ?_
  refine tr_seq ?_
  obtain ⟨v3, hv3, hM⟩ := bind_some' hM
  refine tr_sr hT hm [(0, .call ([1010] ++ rsR 28000 (eXFunctor.o v1) ++ rsR 35000 (eXFunctor.o v2)) [] [.pt (eXTransformation.b (⟨v1, v2, a2⟩ : XTransformation)) 0] [] (bv v3))] [0, 2, 4, 14, 78] [(0, .d (.pt (eXMonad.b a0) 0)), (2, .d (.pt (eXMonad.b a1) 0)), (4, .d (.sl a2.length 0 (a2.flatMap eI.b))), (14, .d (.pt (eXMonad.b a0) 0)), (78, .d (bv (!v3)))] (cc (B := ([1010] ++ rsR 28000 (eXFunctor.o v1) ++ rsR 35000 (eXFunctor.o v2))) (ρ := []) (rB := ([(1010, .arr 1 [iv v1.Source.Objects, .rs 28001 0 v1.Source.From.length, .rs 28002 0 v1.Source.To.length, .rs 28003 0 v1.Source.Identity.length, .rs 28004 0 v1.Source.Composites.length, iv v1.Target.Objects, .rs 28006 0 v1.Target.From.length, .rs 28007 0 v1.Target.To.length, .rs 28008 0 v1.Target.Identity.length, .rs 28009 0 v1.Target.Composites.length, .rs 28010 0 v1.Objects.length, .rs 28011 0 v1.Arrows.length, iv v2.Source.Objects, .rs 35001 0 v2.Source.From.length, .rs 35002 0 v2.Source.To.length, .rs 35003 0 v2.Source.Identity.length, .rs 35004 0 v2.Source.Composites.length, iv v2.Target.Objects, .rs 35006 0 v2.Target.From.length, .rs 35007 0 v2.Target.To.length, .rs 35008 0 v2.Target.Identity.length, .rs 35009 0 v2.Target.Composites.length, .rs 35010 0 v2.Objects.length, .rs 35011 0 v2.Arrows.length, .sl a2.length 0 (a2.flatMap eI.b)] [28001, 28002, 28003, 28004, 28006, 28007, 28008, 28009, 28010, 28011, 35001, 35002, 35003, 35004, 35006, 35007, 35008, 35009, 35010, 35011])] ++ rsP 28000 (eXFunctor.o v1) ++ rsP 35000 (eXFunctor.o v2))) ok109 (impl_Transformation_isNatural_c (⟨v1, v2, a2⟩ : XTransformation) _ hv3) (.cons (.of1 (.rp (r := 1010) (sz := 1) (cells := [iv v1.Source.Objects, .rs 28001 0 v1.Source.From.length, .rs 28002 0 v1.Source.To.length, .rs 28003 0 v1.Source.Identity.length, .rs 28004 0 v1.Source.Composites.length, iv v1.Target.Objects, .rs 28006 0 v1.Target.From.length, .rs 28007 0 v1.Target.To.length, .rs 28008 0 v1.Target.Identity.length, .rs 28009 0 v1.Target.Composites.length, .rs 28010 0 v1.Objects.length, .rs 28011 0 v1.Arrows.length, iv v2.Source.Objects, .rs 35001 0 v2.Source.From.length, .rs 35002 0 v2.Source.To.length, .rs 35003 0 v2.Source.Identity.length, .rs 35004 0 v2.Source.Composites.length, iv v2.Target.Objects, .rs 35006 0 v2.Target.From.length, .rs 35007 0 v2.Target.To.length, .rs 35008 0 v2.Target.Identity.length, .rs 35009 0 v2.Target.Composites.length, .rs 35010 0 v2.Objects.length, .rs 35011 0 v2.Arrows.length, .sl a2.length 0 (a2.flatMap eI.b)]) (refs := [28001, 28002, 28003, 28004, 28006, 28007, 28008, 28009, 28010, 28011, 35001, 35002, 35003, 35004, 35006, 35007, 35008, 35009, 35010, 35011]) (memB (by kernel_rfl)) (by kernel_rfl) (.cons .v (.cons (.rs (r := 28001) (sz := 1) (refs := []) (memB (by kernel_rfl)) (by kernel_rfl) (bor_flat eI_ok _ _ _)) (.cons (.rs (r := 28002) (sz := 1) (refs := []) (memB (by kernel_rfl)) (by kernel_rfl) (bor_flat eI_ok _ _ _)) (.cons (.rs (r := 28003) (sz := 1) (refs := []) (memB (by kernel_rfl)) (by kernel_rfl) (bor_flat eI_ok _ _ _)) (.cons (.rs (r := 28004) (sz := 1) (refs := []) (memB (by kernel_rfl)) (by kernel_rfl) (bor_flat (eS_ok eI_ok) _ _ _)) (.cons .v (.cons (.rs (r := 28006) (sz := 1) (refs := []) (memB (by kernel_rfl)) (by kernel_rfl) (bor_flat eI_ok _ _ _)) (.cons (.rs (r := 28007) (sz := 1) (refs := []) (memB (by kernel_rfl)) (by kernel_rfl) (bor_flat eI_ok _ _ _)) (.cons (.rs (r := 28008) (sz := 1) (refs := []) (memB (by kernel_rfl)) (by kernel_rfl) (bor_flat eI_ok _ _ _)) (.cons (.rs (r := 28009) (sz := 1) (refs := []) (memB (by kernel_rfl)) (by kernel_rfl) (bor_flat (eS_ok eI_ok) _ _ _)) (.cons (.rs (r := 28010) (sz := 1) (refs := []) (memB (by kernel_rfl)) (by kernel_rfl) (bor_flat eI_ok _ _ _)) (.cons (.rs (r := 28011) (sz := 1) (refs := []) (memB (by kernel_rfl)) (by kernel_rfl) (bor_flat eI_ok _ _ _)) (.cons .v (.cons (.rs (r := 35001) (sz := 1) (refs := []) (memB (by kernel_rfl)) (by kernel_rfl) (bor_flat eI_ok _ _ _)) (.cons (.rs (r := 35002) (sz := 1) (refs := []) (memB (by kernel_rfl)) (by kernel_rfl) (bor_flat eI_ok _ _ _)) (.cons (.rs (r := 35003) (sz := 1) (refs := []) (memB (by kernel_rfl)) (by kernel_rfl) (bor_flat eI_ok _ _ _)) (.cons (.rs (r := 35004) (sz := 1) (refs := []) (memB (by kernel_rfl)) (by kernel_rfl) (bor_flat (eS_ok eI_ok) _ _ _)) (.cons .v (.cons (.rs (r := 35006) (sz := 1) (refs := []) (memB (by kernel_rfl)) (by kernel_rfl) (bor_flat eI_ok _ _ _)) (.cons (.rs (r := 35007) (sz := 1) (refs := []) (memB (by kernel_rfl)) (by kernel_rfl) (bor_flat eI_ok _ _ _)) (.cons (.rs (r := 35008) (sz := 1) (refs := []) (memB (by kernel_rfl)) (by kernel_rfl) (bor_flat eI_ok _ _ _)) (.cons (.rs (r := 35009) (sz := 1) (refs := []) (memB (by kernel_rfl)) (by kernel_rfl) (bor_flat (eS_ok eI_ok) _ _ _)) (.cons (.rs (r := 35010) (sz := 1) (refs := []) (memB (by kernel_rfl)) (by kernel_rfl) (bor_flat eI_ok _ _ _)) (.cons (.rs (r := 35011) (sz := 1) (refs := []) (memB (by kernel_rfl)) (by kernel_rfl) (bor_flat eI_ok _ _ _)) (.cons (.same rfl rfl) .nil))))))))))))))))))))))))))) .nil) (.inr ⟨.v, trivial⟩) .nil) (by kernel_rfl) (by kernel_rfl) ?_
  rcases Bool.eq_false_or_eq_true v3 with h4 | h4
  · have hM := ite_true' hM h4
    refine tr_condFe (e := !v3) (congrArg not h4) (by kernel_rfl) ?_
    refine tr_skip (q_n ?_)
    refine tr_seq ?_
    refine tr_sr hT hm [] [0, 2, 4, 14, 80, 82, 84] [(0, .d (.pt (eXMonad.b a0) 0)), (2, .d (.pt (eXMonad.b a1) 0)), (4, .d (.sl a2.length 0 (a2.flatMap eI.b))), (14, .d (.pt (eXMonad.b a0) 0)), (80, .d (.sl a2.length 0 (a2.flatMap eI.b))), (82, .d (iv (a2.length : Int))), (84, .d (iv 0))] .nil (by kernel_rfl) (by kernel_rfl) ?_
    refine tr_block ?_
    refine tr_iterS (fun (s5 : Int) => [(0, .d (.pt (eXMonad.b a0) 0)), (2, .d (.pt (eXMonad.b a1) 0)), (4, .d (.sl a2.length 0 (a2.flatMap eI.b))), (14, .d (.pt (eXMonad.b a0) 0)), (80, .d (.sl a2.length 0 (a2.flatMap eI.b))), (82, .d (iv (a2.length : Int))), (84, .d (iv s5))]) 0 [0, 2, 4, 14, 80, 82, 84] (by kernel_rfl) hM ?_
    intro n8 next6 ih7 s5 hM
    refine tr_sr hT hm [] [0, 2, 4, 14, 80, 82, 84, 86] [(0, .d (.pt (eXMonad.b a0) 0)), (2, .d (.pt (eXMonad.b a1) 0)), (4, .d (.sl a2.length 0 (a2.flatMap eI.b))), (14, .d (.pt (eXMonad.b a0) 0)), (80, .d (.sl a2.length 0 (a2.flatMap eI.b))), (82, .d (iv (a2.length : Int))), (84, .d (iv s5)), (86, .d (bv (decide (s5 < (a2.length : Int)))))] .nil (by kernel_rfl) (by kernel_rfl) ?_
    refine tr_seq ?_
    rcases Bool.eq_false_or_eq_true (decide (s5 < (a2.length : Int))) with h9 | h9
    · have hM := ite_true' hM h9
      refine tr_condTe (e := decide (s5 < (a2.length : Int))) h9 (by kernel_rfl) ?_
      refine tr_skip (q_n ?_)
      refine tr_seq ?_
      refine tr_block ?_
      obtain ⟨y10, hy10, hM⟩ := bind_some' hM
      have hy10' := idx_some hy10
      refine tr_sr hT hm [(2, .val (iv y10))] [0, 2, 4, 14, 22, 24, 80, 82, 84] [(0, .d (.pt (eXMonad.b a0) 0)), (2, .d (.pt (eXMonad.b a1) 0)), (4, .d (.sl a2.length 0 (a2.flatMap eI.b))), (14, .d (.pt (eXMonad.b a0) 0)), (22, .d (iv s5)), (24, .d (iv y10)), (80, .d (.sl a2.length 0 (a2.flatMap eI.b))), (82, .d (iv (a2.length : Int))), (84, .d (iv s5))] (.cons hy10'.1 (.cons hy10'.2.1 (.cons (at_b0 eI_ok hy10'.2.2 (d := iv y10) (by kernel_rfl)) .nil))) (by kernel_rfl) (by kernel_rfl) ?_
      refine tr_sr hT hm [] [0, 2, 4, 14, 24, 26, 80, 82, 84] [(0, .d (.pt (eXMonad.b a0) 0)), (2, .d (.pt (eXMonad.b a1) 0)), (4, .d (.sl a2.length 0 (a2.flatMap eI.b))), (14, .d (.pt (eXMonad.b a0) 0)), (24, .d (iv y10)), (26, .d (iv s5)), (80, .d (.sl a2.length 0 (a2.flatMap eI.b))), (82, .d (iv (a2.length : Int))), (84, .d (iv s5))] .nil (by kernel_rfl) (by kernel_rfl) ?_
      obtain ⟨v11, hv11, hM⟩ := bind_some' hM
      obtain ⟨v12, hv12, hM⟩ := bind_some' hM
      refine tr_sr hT hm [(2, .call [] [] [.pt (eXMonad.b a0) 0, iv s5] [] (iv v11)), (5, .call [] [] [.pt (eXMonad.b a1) 0, iv s5] [] (iv v12))] [0, 2, 4, 14, 24, 26, 28, 30, 80, 82, 84] [(0, .d (.pt (eXMonad.b a0) 0)), (2, .d (.pt (eXMonad.b a1) 0)), (4, .d (.sl a2.length 0 (a2.flatMap eI.b))), (14, .d (.pt (eXMonad.b a0) 0)), (24, .d (iv y10)), (26, .d (iv s5)), (28, .d (iv v11)), (30, .d (iv v12)), (80, .d (.sl a2.length 0 (a2.flatMap eI.b))), (82, .d (iv (a2.length : Int))), (84, .d (iv s5))] (cc0 ok62 (impl_Monad_object_c a0 s5 _ hv11) (by kernel_rfl) (cc0 ok62 (impl_Monad_object_c a1 s5 _ hv12) (by kernel_rfl) .nil)) (by kernel_rfl) (by kernel_rfl) ?_
      refine tr_block ?_
      obtain ⟨y13, hy13, hM⟩ := bind_some' hM
      have hy13' := idx_some hy13
      obtain ⟨v14, hv14, hM⟩ := bind_some' hM
      obtain ⟨v15, hv15, hM⟩ := bind_some' hM
      obtain ⟨y16, hy16, hM⟩ := bind_some' hM
      have hy16' := idx_some hy16
      refine tr_sr hT hm [(8, .val (iv y13)), (9, .call [] [] [.pt (eXMonad.b a0) 0, iv y13] [] (iv v14)), (11, .call [] [] [.pt (eXCategory.b a0.On.Source) 0, iv v14, iv y10] [] (iv v15)), (18, .val (iv y16))] [0, 2, 4, 14, 24, 26, 28, 30, 80, 82, 84, 108] [(0, .d (.pt (eXMonad.b a0) 0)), (2, .d (.pt (eXMonad.b a1) 0)), (4, .d (.sl a2.length 0 (a2.flatMap eI.b))), (14, .d (.pt (eXMonad.b a0) 0)), (24, .d (iv y10)), (26, .d (iv s5)), (28, .d (iv v11)), (30, .d (iv v12)), (80, .d (.sl a2.length 0 (a2.flatMap eI.b))), (82, .d (iv (a2.length : Int))), (84, .d (iv s5)), (108, .d (bv (v15 != y16)))] (.cons hy13'.1 (.cons hy13'.2.1 (.cons (at_b0 eI_ok hy13'.2.2 (d := iv y13) (by kernel_rfl)) (cc0 ok70 (impl_Monad_arrow_c a0 y13 _ hv14) (by kernel_rfl) (cc (B := []) (ρ := []) (rB := []) ok69 (impl_Category_then_c a0.On.Source v14 y10 _ hv15) (.cons (.pass (.ptk (ds := eXMonad.b a0) (ds' := eXCategory.b a0.On.Source) (off := 0) (n := 5) (by kernel_rfl) (by kernel_rfl) (by kernel_rfl))) (.cons (.same rfl) (.cons (.same rfl) .nil))) (.inl rfl) (.cons hy16'.1 (.cons hy16'.2.1 (.cons (at_b0 eI_ok hy16'.2.2 (d := iv y16) (by kernel_rfl)) .nil)))))))) (by kernel_rfl) (by kernel_rfl) ?_
      rcases Bool.eq_false_or_eq_true (v15 != y16) with h17 | h17
      · have hM := ite_true' hM h17
        refine tr_condTe (e := v15 != y16) h17 (by kernel_rfl) ?_
        refine tr_sr hT hm [] [12] [(12, .d (bv false))] .nil (by kernel_rfl) (by kernel_rfl) ?_
        refine tr_ret (b_r (b_r (q_r (l_r (b_r (q_r (rg_r ?_)))))))
        obtain rfl := Option.some.inj hM
        exact retg (names := []) .nil (by kernel_rfl)
      · have hM := ite_false' hM h17
        refine tr_condFe (e := v15 != y16) h17 (by kernel_rfl) ?_
        obtain ⟨y18, hy18, hM⟩ := bind_some' hM
        have hy18' := idx_some hy18
        obtain ⟨v19, hv19, hM⟩ := bind_some' hM
        obtain ⟨y20, hy20, hM⟩ := bind_some' hM
        have hy20' := idx_some hy20
        obtain ⟨v21, hv21, hM⟩ := bind_some' hM
        refine tr_sr hT hm [(7, .val (iv y18)), (9, .call [] [] [.pt (eXCategory.b a0.On.Source) 0, iv y18, iv y10] [] (iv v19)), (17, .val (iv y20)), (18, .call [] [] [.pt (eXMonad.b a1) 0, iv y20] [] (iv v21))] [0, 2, 4, 14, 24, 26, 28, 30, 80, 82, 84, 150] [(0, .d (.pt (eXMonad.b a0) 0)), (2, .d (.pt (eXMonad.b a1) 0)), (4, .d (.sl a2.length 0 (a2.flatMap eI.b))), (14, .d (.pt (eXMonad.b a0) 0)), (24, .d (iv y10)), (26, .d (iv s5)), (28, .d (iv v11)), (30, .d (iv v12)), (80, .d (.sl a2.length 0 (a2.flatMap eI.b))), (82, .d (iv (a2.length : Int))), (84, .d (iv s5)), (150, .d (bv (v19 != v21)))] (.cons hy18'.1 (.cons hy18'.2.1 (.cons (at_b0 eI_ok hy18'.2.2 (d := iv y18) (by kernel_rfl)) (cc (B := []) (ρ := []) (rB := []) ok69 (impl_Category_then_c a0.On.Source y18 y10 _ hv19) (.cons (.pass (.ptk (ds := eXMonad.b a0) (ds' := eXCategory.b a0.On.Source) (off := 0) (n := 5) (by kernel_rfl) (by kernel_rfl) (by kernel_rfl))) (.cons (.same rfl) (.cons (.same rfl) .nil))) (.inl rfl) (.cons hy20'.1 (.cons hy20'.2.1 (.cons (at_b0 eI_ok hy20'.2.2 (d := iv y20) (by kernel_rfl)) (cc0 ok70 (impl_Monad_arrow_c a1 y20 _ hv21) (by kernel_rfl) .nil)))))))) (by kernel_rfl) (by kernel_rfl) ?_
        rcases Bool.eq_false_or_eq_true (v19 != v21) with h22 | h22
        · have hM := ite_true' hM h22
          refine tr_condTe (e := v19 != v21) h22 (by kernel_rfl) ?_
          refine tr_sr hT hm [] [12] [(12, .d (bv false))] .nil (by kernel_rfl) (by kernel_rfl) ?_
          refine tr_ret (b_r (b_r (q_r (l_r (b_r (q_r (rg_r ?_)))))))
          obtain rfl := Option.some.inj hM
          exact retg (names := []) .nil (by kernel_rfl)
        · have hM := ite_false' hM h22
          refine tr_condFe (e := v19 != v21) h22 (by kernel_rfl) ?_
          obtain ⟨y23, hy23, hM⟩ := bind_some' hM
          have hy23' := idx_some hy23
          obtain ⟨v24, hv24, hM⟩ := bind_some' hM
          obtain ⟨v25, hv25, hM⟩ := bind_some' hM
          obtain ⟨y26, hy26, hM⟩ := bind_some' hM
          have hy26' := idx_some hy26
          obtain ⟨v27, hv27, hM⟩ := bind_some' hM
          obtain ⟨v28, hv28, hM⟩ := bind_some' hM
          obtain ⟨y29, hy29, hM⟩ := bind_some' hM
          have hy29' := idx_some hy29
          obtain ⟨v30, hv30, hM⟩ := bind_some' hM
          refine tr_sr hT hm [(8, .val (iv y23)), (9, .call [] [] [.pt (eXMonad.b a0) 0, iv y23] [] (iv v24)), (11, .call [] [] [.pt (eXCategory.b a0.On.Source) 0, iv v24, iv y10] [] (iv v25)), (17, .val (iv y26)), (20, .call [] [] [.pt (eXMonad.b a1) 0, iv y10] [] (iv v27)), (21, .call [] [] [.pt (eXCategory.b a0.On.Source) 0, iv y26, iv v27] [] (iv v28)), (28, .val (iv y29)), (29, .call [] [] [.pt (eXCategory.b a0.On.Source) 0, iv v28, iv y29] [] (iv v30))] [0, 2, 4, 14, 24, 26, 28, 30, 80, 82, 84, 192] [(0, .d (.pt (eXMonad.b a0) 0)), (2, .d (.pt (eXMonad.b a1) 0)), (4, .d (.sl a2.length 0 (a2.flatMap eI.b))), (14, .d (.pt (eXMonad.b a0) 0)), (24, .d (iv y10)), (26, .d (iv s5)), (28, .d (iv v11)), (30, .d (iv v12)), (80, .d (.sl a2.length 0 (a2.flatMap eI.b))), (82, .d (iv (a2.length : Int))), (84, .d (iv s5)), (192, .d (bv (v25 != v30)))] (.cons hy23'.1 (.cons hy23'.2.1 (.cons (at_b0 eI_ok hy23'.2.2 (d := iv y23) (by kernel_rfl)) (cc0 ok70 (impl_Monad_arrow_c a0 y23 _ hv24) (by kernel_rfl) (cc (B := []) (ρ := []) (rB := []) ok69 (impl_Category_then_c a0.On.Source v24 y10 _ hv25) (.cons (.pass (.ptk (ds := eXMonad.b a0) (ds' := eXCategory.b a0.On.Source) (off := 0) (n := 5) (by kernel_rfl) (by kernel_rfl) (by kernel_rfl))) (.cons (.same rfl) (.cons (.same rfl) .nil))) (.inl rfl) (.cons hy26'.1 (.cons hy26'.2.1 (.cons (at_b0 eI_ok hy26'.2.2 (d := iv y26) (by kernel_rfl)) (cc0 ok70 (impl_Monad_arrow_c a1 y10 _ hv27) (by kernel_rfl) (cc (B := []) (ρ := []) (rB := []) ok69 (impl_Category_then_c a0.On.Source y26 v27 _ hv28) (.cons (.pass (.ptk (ds := eXMonad.b a0) (ds' := eXCategory.b a0.On.Source) (off := 0) (n := 5) (by kernel_rfl) (by kernel_rfl) (by kernel_rfl))) (.cons (.same rfl) (.cons (.same rfl) .nil))) (.inl rfl) (.cons hy29'.1 (.cons hy29'.2.1 (.cons (at_b0 eI_ok hy29'.2.2 (d := iv y29) (by kernel_rfl)) (cc (B := []) (ρ := []) (rB := []) ok69 (impl_Category_then_c a0.On.Source v28 y29 _ hv30) (.cons (.pass (.ptk (ds := eXMonad.b a0) (ds' := eXCategory.b a0.On.Source) (off := 0) (n := 5) (by kernel_rfl) (by kernel_rfl) (by kernel_rfl))) (.cons (.same rfl) (.cons (.same rfl) .nil))) (.inl rfl) .nil)))))))))))))) (by kernel_rfl) (by kernel_rfl) ?_
          rcases Bool.eq_false_or_eq_true (v25 != v30) with h31 | h31
          · have hM := ite_true' hM h31
            refine tr_condTe (e := v25 != v30) h31 (by kernel_rfl) ?_
            refine tr_sr hT hm [] [12] [(12, .d (bv false))] .nil (by kernel_rfl) (by kernel_rfl) ?_
            refine tr_ret (b_r (b_r (q_r (l_r (b_r (q_r (rg_r ?_)))))))
            obtain rfl := Option.some.inj hM
            exact retg (names := []) .nil (by kernel_rfl)
          · have hM := ite_false' hM h31
            refine tr_condFe (e := v25 != v30) h31 (by kernel_rfl) ?_
            obtain ⟨y32, hy32, hM⟩ := bind_some' hM
            have hy32' := idx_some hy32
            obtain ⟨v33, hv33, hM⟩ := bind_some' hM
            obtain ⟨v34, hv34, hM⟩ := bind_some' hM
            obtain ⟨y35, hy35, hM⟩ := bind_some' hM
            have hy35' := idx_some hy35
            obtain ⟨v36, hv36, hM⟩ := bind_some' hM
            obtain ⟨y37, hy37, hM⟩ := bind_some' hM
            have hy37' := idx_some hy37
            obtain ⟨v38, hv38, hM⟩ := bind_some' hM
            obtain ⟨v39, hv39, hM⟩ := bind_some' hM
            refine tr_sr hT hm [(7, .val (iv y32)), (9, .call [] [] [.pt (eXCategory.b a0.On.Source) 0, iv y32, iv y10] [] (iv v33)), (14, .call [] [] [.pt (eXMonad.b a0) 0, iv y10] [] (iv v34)), (18, .val (iv y35)), (19, .call [] [] [.pt (eXCategory.b a0.On.Source) 0, iv v34, iv y35] [] (iv v36)), (27, .val (iv y37)), (28, .call [] [] [.pt (eXMonad.b a1) 0, iv y37] [] (iv v38)), (29, .call [] [] [.pt (eXCategory.b a0.On.Source) 0, iv v36, iv v38] [] (iv v39))] [0, 2, 4, 14, 80, 82, 84, 256] [(0, .d (.pt (eXMonad.b a0) 0)), (2, .d (.pt (eXMonad.b a1) 0)), (4, .d (.sl a2.length 0 (a2.flatMap eI.b))), (14, .d (.pt (eXMonad.b a0) 0)), (80, .d (.sl a2.length 0 (a2.flatMap eI.b))), (82, .d (iv (a2.length : Int))), (84, .d (iv s5)), (256, .d (bv (v33 != v39)))] (.cons hy32'.1 (.cons hy32'.2.1 (.cons (at_b0 eI_ok hy32'.2.2 (d := iv y32) (by kernel_rfl)) (cc (B := []) (ρ := []) (rB := []) ok69 (impl_Category_then_c a0.On.Source y32 y10 _ hv33) (.cons (.pass (.ptk (ds := eXMonad.b a0) (ds' := eXCategory.b a0.On.Source) (off := 0) (n := 5) (by kernel_rfl) (by kernel_rfl) (by kernel_rfl))) (.cons (.same rfl) (.cons (.same rfl) .nil))) (.inl rfl) (cc0 ok70 (impl_Monad_arrow_c a0 y10 _ hv34) (by kernel_rfl) (.cons hy35'.1 (.cons hy35'.2.1 (.cons (at_b0 eI_ok hy35'.2.2 (d := iv y35) (by kernel_rfl)) (cc (B := []) (ρ := []) (rB := []) ok69 (impl_Category_then_c a0.On.Source v34 y35 _ hv36) (.cons (.pass (.ptk (ds := eXMonad.b a0) (ds' := eXCategory.b a0.On.Source) (off := 0) (n := 5) (by kernel_rfl) (by kernel_rfl) (by kernel_rfl))) (.cons (.same rfl) (.cons (.same rfl) .nil))) (.inl rfl) (.cons hy37'.1 (.cons hy37'.2.1 (.cons (at_b0 eI_ok hy37'.2.2 (d := iv y37) (by kernel_rfl)) (cc0 ok70 (impl_Monad_arrow_c a1 y37 _ hv38) (by kernel_rfl) (cc (B := []) (ρ := []) (rB := []) ok69 (impl_Category_then_c a0.On.Source v36 v38 _ hv39) (.cons (.pass (.ptk (ds := eXMonad.b a0) (ds' := eXCategory.b a0.On.Source) (off := 0) (n := 5) (by kernel_rfl) (by kernel_rfl) (by kernel_rfl))) (.cons (.same rfl) (.cons (.same rfl) .nil))) (.inl rfl) .nil)))))))))))))) (by kernel_rfl) (by kernel_rfl) ?_
            rcases Bool.eq_false_or_eq_true (v33 != v39) with h40 | h40
            · have hM := ite_true' hM h40
              refine tr_condTe (e := v33 != v39) h40 (by kernel_rfl) ?_
              refine tr_sr hT hm [] [12] [(12, .d (bv false))] .nil (by kernel_rfl) (by kernel_rfl) ?_
              refine tr_ret (b_r (b_r (q_r (l_r (b_r (q_r (rg_r ?_)))))))
              obtain rfl := Option.some.inj hM
              exact retg (names := []) .nil (by kernel_rfl)
            · have hM := ite_false' hM h40
              refine tr_condFe (e := v33 != v39) h40 (by kernel_rfl) ?_
              refine tr_skip (b_n (b_n (q_n ?_)))
              refine tr_r hT hm [] [0, 2, 4, 14, 80, 82, 84] [(0, .d (.pt (eXMonad.b a0) 0)), (2, .d (.pt (eXMonad.b a1) 0)), (4, .d (.sl a2.length 0 (a2.flatMap eI.b))), (14, .d (.pt (eXMonad.b a0) 0)), (80, .d (.sl a2.length 0 (a2.flatMap eI.b))), (82, .d (iv (a2.length : Int))), (84, .d (iv (IntKind.i64.wrap (s5 + 1))))] .nil (by kernel_rfl) (by kernel_rfl) (l_n ?_)
              exact trl_start (ks := [0, 2, 4, 14, 80, 82, 84]) (by kernel_rfl) (ih7 (IntKind.i64.wrap (s5 + 1)) hM)
    · have hM := ite_false' hM h9
      refine tr_condFe (e := decide (s5 < (a2.length : Int))) h9 (by kernel_rfl) ?_
      refine tr_exit (q_x (l_x (b_h (q_n ?_))))
      refine tr_sr hT hm [] [12] [(12, .d (bv true))] .nil (by kernel_rfl) (by kernel_rfl) ?_
      refine tr_ret (rg_r ?_)
      obtain rfl := Option.some.inj hM
      exact retg (names := []) .nil (by kernel_rfl)
  · have hM := ite_false' hM h4
    refine tr_condTe (e := !v3) (congrArg not h4) (by kernel_rfl) ?_
    refine tr_sr hT hm [] [12] [(12, .d (bv false))] .nil (by kernel_rfl) (by kernel_rfl) ?_
    refine tr_ret (q_r (rg_r ?_))
    obtain rfl := Option.some.inj hM
    exact retg (names := []) .nil (by kernel_rfl)

theorem ok44 : CallOk Try.prog 44 := callOk_of Try.func44 (by kernel_rfl) (by kernel_rfl)
theorem impl_IsDistributiveLaw_c (a0 : XMonad) (a1 : XMonad) (a2 : List Int) (r : Bool × Int) (hM : M.impl_IsDistributiveLaw a0 a1 a2 = some r) :
    FnC Try.prog 44 [] [.agg (eXMonad.b a0), .agg (eXMonad.b a1), .sl a2.length 0 (a2.flatMap eI.b)] [] (.tup [bv r.1, iv r.2]) := by
  refine fnc_startG (N := 15) (np := 500) hT Try.func44 rfl rfl (by kernel_rfl) ?_
  unfold M.impl_IsDistributiveLaw at hM
  refine tr_start (ks := [0, 2, 4]) (st' := [(0, .d (.agg (eXMonad.b a0))), (2, .d (.agg (eXMonad.b a1))), (4, .d (.sl a2.length 0 (a2.flatMap eI.b)))]) (by kernel_rfl) ?_
  refine tr_sr hT hm [] [4, 6, 8, 2007, 2009] [(4, .d (.sl a2.length 0 (a2.flatMap eI.b))), (6, .d (.rp 1003 0)), (8, .d (.rp 1004 0)), bxB 2007 (eXMonad.b a0), bxB 2009 (eXMonad.b a1)] .nil (by kernel_rfl) (by kernel_rfl) ?_
  refine tr_seq ?_
  obtain ⟨v1, hv1, hM⟩ := bind_some' hM
  refine tr_sr hT hm [(0, .call [1003, 1004] [] [.pt (eXMonad.b a0) 0, .pt (eXMonad.b a1) 0] [] (iv v1))] [4, 6, 8, 16, 2007, 2009] [(4, .d (.sl a2.length 0 (a2.flatMap eI.b))), (6, .d (.rp 1003 0)), (8, .d (.rp 1004 0)), (16, .d (iv v1)), bxB 2007 (eXMonad.b a0), bxB 2009 (eXMonad.b a1)] (cc (B := [1003, 1004]) (ρ := []) (rB := [(1003, .arr 1 [iv a0.On.Source.Objects, .sl a0.On.Source.From.length 0 (a0.On.Source.From.flatMap eI.b), .sl a0.On.Source.To.length 0 (a0.On.Source.To.flatMap eI.b), .sl a0.On.Source.Identity.length 0 (a0.On.Source.Identity.flatMap eI.b), .sl a0.On.Source.Composites.length 0 (a0.On.Source.Composites.flatMap (eS eI).b), iv a0.On.Target.Objects, .sl a0.On.Target.From.length 0 (a0.On.Target.From.flatMap eI.b), .sl a0.On.Target.To.length 0 (a0.On.Target.To.flatMap eI.b), .sl a0.On.Target.Identity.length 0 (a0.On.Target.Identity.flatMap eI.b), .sl a0.On.Target.Composites.length 0 (a0.On.Target.Composites.flatMap (eS eI).b), .sl a0.On.Objects.length 0 (a0.On.Objects.flatMap eI.b), .sl a0.On.Arrows.length 0 (a0.On.Arrows.flatMap eI.b), .sl a0.Unit.length 0 (a0.Unit.flatMap eI.b), .sl a0.Join.length 0 (a0.Join.flatMap eI.b)] []), (1004, .arr 1 [iv a1.On.Source.Objects, .sl a1.On.Source.From.length 0 (a1.On.Source.From.flatMap eI.b), .sl a1.On.Source.To.length 0 (a1.On.Source.To.flatMap eI.b), .sl a1.On.Source.Identity.length 0 (a1.On.Source.Identity.flatMap eI.b), .sl a1.On.Source.Composites.length 0 (a1.On.Source.Composites.flatMap (eS eI).b), iv a1.On.Target.Objects, .sl a1.On.Target.From.length 0 (a1.On.Target.From.flatMap eI.b), .sl a1.On.Target.To.length 0 (a1.On.Target.To.flatMap eI.b), .sl a1.On.Target.Identity.length 0 (a1.On.Target.Identity.flatMap eI.b), .sl a1.On.Target.Composites.length 0 (a1.On.Target.Composites.flatMap (eS eI).b), .sl a1.On.Objects.length 0 (a1.On.Objects.flatMap eI.b), .sl a1.On.Arrows.length 0 (a1.On.Arrows.flatMap eI.b), .sl a1.Unit.length 0 (a1.Unit.flatMap eI.b), .sl a1.Join.length 0 (a1.Join.flatMap eI.b)] [])]) ok73 (impl_monadsCode_c a0 a1 _ hv1) (.cons (.of1 (.rp (r := 1003) (sz := 1) (cells := [iv a0.On.Source.Objects, .sl a0.On.Source.From.length 0 (a0.On.Source.From.flatMap eI.b), .sl a0.On.Source.To.length 0 (a0.On.Source.To.flatMap eI.b), .sl a0.On.Source.Identity.length 0 (a0.On.Source.Identity.flatMap eI.b), .sl a0.On.Source.Composites.length 0 (a0.On.Source.Composites.flatMap (eS eI).b), iv a0.On.Target.Objects, .sl a0.On.Target.From.length 0 (a0.On.Target.From.flatMap eI.b), .sl a0.On.Target.To.length 0 (a0.On.Target.To.flatMap eI.b), .sl a0.On.Target.Identity.length 0 (a0.On.Target.Identity.flatMap eI.b), .sl a0.On.Target.Composites.length 0 (a0.On.Target.Composites.flatMap (eS eI).b), .sl a0.On.Objects.length 0 (a0.On.Objects.flatMap eI.b), .sl a0.On.Arrows.length 0 (a0.On.Arrows.flatMap eI.b), .sl a0.Unit.length 0 (a0.Unit.flatMap eI.b), .sl a0.Join.length 0 (a0.Join.flatMap eI.b)]) (refs := []) (memB (by kernel_rfl)) (by kernel_rfl) (.cons .v (.cons (.same rfl rfl) (.cons (.same rfl rfl) (.cons (.same rfl rfl) (.cons (.same rfl rfl) (.cons .v (.cons (.same rfl rfl) (.cons (.same rfl rfl) (.cons (.same rfl rfl) (.cons (.same rfl rfl) (.cons (.same rfl rfl) (.cons (.same rfl rfl) (.cons (.same rfl rfl) (.cons (.same rfl rfl) .nil)))))))))))))))) (.cons (.of1 (.rp (r := 1004) (sz := 1) (cells := [iv a1.On.Source.Objects, .sl a1.On.Source.From.length 0 (a1.On.Source.From.flatMap eI.b), .sl a1.On.Source.To.length 0 (a1.On.Source.To.flatMap eI.b), .sl a1.On.Source.Identity.length 0 (a1.On.Source.Identity.flatMap eI.b), .sl a1.On.Source.Composites.length 0 (a1.On.Source.Composites.flatMap (eS eI).b), iv a1.On.Target.Objects, .sl a1.On.Target.From.length 0 (a1.On.Target.From.flatMap eI.b), .sl a1.On.Target.To.length 0 (a1.On.Target.To.flatMap eI.b), .sl a1.On.Target.Identity.length 0 (a1.On.Target.Identity.flatMap eI.b), .sl a1.On.Target.Composites.length 0 (a1.On.Target.Composites.flatMap (eS eI).b), .sl a1.On.Objects.length 0 (a1.On.Objects.flatMap eI.b), .sl a1.On.Arrows.length 0 (a1.On.Arrows.flatMap eI.b), .sl a1.Unit.length 0 (a1.Unit.flatMap eI.b), .sl a1.Join.length 0 (a1.Join.flatMap eI.b)]) (refs := []) (memB (by kernel_rfl)) (by kernel_rfl) (.cons .v (.cons (.same rfl rfl) (.cons (.same rfl rfl) (.cons (.same rfl rfl) (.cons (.same rfl rfl) (.cons .v (.cons (.same rfl rfl) (.cons (.same rfl rfl) (.cons (.same rfl rfl) (.cons (.same rfl rfl) (.cons (.same rfl rfl) (.cons (.same rfl rfl) (.cons (.same rfl rfl) (.cons (.same rfl rfl) .nil)))))))))))))))) .nil)) (.inr ⟨.v, trivial⟩) .nil) (by kernel_rfl) (by kernel_rfl) ?_
  refine tr_sr hT hm [] [4, 6, 8, 16, 22, 2007, 2009] [(4, .d (.sl a2.length 0 (a2.flatMap eI.b))), (6, .d (.rp 1003 0)), (8, .d (.rp 1004 0)), (16, .d (iv v1)), (22, .d (bv (v1 != 0))), bxB 2007 (eXMonad.b a0), bxB 2009 (eXMonad.b a1)] .nil (by kernel_rfl) (by kernel_rfl) ?_
  rcases Bool.eq_false_or_eq_true (v1 != 0) with h2 | h2
  · have hM := ite_true' hM h2
    refine tr_condTe (e := v1 != 0) h2 (by kernel_rfl) ?_
    refine tr_sr hT hm [] [12, 14] [(12, .d (bv false)), (14, .d (iv v1))] .nil (by kernel_rfl) (by kernel_rfl) ?_
    refine tr_ret (q_r (rg_r ?_))
    obtain rfl := Option.some.inj hM
    exact retg (names := []) .nil (by kernel_rfl)
  · have hM := ite_false' hM h2
    refine tr_condFe (e := v1 != 0) h2 (by kernel_rfl) ?_
    refine tr_skip (q_n ?_)
    obtain ⟨v3, hv3, hM⟩ := bind_some' hM
    refine tr_sr hT hm [(1, .call [1003, 1004] [] [.pt (eXMonad.b a0) 0, .pt (eXMonad.b a1) 0, .sl a2.length 0 (a2.flatMap eI.b)] [] (bv v3))] [12, 14] [(12, .d (bv v3)), (14, .d (iv 0))] (cc (B := [1003, 1004]) (ρ := []) (rB := [(1003, .arr 1 [iv a0.On.Source.Objects, .sl a0.On.Source.From.length 0 (a0.On.Source.From.flatMap eI.b), .sl a0.On.Source.To.length 0 (a0.On.Source.To.flatMap eI.b), .sl a0.On.Source.Identity.length 0 (a0.On.Source.Identity.flatMap eI.b), .sl a0.On.Source.Composites.length 0 (a0.On.Source.Composites.flatMap (eS eI).b), iv a0.On.Target.Objects, .sl a0.On.Target.From.length 0 (a0.On.Target.From.flatMap eI.b), .sl a0.On.Target.To.length 0 (a0.On.Target.To.flatMap eI.b), .sl a0.On.Target.Identity.length 0 (a0.On.Target.Identity.flatMap eI.b), .sl a0.On.Target.Composites.length 0 (a0.On.Target.Composites.flatMap (eS eI).b), .sl a0.On.Objects.length 0 (a0.On.Objects.flatMap eI.b), .sl a0.On.Arrows.length 0 (a0.On.Arrows.flatMap eI.b), .sl a0.Unit.length 0 (a0.Unit.flatMap eI.b), .sl a0.Join.length 0 (a0.Join.flatMap eI.b)] []), (1004, .arr 1 [iv a1.On.Source.Objects, .sl a1.On.Source.From.length 0 (a1.On.Source.From.flatMap eI.b), .sl a1.On.Source.To.length 0 (a1.On.Source.To.flatMap eI.b), .sl a1.On.Source.Identity.length 0 (a1.On.Source.Identity.flatMap eI.b), .sl a1.On.Source.Composites.length 0 (a1.On.Source.Composites.flatMap (eS eI).b), iv a1.On.Target.Objects, .sl a1.On.Target.From.length 0 (a1.On.Target.From.flatMap eI.b), .sl a1.On.Target.To.length 0 (a1.On.Target.To.flatMap eI.b), .sl a1.On.Target.Identity.length 0 (a1.On.Target.Identity.flatMap eI.b), .sl a1.On.Target.Composites.length 0 (a1.On.Target.Composites.flatMap (eS eI).b), .sl a1.On.Objects.length 0 (a1.On.Objects.flatMap eI.b), .sl a1.On.Arrows.length 0 (a1.On.Arrows.flatMap eI.b), .sl a1.Unit.length 0 (a1.Unit.flatMap eI.b), .sl a1.Join.length 0 (a1.Join.flatMap eI.b)] [])]) ok85 (impl_isLaw_c a0 a1 a2 _ hv3) (.cons (.of1 (.rp (r := 1003) (sz := 1) (cells := [iv a0.On.Source.Objects, .sl a0.On.Source.From.length 0 (a0.On.Source.From.flatMap eI.b), .sl a0.On.Source.To.length 0 (a0.On.Source.To.flatMap eI.b), .sl a0.On.Source.Identity.length 0 (a0.On.Source.Identity.flatMap eI.b), .sl a0.On.Source.Composites.length 0 (a0.On.Source.Composites.flatMap (eS eI).b), iv a0.On.Target.Objects, .sl a0.On.Target.From.length 0 (a0.On.Target.From.flatMap eI.b), .sl a0.On.Target.To.length 0 (a0.On.Target.To.flatMap eI.b), .sl a0.On.Target.Identity.length 0 (a0.On.Target.Identity.flatMap eI.b), .sl a0.On.Target.Composites.length 0 (a0.On.Target.Composites.flatMap (eS eI).b), .sl a0.On.Objects.length 0 (a0.On.Objects.flatMap eI.b), .sl a0.On.Arrows.length 0 (a0.On.Arrows.flatMap eI.b), .sl a0.Unit.length 0 (a0.Unit.flatMap eI.b), .sl a0.Join.length 0 (a0.Join.flatMap eI.b)]) (refs := []) (memB (by kernel_rfl)) (by kernel_rfl) (.cons .v (.cons (.same rfl rfl) (.cons (.same rfl rfl) (.cons (.same rfl rfl) (.cons (.same rfl rfl) (.cons .v (.cons (.same rfl rfl) (.cons (.same rfl rfl) (.cons (.same rfl rfl) (.cons (.same rfl rfl) (.cons (.same rfl rfl) (.cons (.same rfl rfl) (.cons (.same rfl rfl) (.cons (.same rfl rfl) .nil)))))))))))))))) (.cons (.of1 (.rp (r := 1004) (sz := 1) (cells := [iv a1.On.Source.Objects, .sl a1.On.Source.From.length 0 (a1.On.Source.From.flatMap eI.b), .sl a1.On.Source.To.length 0 (a1.On.Source.To.flatMap eI.b), .sl a1.On.Source.Identity.length 0 (a1.On.Source.Identity.flatMap eI.b), .sl a1.On.Source.Composites.length 0 (a1.On.Source.Composites.flatMap (eS eI).b), iv a1.On.Target.Objects, .sl a1.On.Target.From.length 0 (a1.On.Target.From.flatMap eI.b), .sl a1.On.Target.To.length 0 (a1.On.Target.To.flatMap eI.b), .sl a1.On.Target.Identity.length 0 (a1.On.Target.Identity.flatMap eI.b), .sl a1.On.Target.Composites.length 0 (a1.On.Target.Composites.flatMap (eS eI).b), .sl a1.On.Objects.length 0 (a1.On.Objects.flatMap eI.b), .sl a1.On.Arrows.length 0 (a1.On.Arrows.flatMap eI.b), .sl a1.Unit.length 0 (a1.Unit.flatMap eI.b), .sl a1.Join.length 0 (a1.Join.flatMap eI.b)]) (refs := []) (memB (by kernel_rfl)) (by kernel_rfl) (.cons .v (.cons (.same rfl rfl) (.cons (.same rfl rfl) (.cons (.same rfl rfl) (.cons (.same rfl rfl) (.cons .v (.cons (.same rfl rfl) (.cons (.same rfl rfl) (.cons (.same rfl rfl) (.cons (.same rfl rfl) (.cons (.same rfl rfl) (.cons (.same rfl rfl) (.cons (.same rfl rfl) (.cons (.same rfl rfl) .nil)))))))))))))))) (.cons (.same rfl) .nil))) (.inr ⟨.v, trivial⟩) .nil) (by kernel_rfl) (by kernel_rfl) ?_
    refine tr_ret (rg_r ?_)
    obtain rfl := Option.some.inj hM
    exact retg (names := []) .nil (by kernel_rfl)

theorem ok13 : CallOk Try.prog 13 := callOk_of Try.func13 (by kernel_rfl) (by kernel_rfl)
theorem laws_FnExactIsDistributiveLaw_c (a0 : XMonad) (a1 : XMonad) (a2 : List Int) (r : Bool) (hM : M.laws_FnExactIsDistributiveLaw a0 a1 a2 = some r) :
    FnC Try.prog 13 [] [.agg (eXMonad.b a0), .agg (eXMonad.b a1), .sl a2.length 0 (a2.flatMap eI.b)] [] (bv r) := by
  refine fnc_startG (N := 74) (np := 500) hT Try.func13 rfl rfl (by kernel_rfl) ?_
  unfold M.laws_FnExactIsDistributiveLaw at hM
  refine tr_start (ks := [0, 2, 4]) (st' := [(0, .d (.agg (eXMonad.b a0))), (2, .d (.agg (eXMonad.b a1))), (4, .d (.sl a2.length 0 (a2.flatMap eI.b)))]) (by kernel_rfl) ?_
  refine tr_sr hT hm [] [4, 6, 8, 2007, 2009] [(4, .d (.sl a2.length 0 (a2.flatMap eI.b))), (6, .d (.rp 1003 0)), (8, .d (.rp 1004 0)), bxB 2007 (eXMonad.b a0), bxB 2009 (eXMonad.b a1)] .nil (by kernel_rfl) (by kernel_rfl) ?_
  refine tr_seq ?_
  refine tr_sr hT hm [] [4, 6, 8, 34, 2007, 2009] [(4, .d (.sl a2.length 0 (a2.flatMap eI.b))), (6, .d (.rp 1003 0)), (8, .d (.rp 1004 0)), (34, .d (bv (decide ((a2.length : Int) > 1048576)))), bxB 2007 (eXMonad.b a0), bxB 2009 (eXMonad.b a1)] .nil (by kernel_rfl) (by kernel_rfl) ?_
  rcases Bool.eq_false_or_eq_true (decide ((a2.length : Int) > 1048576)) with h1 | h1
  · have hM := ite_true' hM h1
    refine tr_condTe (e := decide ((a2.length : Int) > 1048576)) h1 (by kernel_rfl) ?_
    refine tr_sr hT hm [] [12] [(12, .d (bv true))] .nil (by kernel_rfl) (by kernel_rfl) ?_
    refine tr_ret (q_r (rg_r ?_))
    obtain rfl := Option.some.inj hM
    exact retg (names := []) .nil (by kernel_rfl)
  · have hM := ite_false' hM h1
    refine tr_condFe (e := decide ((a2.length : Int) > 1048576)) h1 (by kernel_rfl) ?_
    refine tr_skip (q_n ?_)
    refine tr_sr hT hm [] [4, 6, 8, 14, 2007, 2009] [(4, .d (.sl a2.length 0 (a2.flatMap eI.b))), (6, .d (.rp 1003 0)), (8, .d (.rp 1004 0)), (14, .d (iv 1048576)), bxB 2007 (eXMonad.b a0), bxB 2009 (eXMonad.b a1)] .nil (by kernel_rfl) (by kernel_rfl) ?_
    obtain ⟨v2, hv2, hM⟩ := bind_some' hM
    refine tr_sr hT hm [(2, .call [] [] [.agg (eXMonad.b a0), iv 1048576] [] (iv v2))] [4, 6, 8, 14, 2007, 2009] [(4, .d (.sl a2.length 0 (a2.flatMap eI.b))), (6, .d (.rp 1003 0)), (8, .d (.rp 1004 0)), (14, .d (iv v2)), bxB 2007 (eXMonad.b a0), bxB 2009 (eXMonad.b a1)] (cc0 ok15 (laws_szMonad_c a0 1048576 _ hv2) (by kernel_rfl) .nil) (by kernel_rfl) (by kernel_rfl) ?_
    refine tr_seq ?_
    refine tr_sr hT hm [] [4, 6, 8, 14, 44, 2007, 2009] [(4, .d (.sl a2.length 0 (a2.flatMap eI.b))), (6, .d (.rp 1003 0)), (8, .d (.rp 1004 0)), (14, .d (iv v2)), (44, .d (bv (decide (v2 < 0)))), bxB 2007 (eXMonad.b a0), bxB 2009 (eXMonad.b a1)] .nil (by kernel_rfl) (by kernel_rfl) ?_
    rcases Bool.eq_false_or_eq_true (decide (v2 < 0)) with h3 | h3
    · have hM := ite_true' hM h3
      refine tr_condTe (e := decide (v2 < 0)) h3 (by kernel_rfl) ?_
      refine tr_sr hT hm [] [12] [(12, .d (bv true))] .nil (by kernel_rfl) (by kernel_rfl) ?_
      refine tr_ret (q_r (rg_r ?_))
      obtain rfl := Option.some.inj hM
      exact retg (names := []) .nil (by kernel_rfl)
    · have hM := ite_false' hM h3
      refine tr_condFe (e := decide (v2 < 0)) h3 (by kernel_rfl) ?_
      refine tr_skip (q_n ?_)
      obtain ⟨v4, hv4, hM⟩ := bind_some' hM
      refine tr_sr hT hm [(2, .call [] [] [.agg (eXMonad.b a1), iv v2] [] (iv v4))] [4, 6, 8, 14, 2007, 2009] [(4, .d (.sl a2.length 0 (a2.flatMap eI.b))), (6, .d (.rp 1003 0)), (8, .d (.rp 1004 0)), (14, .d (iv v4)), bxB 2007 (eXMonad.b a0), bxB 2009 (eXMonad.b a1)] (cc0 ok15 (laws_szMonad_c a1 v2 _ hv4) (by kernel_rfl) .nil) (by kernel_rfl) (by kernel_rfl) ?_
      refine tr_seq ?_
      refine tr_sr hT hm [] [4, 6, 8, 54, 2007, 2009] [(4, .d (.sl a2.length 0 (a2.flatMap eI.b))), (6, .d (.rp 1003 0)), (8, .d (.rp 1004 0)), (54, .d (bv (decide (v4 < 0)))), bxB 2007 (eXMonad.b a0), bxB 2009 (eXMonad.b a1)] .nil (by kernel_rfl) (by kernel_rfl) ?_
      rcases Bool.eq_false_or_eq_true (decide (v4 < 0)) with h5 | h5
      · have hM := ite_true' hM h5
        refine tr_condTe (e := decide (v4 < 0)) h5 (by kernel_rfl) ?_
        refine tr_sr hT hm [] [12] [(12, .d (bv true))] .nil (by kernel_rfl) (by kernel_rfl) ?_
        refine tr_ret (q_r (rg_r ?_))
        obtain rfl := Option.some.inj hM
        exact retg (names := []) .nil (by kernel_rfl)
      · have hM := ite_false' hM h5
        refine tr_condFe (e := decide (v4 < 0)) h5 (by kernel_rfl) ?_
        refine tr_skip (q_n ?_)
        obtain ⟨v6, hv6, hM⟩ := bind_some' hM
        obtain ⟨v7, hv7, hM⟩ := bind_some' hM
        obtain ⟨v8, hv8, hM⟩ := bind_some' hM
        obtain ⟨v9, hv9, hM⟩ := bind_some' hM
        refine tr_sr hT hm [(1, .call [] [] [.agg (eXMonad.b a0)] [] (.agg (eXMonad.o v6))), (3, .call [] [] [.agg (eXMonad.b a1)] [] (.agg (eXMonad.o v7))), (5, .call [] [] [.sl a2.length 0 (a2.flatMap eI.b)] [] (.fr 1 v8.length (v8.flatMap eI.o))), (6, .call (rsR 32000 (eXMonad.o v6) ++ rsR 34000 (eXMonad.o v7) ++ [36000]) [] [.agg (eXMonad.b v6), .agg (eXMonad.b v7), .sl v8.length 0 (v8.flatMap eI.b)] [] (.tup [bv v9.1, iv v9.2]))] [4, 6, 8, 16, 18, 2007, 2009] [(4, .d (.sl a2.length 0 (a2.flatMap eI.b))), (6, .d (.rp 1003 0)), (8, .d (.rp 1004 0)), (16, .d (bv v9.1)), (18, .d (iv v9.2)), bxB 2007 (eXMonad.b a0), bxB 2009 (eXMonad.b a1)] (cc0 ok17 (laws_toMonad_c a0 _ hv6) (by kernel_rfl) (cc0 ok17 (laws_toMonad_c a1 _ hv7) (by kernel_rfl) (cc0 ok34 (laws_toInt64S_c a2 _ hv8) (by kernel_rfl) (cc (B := (rsR 32000 (eXMonad.o v6) ++ rsR 34000 (eXMonad.o v7) ++ [36000])) (ρ := []) (rB := (rsP 32000 (eXMonad.o v6) ++ rsP 34000 (eXMonad.o v7) ++ [(36000, .arr 1 (v8.flatMap eI.o) [])])) ok43 (spec_IsDistributiveLaw_c v6 v7 v8 _ hv9) (.cons (bor_rs eXMonad_r (q := 32000) (x := v6) (by kernel_rfl) (by kernel_rfl)) (.cons (bor_rs eXMonad_r (q := 34000) (x := v7) (by kernel_rfl) (by kernel_rfl)) (.cons (.of1 (.rs (r := 36000) (sz := 1) (refs := []) (memB (by kernel_rfl)) (by kernel_rfl) (bor_flat eI_ok _ _ _))) .nil))) (.inr ⟨(nobor_tup (.cons .v (.cons .v .nil))), trivial⟩) .nil)))) (by kernel_rfl) (by kernel_rfl) ?_
        refine tr_sr hT hm [(1, .call [] [] [.agg (eXMonad.b a0)] [] (.agg (eXMonad.o v6)))] [4, 6, 8, 16, 18, 20, 2007, 2009, 2021, 82003, 82005, 82007, 82009, 82013, 82015, 82017, 82019, 82021, 82023, 82025, 82027] ([(4, .d (.sl a2.length 0 (a2.flatMap eI.b))), (6, .d (.rp 1003 0)), (8, .d (.rp 1004 0)), (16, .d (bv v9.1)), (18, .d (iv v9.2)), (20, .d (.rp 1010 0)), bxB 2007 (eXMonad.b a0), bxB 2009 (eXMonad.b a1), bxO 2021 41000 (eXMonad.o v6)] ++ rsS 41000 (eXMonad.o v6)) (cc0 ok17 (laws_toMonad_c a0 _ hv6) (by kernel_rfl) (.cons (Nat.le_of_ble_eq_true (n := 14) (m := 14) rfl) .nil)) (by kernel_rfl) (by kernel_rfl) ?_
        refine tr_sr hT hm [(1, .call [] [] [.agg (eXMonad.b a1)] [] (.agg (eXMonad.o v7)))] [4, 6, 8, 16, 18, 20, 22, 2007, 2009, 2021, 2023, 82003, 82005, 82007, 82009, 82013, 82015, 82017, 82019, 82021, 82023, 82025, 82027, 86003, 86005, 86007, 86009, 86013, 86015, 86017, 86019, 86021, 86023, 86025, 86027] ([(4, .d (.sl a2.length 0 (a2.flatMap eI.b))), (6, .d (.rp 1003 0)), (8, .d (.rp 1004 0)), (16, .d (bv v9.1)), (18, .d (iv v9.2)), (20, .d (.rp 1010 0)), (22, .d (.rp 1011 0)), bxB 2007 (eXMonad.b a0), bxB 2009 (eXMonad.b a1), bxO 2021 41000 (eXMonad.o v6), bxO 2023 43000 (eXMonad.o v7)] ++ rsS 41000 (eXMonad.o v6) ++ rsS 43000 (eXMonad.o v7)) (cc0 ok17 (laws_toMonad_c a1 _ hv7) (by kernel_rfl) (.cons (Nat.le_of_ble_eq_true (n := 14) (m := 14) rfl) .nil)) (by kernel_rfl) (by kernel_rfl) ?_
        refine tr_sr hT hm [(1, .call [] [] [.sl a2.length 0 (a2.flatMap eI.b)] [] (.fr 1 v8.length (v8.flatMap eI.o)))] [4, 6, 8, 16, 18, 20, 22, 24, 2007, 2009, 2021, 2023, 82003, 82005, 82007, 82009, 82013, 82015, 82017, 82019, 82021, 82023, 82025, 82027, 86003, 86005, 86007, 86009, 86013, 86015, 86017, 86019, 86021, 86023, 86025, 86027, 90001] ([(4, .d (.sl a2.length 0 (a2.flatMap eI.b))), (6, .d (.rp 1003 0)), (8, .d (.rp 1004 0)), (16, .d (bv v9.1)), (18, .d (iv v9.2)), (20, .d (.rp 1010 0)), (22, .d (.rp 1011 0)), (24, .d (.rs 45000 0 v8.length)), bxB 2007 (eXMonad.b a0), bxB 2009 (eXMonad.b a1), bxO 2021 41000 (eXMonad.o v6), bxO 2023 43000 (eXMonad.o v7)] ++ rsS 41000 (eXMonad.o v6) ++ rsS 43000 (eXMonad.o v7) ++ [(90001, .r (.arr 1 (v8.flatMap eI.o) []))]) (cc0 ok34 (laws_toInt64S_c a2 _ hv8) (by kernel_rfl) .nil) (by kernel_rfl) (by kernel_rfl) ?_
        obtain ⟨v10, hv10, hM⟩ := bind_some' hM
        refine tr_sr hT hm [(3, .call (rsR 41000 (eXMonad.o v6) ++ rsR 43000 (eXMonad.o v7) ++ [45000]) [] [.agg (eXMonad.b v6), .agg (eXMonad.b v7), .sl v8.length 0 (v8.flatMap eI.b)] [] (.tup [bv v10.1, iv v10.2]))] [4, 6, 8, 16, 18, 20, 22, 24, 26, 28, 2007, 2009, 2021, 2023, 82003, 82005, 82007, 82009, 82013, 82015, 82017, 82019, 82021, 82023, 82025, 82027, 86003, 86005, 86007, 86009, 86013, 86015, 86017, 86019, 86021, 86023, 86025, 86027, 90001] ([(4, .d (.sl a2.length 0 (a2.flatMap eI.b))), (6, .d (.rp 1003 0)), (8, .d (.rp 1004 0)), (16, .d (bv v9.1)), (18, .d (iv v9.2)), (20, .d (.rp 1010 0)), (22, .d (.rp 1011 0)), (24, .d (.rs 45000 0 v8.length)), (26, .d (bv v10.1)), (28, .d (iv v10.2)), bxB 2007 (eXMonad.b a0), bxB 2009 (eXMonad.b a1), bxO 2021 41000 (eXMonad.o v6), bxO 2023 43000 (eXMonad.o v7)] ++ rsS 41000 (eXMonad.o v6) ++ rsS 43000 (eXMonad.o v7) ++ [(90001, .r (.arr 1 (v8.flatMap eI.o) []))]) (cc (B := (rsR 41000 (eXMonad.o v6) ++ rsR 43000 (eXMonad.o v7) ++ [45000])) (ρ := []) (rB := (rsP 41000 (eXMonad.o v6) ++ rsP 43000 (eXMonad.o v7) ++ [(45000, .arr 1 (v8.flatMap eI.o) [])])) ok44 (impl_IsDistributiveLaw_c v6 v7 v8 _ hv10) (.cons (bor_rs eXMonad_r (q := 41000) (x := v6) (by kernel_rfl) (by kernel_rfl)) (.cons (bor_rs eXMonad_r (q := 43000) (x := v7) (by kernel_rfl) (by kernel_rfl)) (.cons (.of1 (.rs (r := 45000) (sz := 1) (refs := []) (memB (by kernel_rfl)) (by kernel_rfl) (bor_flat eI_ok _ _ _))) .nil))) (.inr ⟨(nobor_tup (.cons .v (.cons .v .nil))), trivial⟩) .nil) (by kernel_rfl) (by kernel_rfl) ?_
        refine tr_seq ?_
        rcases Bool.eq_false_or_eq_true ((v10.1 == v9.1) == false) with h11 | h11
        · have hM := ite_true' hM h11
          refine tr_sr hT hm [(3, .val (bv true))] [4, 6, 8, 20, 22, 24, 116, 2007, 2009, 2021, 2023, 82003, 82005, 82007, 82009, 82013, 82015, 82017, 82019, 82021, 82023, 82025, 82027, 86003, 86005, 86007, 86009, 86013, 86015, 86017, 86019, 86021, 86023, 86025, 86027, 90001] ([(4, .d (.sl a2.length 0 (a2.flatMap eI.b))), (6, .d (.rp 1003 0)), (8, .d (.rp 1004 0)), (20, .d (.rp 1010 0)), (22, .d (.rp 1011 0)), (24, .d (.rs 45000 0 v8.length)), (116, .d (bv true)), bxB 2007 (eXMonad.b a0), bxB 2009 (eXMonad.b a1), bxO 2021 41000 (eXMonad.o v6), bxO 2023 43000 (eXMonad.o v7)] ++ rsS 41000 (eXMonad.o v6) ++ rsS 43000 (eXMonad.o v7) ++ [(90001, .r (.arr 1 (v8.flatMap eI.o) []))]) (.cons (congrArg (fun b => bv b) h11) .nil) (by kernel_rfl) (by kernel_rfl) ?_
          refine tr_condT (by kernel_rfl) ?_
          refine tr_sr hT hm [] [12] [(12, .d (bv false))] .nil (by kernel_rfl) (by kernel_rfl) ?_
          refine tr_ret (q_r (rg_r ?_))
          obtain rfl := Option.some.inj hM
          exact retg (names := []) .nil (by kernel_rfl)
        · have hM := ite_false' hM h11
          refine tr_sr hT hm [(3, .val (bv false))] [4, 6, 8, 20, 22, 24, 116, 2007, 2009, 2021, 2023, 82003, 82005, 82007, 82009, 82013, 82015, 82017, 82019, 82021, 82023, 82025, 82027, 86003, 86005, 86007, 86009, 86013, 86015, 86017, 86019, 86021, 86023, 86025, 86027, 90001] ([(4, .d (.sl a2.length 0 (a2.flatMap eI.b))), (6, .d (.rp 1003 0)), (8, .d (.rp 1004 0)), (20, .d (.rp 1010 0)), (22, .d (.rp 1011 0)), (24, .d (.rs 45000 0 v8.length)), (116, .d (bv (v10.2 != v9.2))), bxB 2007 (eXMonad.b a0), bxB 2009 (eXMonad.b a1), bxO 2021 41000 (eXMonad.o v6), bxO 2023 43000 (eXMonad.o v7)] ++ rsS 41000 (eXMonad.o v6) ++ rsS 43000 (eXMonad.o v7) ++ [(90001, .r (.arr 1 (v8.flatMap eI.o) []))]) (.cons (congrArg (fun b => bv b) h11) .nil) (by kernel_rfl) (by kernel_rfl) ?_
          rcases Bool.eq_false_or_eq_true (v10.2 != v9.2) with h12 | h12
          · have hM := ite_true' hM h12
            refine tr_condTe (e := v10.2 != v9.2) h12 (by kernel_rfl) ?_
            refine tr_sr hT hm [] [12] [(12, .d (bv false))] .nil (by kernel_rfl) (by kernel_rfl) ?_
            refine tr_ret (q_r (rg_r ?_))
            obtain rfl := Option.some.inj hM
            exact retg (names := []) .nil (by kernel_rfl)
          · have hM := ite_false' hM h12
            refine tr_condFe (e := v10.2 != v9.2) h12 (by kernel_rfl) ?_
            refine tr_skip (q_n ?_)
            refine tr_seq ?_
            obtain ⟨v13, hv13, hM⟩ := bind_some' hM
            refine tr_sr hT hm [(2, .call [] [] [.agg (eXMonad.b a0)] [] (.agg (eXMonad.o v6))), (3, .call (rsR 41000 (eXMonad.o v6) ++ rsR 63000 (eXMonad.o v6)) [] [.agg (eXMonad.b v6), .agg (eXMonad.b v6)] [] (bv v13))] [4, 8, 22, 24, 126, 2009, 2023, 86003, 86005, 86007, 86009, 86013, 86015, 86017, 86019, 86021, 86023, 86025, 86027, 90001] ([(4, .d (.sl a2.length 0 (a2.flatMap eI.b))), (8, .d (.rp 1004 0)), (22, .d (.rp 1011 0)), (24, .d (.rs 45000 0 v8.length)), (126, .d (bv (!v13))), bxB 2009 (eXMonad.b a1), bxO 2023 43000 (eXMonad.o v7)] ++ rsS 43000 (eXMonad.o v7) ++ [(90001, .r (.arr 1 (v8.flatMap eI.o) []))]) (cc0 ok17 (laws_toMonad_c a0 _ hv6) (by kernel_rfl) (cc (B := (rsR 41000 (eXMonad.o v6) ++ rsR 63000 (eXMonad.o v6))) (ρ := []) (rB := (rsP 41000 (eXMonad.o v6) ++ rsP 63000 (eXMonad.o v6))) ok19 (laws_eqMonad_c v6 v6 _ hv13) (.cons (bor_rs eXMonad_r (q := 41000) (x := v6) (by kernel_rfl) (by kernel_rfl)) (.cons (bor_rs eXMonad_r (q := 63000) (x := v6) (by kernel_rfl) (by kernel_rfl)) .nil)) (.inr ⟨.v, trivial⟩) .nil)) (by kernel_rfl) (by kernel_rfl) ?_
            rcases Bool.eq_false_or_eq_true v13 with h14 | h14
            · have hM := ite_true' hM h14
              refine tr_condFe (e := !v13) (congrArg not h14) (by kernel_rfl) ?_
              refine tr_skip (q_n ?_)
              refine tr_seq ?_
              obtain ⟨v15, hv15, hM⟩ := bind_some' hM
              refine tr_sr hT hm [(2, .call [] [] [.agg (eXMonad.b a1)] [] (.agg (eXMonad.o v7))), (3, .call (rsR 43000 (eXMonad.o v7) ++ rsR 68000 (eXMonad.o v7)) [] [.agg (eXMonad.b v7), .agg (eXMonad.b v7)] [] (bv v15))] [4, 24, 136, 90001] [(4, .d (.sl a2.length 0 (a2.flatMap eI.b))), (24, .d (.rs 45000 0 v8.length)), (136, .d (bv (!v15))), (90001, .r (.arr 1 (v8.flatMap eI.o) []))] (cc0 ok17 (laws_toMonad_c a1 _ hv7) (by kernel_rfl) (cc (B := (rsR 43000 (eXMonad.o v7) ++ rsR 68000 (eXMonad.o v7))) (ρ := []) (rB := (rsP 43000 (eXMonad.o v7) ++ rsP 68000 (eXMonad.o v7))) ok19 (laws_eqMonad_c v7 v7 _ hv15) (.cons (bor_rs eXMonad_r (q := 43000) (x := v7) (by kernel_rfl) (by kernel_rfl)) (.cons (bor_rs eXMonad_r (q := 68000) (x := v7) (by kernel_rfl) (by kernel_rfl)) .nil)) (.inr ⟨.v, trivial⟩) .nil)) (by kernel_rfl) (by kernel_rfl) ?_
              rcases Bool.eq_false_or_eq_true v15 with h16 | h16
              · have hM := ite_true' hM h16
                refine tr_condFe (e := !v15) (congrArg not h16) (by kernel_rfl) ?_
                refine tr_skip (q_n ?_)
                refine tr_seq ?_
                obtain ⟨v17, hv17, hM⟩ := bind_some' hM
                refine tr_sr hT hm [(2, .call [] [] [.sl a2.length 0 (a2.flatMap eI.b)] [] (.fr 1 v8.length (v8.flatMap eI.o))), (3, .call [45000, 73000] [] [.sl v8.length 0 (v8.flatMap eI.b), .sl v8.length 0 (v8.flatMap eI.b)] [] (bv v17))] [146] [(146, .d (bv (!v17)))] (cc0 ok34 (laws_toInt64S_c a2 _ hv8) (by kernel_rfl) (cc (B := [45000, 73000]) (ρ := []) (rB := [(45000, .arr 1 (v8.flatMap eI.o) []), (73000, .arr 1 (v8.flatMap eI.o) [])]) ok36 (laws_eqInt64S_c v8 v8 _ hv17) (.cons (.of1 (.rs (r := 45000) (sz := 1) (refs := []) (memB (by kernel_rfl)) (by kernel_rfl) (bor_flat eI_ok _ _ _))) (.cons (.of1 (.rs (r := 73000) (sz := 1) (refs := []) (memB (by kernel_rfl)) (by kernel_rfl) (bor_flat eI_ok _ _ _))) .nil)) (.inr ⟨.v, trivial⟩) .nil)) (by kernel_rfl) (by kernel_rfl) ?_
                rcases Bool.eq_false_or_eq_true v17 with h18 | h18
                · have hM := ite_true' hM h18
                  refine tr_condFe (e := !v17) (congrArg not h18) (by kernel_rfl) ?_
                  refine tr_skip (q_n ?_)
                  refine tr_sr hT hm [] [12] [(12, .d (bv true))] .nil (by kernel_rfl) (by kernel_rfl) ?_
                  refine tr_ret (rg_r ?_)
                  obtain rfl := Option.some.inj hM
                  exact retg (names := []) .nil (by kernel_rfl)
                · have hM := ite_false' hM h18
                  refine tr_condTe (e := !v17) (congrArg not h18) (by kernel_rfl) ?_
                  refine tr_sr hT hm [] [12] [(12, .d (bv false))] .nil (by kernel_rfl) (by kernel_rfl) ?_
                  refine tr_ret (q_r (rg_r ?_))
                  obtain rfl := Option.some.inj hM
                  exact retg (names := []) .nil (by kernel_rfl)
              · have hM := ite_false' hM h16
                refine tr_condTe (e := !v15) (congrArg not h16) (by kernel_rfl) ?_
                refine tr_sr hT hm [] [12] [(12, .d (bv false))] .nil (by kernel_rfl) (by kernel_rfl) ?_
                refine tr_ret (q_r (rg_r ?_))
                obtain rfl := Option.some.inj hM
                exact retg (names := []) .nil (by kernel_rfl)
            · have hM := ite_false' hM h14
              refine tr_condTe (e := !v13) (congrArg not h14) (by kernel_rfl) ?_
              refine tr_sr hT hm [] [12] [(12, .d (bv false))] .nil (by kernel_rfl) (by kernel_rfl) ?_
              refine tr_ret (q_r (rg_r ?_))
              obtain rfl := Option.some.inj hM
              exact retg (names := []) .nil (by kernel_rfl)

end Go.Proofs.Ytpfdieaiogfihaa.Ww50
