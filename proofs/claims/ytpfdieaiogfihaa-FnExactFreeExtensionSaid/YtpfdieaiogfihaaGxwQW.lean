/- Walks. Printed by wip/gen. -/
import Derived.Test.YtpfdieaiogfihaaGxwQM
import Derived.Test.YtpfdieaiogfihaaGxwPW
import Derived.KernelRfl
namespace Go.Proofs.Ytpfdieaiogfihaa.WwQ
open Go.Gx Go.Proofs.Ytpfdieaiogfihaa.WvB Go.Proofs.Ytpfdieaiogfihaa.WwN Go.Proofs.Ytpfdieaiogfihaa.WvS Go.Proofs.Ytpfdieaiogfihaa.WvF Go.Proofs.Ytpfdieaiogfihaa.WwT Go.Proofs.Ytpfdieaiogfihaa.WwU Go.Proofs.Ytpfdieaiogfihaa.WvH Go.Proofs.Ytpfdieaiogfihaa.WvI Go.Proofs.Ytpfdieaiogfihaa.WwM Go.Proofs.Ytpfdieaiogfihaa.WwO Go.Proofs.Ytpfdieaiogfihaa.WwP

theorem eXCategory_r : EncR eXCategory := (eA_r (eC_r eI_r _) (eA_r (eC_r (eS_r eI_ok) _) (eA_r (eC_r (eS_r eI_ok) _) (eA_r (eC_r (eS_r eI_ok) _) (eC_r (eS_r (eS_ok eI_ok)) _)))))
theorem eXFunctor_r : EncR eXFunctor := (eA_r (eC_r eXCategory_r _) (eA_r (eC_r eXCategory_r _) (eA_r (eC_r (eS_r eI_ok) _) (eC_r (eS_r eI_ok) _))))
theorem eXends_r : EncR eXends := (eA_r (eC_r eI_r _) (eC_r eI_r _))
theorem eXTransformation_r : EncR eXTransformation := (eA_r (eC_r eXFunctor_r _) (eA_r (eC_r eXFunctor_r _) (eC_r (eS_r eI_ok) _)))
theorem eXMonad_r : EncR eXMonad := (eA_r (eC_r eXFunctor_r _) (eA_r (eC_r (eS_r eI_ok) _) (eC_r (eS_r eI_ok) _)))
def T : Tab := [(2, ⟨.int .i64, 1, 8, [.int .i64 0]⟩),
  (22, ⟨.slice 2, 1, 24, [.slice .none 0 0]⟩),
  (23, ⟨.slice 22, 1, 24, [.slice .none 0 0]⟩),
  (32, ⟨.struct #[⟨"Objects", 2, 0, false, "", "", 0⟩, ⟨"From", 22, 1, false, "", "", 8⟩, ⟨"To", 22, 2, false, "", "", 32⟩, ⟨"Identity", 22, 3, false, "", "", 56⟩, ⟨"Composites", 23, 4, false, "", "", 80⟩], 5, 104, [.int .i64 0, .slice .none 0 0, .slice .none 0 0, .slice .none 0 0, .slice .none 0 0]⟩),
  (34, ⟨.struct #[⟨"Source", 32, 0, false, "", "", 0⟩, ⟨"Target", 32, 5, false, "", "", 104⟩, ⟨"Objects", 22, 10, false, "", "", 208⟩, ⟨"Arrows", 22, 11, false, "", "", 232⟩], 12, 256, [.int .i64 0, .slice .none 0 0, .slice .none 0 0, .slice .none 0 0, .slice .none 0 0, .int .i64 0, .slice .none 0 0, .slice .none 0 0, .slice .none 0 0, .slice .none 0 0, .slice .none 0 0, .slice .none 0 0]⟩),
  (36, ⟨.struct #[⟨"On", 34, 0, false, "", "", 0⟩, ⟨"Unit", 22, 12, false, "", "", 256⟩, ⟨"Join", 22, 13, false, "", "", 280⟩], 14, 304, [.int .i64 0, .slice .none 0 0, .slice .none 0 0, .slice .none 0 0, .slice .none 0 0, .int .i64 0, .slice .none 0 0, .slice .none 0 0, .slice .none 0 0, .slice .none 0 0, .slice .none 0 0, .slice .none 0 0, .slice .none 0 0, .slice .none 0 0]⟩),
  (84, ⟨.struct #[⟨"from", 2, 0, false, "", "loop.example/g01083/impl", 0⟩, ⟨"to", 2, 1, false, "", "loop.example/g01083/impl", 8⟩], 2, 16, [.int .i64 0, .int .i64 0]⟩)]
theorem hT : TabOk Try.prog T := ⟨tiok (by kernel_rfl) (by kernel_rfl), tiok (by kernel_rfl) (by kernel_rfl), tiok (by kernel_rfl) (by kernel_rfl), tiok (by kernel_rfl) (by kernel_rfl), tiok (by kernel_rfl) (by kernel_rfl), tiok (by kernel_rfl) (by kernel_rfl), tiok (by kernel_rfl) (by kernel_rfl), trivial⟩
theorem hm : Try.prog.follows .mixedOrders = true := by kernel_rfl

theorem ok66 : CallOk Try.prog 66 := callOk_of Try.func66 (by kernel_rfl) (by kernel_rfl)
theorem spec_l17Is_c (a0 : XMonad) (a1 : Int) (a2 : Int) (r : Bool) (hM : M.spec_l17Is a0 a1 a2 = some r) :
    FnC Try.prog 66 [] [.agg (eXMonad.b a0), iv a1, iv a2] [] (bv r) := by
  refine fnc_startG (N := 63) (np := 500) hT Try.func66 rfl rfl (by kernel_rfl) ?_
  unfold M.spec_l17Is at hM
  refine tr_start (ks := [0, 2, 4]) (st' := [(0, .d (.agg (eXMonad.b a0))), (2, .d (iv a1)), (4, .d (iv a2))]) (by kernel_rfl) ?_
  refine tr_sr hT hm [] [2, 4, 6, 2007] [(2, .d (iv a1)), (4, .d (iv a2)), (6, .d (.rp 1003 0)), bxB 2007 (eXMonad.b a0)] .nil (by kernel_rfl) (by kernel_rfl) ?_
  refine tr_sr hT hm [] [2, 4, 6, 14, 2007, 2015] [(2, .d (iv a1)), (4, .d (iv a2)), (6, .d (.rp 1003 0)), (14, .d (.rp 1007 0)), bxB 2007 (eXMonad.b a0), bxB 2015 (eXCategory.b a0.On.Source)] (.cons (Nat.le_of_ble_eq_true (n := 5) (m := 5) rfl) .nil) (by kernel_rfl) (by kernel_rfl) ?_
  refine tr_seq ?_
  obtain ⟨y1, hy1, hM⟩ := bind_some' hM
  have hy1' := idx_some hy1
  obtain ⟨y2, hy2, hM⟩ := bind_some' hM
  have hy2' := idx_some hy2
  rcases Bool.eq_false_or_eq_true (y1 != y2) with h3 | h3
  · have hM := ite_true' hM h3
    refine tr_sr hT hm [(4, .val (iv y1)), (10, .val (iv y2)), (12, .val (bv true))] [2, 4, 6, 14, 88, 2007, 2015] [(2, .d (iv a1)), (4, .d (iv a2)), (6, .d (.rp 1003 0)), (14, .d (.rp 1007 0)), (88, .d (bv true)), bxB 2007 (eXMonad.b a0), bxB 2015 (eXCategory.b a0.On.Source)] (.cons hy1'.1 (.cons hy1'.2.1 (.cons (at_b0 eI_ok hy1'.2.2 (d := iv y1) (by kernel_rfl)) (.cons hy2'.1 (.cons hy2'.2.1 (.cons (at_b0 eI_ok hy2'.2.2 (d := iv y2) (by kernel_rfl)) (.cons (congrArg (fun b => bv b) h3) .nil))))))) (by kernel_rfl) (by kernel_rfl) ?_
    refine tr_condT (by kernel_rfl) ?_
    refine tr_sr hT hm [] [12] [(12, .d (bv false))] .nil (by kernel_rfl) (by kernel_rfl) ?_
    refine tr_ret (q_r (rg_r ?_))
    obtain rfl := Option.some.inj hM
    exact retg (names := []) .nil (by kernel_rfl)
  · have hM := ite_false' hM h3
    obtain ⟨y4, hy4, hM⟩ := bind_some' hM
    have hy4' := idx_some hy4
    rcases Bool.eq_false_or_eq_true (y4 != a1) with h5 | h5
    · have hM := ite_true' hM h5
      refine tr_sr hT hm [(4, .val (iv y1)), (10, .val (iv y2)), (12, .val (bv false)), (17, .val (iv y4)), (21, .val (bv true))] [2, 4, 6, 14, 88, 2007, 2015] [(2, .d (iv a1)), (4, .d (iv a2)), (6, .d (.rp 1003 0)), (14, .d (.rp 1007 0)), (88, .d (bv true)), bxB 2007 (eXMonad.b a0), bxB 2015 (eXCategory.b a0.On.Source)] (.cons hy1'.1 (.cons hy1'.2.1 (.cons (at_b0 eI_ok hy1'.2.2 (d := iv y1) (by kernel_rfl)) (.cons hy2'.1 (.cons hy2'.2.1 (.cons (at_b0 eI_ok hy2'.2.2 (d := iv y2) (by kernel_rfl)) (.cons (congrArg (fun b => bv b) h3) (.cons hy4'.1 (.cons hy4'.2.1 (.cons (at_b0 eI_ok hy4'.2.2 (d := iv y4) (by kernel_rfl)) (.cons (congrArg (fun b => bv b) h5) .nil))))))))))) (by kernel_rfl) (by kernel_rfl) ?_
      refine tr_condT (by kernel_rfl) ?_
      refine tr_sr hT hm [] [12] [(12, .d (bv false))] .nil (by kernel_rfl) (by kernel_rfl) ?_
      refine tr_ret (q_r (rg_r ?_))
      obtain rfl := Option.some.inj hM
      exact retg (names := []) .nil (by kernel_rfl)
    · have hM := ite_false' hM h5
      obtain ⟨y6, hy6, hM⟩ := bind_some' hM
      have hy6' := idx_some hy6
      obtain ⟨v7, hv7, hM⟩ := bind_some' hM
      obtain ⟨v8, hv8, hM⟩ := bind_some' hM
      refine tr_sr hT hm [(4, .val (iv y1)), (10, .val (iv y2)), (12, .val (bv false)), (17, .val (iv y4)), (21, .val (bv false)), (28, .val (iv y6)), (30, .call [] [] [.agg (eXCategory.b a0.On.Source), iv y6, iv a2] [] (iv v7)), (31, .call [] [] [.agg (eXCategory.b a0.On.Source), iv v7] [] (bv v8))] [2, 4, 6, 14, 88, 2007, 2015] [(2, .d (iv a1)), (4, .d (iv a2)), (6, .d (.rp 1003 0)), (14, .d (.rp 1007 0)), (88, .d (bv (!v8))), bxB 2007 (eXMonad.b a0), bxB 2015 (eXCategory.b a0.On.Source)] (.cons hy1'.1 (.cons hy1'.2.1 (.cons (at_b0 eI_ok hy1'.2.2 (d := iv y1) (by kernel_rfl)) (.cons hy2'.1 (.cons hy2'.2.1 (.cons (at_b0 eI_ok hy2'.2.2 (d := iv y2) (by kernel_rfl)) (.cons (congrArg (fun b => bv b) h3) (.cons hy4'.1 (.cons hy4'.2.1 (.cons (at_b0 eI_ok hy4'.2.2 (d := iv y4) (by kernel_rfl)) (.cons (congrArg (fun b => bv b) h5) (.cons hy6'.1 (.cons hy6'.2.1 (.cons (at_b0 eI_ok hy6'.2.2 (d := iv y6) (by kernel_rfl)) (cc0 ok68 (spec_l02Then_c a0.On.Source y6 a2 _ hv7) (by kernel_rfl) (cc0 ok103 (spec_l02Unit_c a0.On.Source v7 _ hv8) (by kernel_rfl) .nil)))))))))))))))) (by kernel_rfl) (by kernel_rfl) ?_
      rcases Bool.eq_false_or_eq_true v8 with h9 | h9
      · have hM := ite_true' hM h9
        refine tr_condFe (e := !v8) (congrArg not h9) (by kernel_rfl) ?_
        refine tr_skip (q_n ?_)
        obtain ⟨y10, hy10, hM⟩ := bind_some' hM
        have hy10' := idx_some hy10
        obtain ⟨v11, hv11, hM⟩ := bind_some' hM
        obtain ⟨y12, hy12, hM⟩ := bind_some' hM
        have hy12' := idx_some hy12
        obtain ⟨v13, hv13, hM⟩ := bind_some' hM
        refine tr_sr hT hm [(6, .val (iv y10)), (8, .call [] [] [.agg (eXCategory.b a0.On.Source), iv y10, iv a2] [] (iv v11)), (14, .val (iv y12)), (16, .call [] [] [.agg (eXCategory.b a0.On.Source), iv y12, iv a2] [] (iv v13))] [12] [(12, .d (bv (v11 == v13)))] (.cons hy10'.1 (.cons hy10'.2.1 (.cons (at_b0 eI_ok hy10'.2.2 (d := iv y10) (by kernel_rfl)) (cc0 ok68 (spec_l02Then_c a0.On.Source y10 a2 _ hv11) (by kernel_rfl) (.cons hy12'.1 (.cons hy12'.2.1 (.cons (at_b0 eI_ok hy12'.2.2 (d := iv y12) (by kernel_rfl)) (cc0 ok68 (spec_l02Then_c a0.On.Source y12 a2 _ hv13) (by kernel_rfl) .nil)))))))) (by kernel_rfl) (by kernel_rfl) ?_
        refine tr_ret (rg_r ?_)
        obtain rfl := Option.some.inj hM
        exact retg (names := []) .nil (by kernel_rfl)
      · have hM := ite_false' hM h9
        refine tr_condTe (e := !v8) (congrArg not h9) (by kernel_rfl) ?_
        refine tr_sr hT hm [] [12] [(12, .d (bv false))] .nil (by kernel_rfl) (by kernel_rfl) ?_
        refine tr_ret (q_r (rg_r ?_))
        obtain rfl := Option.some.inj hM
        exact retg (names := []) .nil (by kernel_rfl)

theorem ok67 : CallOk Try.prog 67 := callOk_of Try.func67 (by kernel_rfl) (by kernel_rfl)
theorem impl_Monad_isAlgebra_c (a0 : XMonad) (a1 : Int) (a2 : Int) (r : Bool) (hM : M.impl_Monad_isAlgebra a0 a1 a2 = some r) :
    FnC Try.prog 67 [] [.pt (eXMonad.b a0) 0, iv a1, iv a2] [] (bv r) := by
  refine fnc_startG (N := 60) (np := 500) hT Try.func67 rfl rfl (by kernel_rfl) ?_
  unfold M.impl_Monad_isAlgebra at hM
  refine tr_start (ks := [0, 2, 4]) (st' := [(0, .d (.pt (eXMonad.b a0) 0)), (2, .d (iv a1)), (4, .d (iv a2))]) (by kernel_rfl) ?_
  refine tr_sr hT hm [] [0, 2, 4] [(0, .d (.pt (eXMonad.b a0) 0)), (2, .d (iv a1)), (4, .d (iv a2))] .nil (by kernel_rfl) (by kernel_rfl) ?_
  refine tr_sr hT hm [] [0, 2, 4, 14] [(0, .d (.pt (eXMonad.b a0) 0)), (2, .d (iv a1)), (4, .d (iv a2)), (14, .d (.pt (eXMonad.b a0) 0))] .nil (by kernel_rfl) (by kernel_rfl) ?_
  obtain ⟨v1, hv1, hM⟩ := bind_some' hM
  obtain ⟨v2, hv2, hM⟩ := bind_some' hM
  rcases Bool.eq_false_or_eq_true (((v1.from_ == v2) && (v1.to_ == a1)) == true) with h3 | h3
  · have hM := ite_true' hM h3
    obtain ⟨y4, hy4, hM⟩ := bind_some' hM
    have hy4' := idx_some hy4
    obtain ⟨v5, hv5, hM⟩ := bind_some' hM
    obtain ⟨y6, hy6, hM⟩ := bind_some' hM
    have hy6' := idx_some hy6
    rcases Bool.eq_false_or_eq_true (v5 == y6) with h7 | h7
    · have hM := ite_true' hM h7
      obtain ⟨v8, hv8, hM⟩ := bind_some' hM
      obtain ⟨v9, hv9, hM⟩ := bind_some' hM
      obtain ⟨y10, hy10, hM⟩ := bind_some' hM
      have hy10' := idx_some hy10
      obtain ⟨v11, hv11, hM⟩ := bind_some' hM
      refine tr_sr hT hm [(2, .call [] [] [.pt (eXCategory.b a0.On.Source) 0, iv a2] [] (.agg (eXends.o v1))), (5, .call [] [] [.pt (eXMonad.b a0) 0, iv a1] [] (iv v2)), (9, .val (bv true)), (17, .val (iv y4)), (19, .call [] [] [.pt (eXCategory.b a0.On.Source) 0, iv y4, iv a2] [] (iv v5)), (26, .val (iv y6)), (29, .val (bv true)), (33, .call [] [] [.pt (eXMonad.b a0) 0, iv a2] [] (iv v8)), (35, .call [] [] [.pt (eXCategory.b a0.On.Source) 0, iv v8, iv a2] [] (iv v9)), (43, .val (iv y10)), (45, .call [] [] [.pt (eXCategory.b a0.On.Source) 0, iv y10, iv a2] [] (iv v11))] [12] [(12, .d (bv (v9 == v11)))] (cc (B := []) (ρ := []) (rB := []) ok63 (impl_Category_ends_c a0.On.Source a2 _ hv1) (.cons (.pass (.ptk (ds := eXMonad.b a0) (ds' := eXCategory.b a0.On.Source) (off := 0) (n := 5) (by kernel_rfl) (by kernel_rfl) (by kernel_rfl))) (.cons (.same rfl) .nil)) (.inl rfl) (cc0 ok62 (impl_Monad_object_c a0 a1 _ hv2) (by kernel_rfl) (.cons (by kernel_rfl : Try.prog.stoodInHeld 84 = false) (.cons (by kernel_rfl : Try.prog.eqGuardType Try.prog.depth 84 = false) (.cons (congrArg (fun b => bv b) h3) (.cons hy4'.1 (.cons hy4'.2.1 (.cons (at_b0 eI_ok hy4'.2.2 (d := iv y4) (by kernel_rfl)) (cc (B := []) (ρ := []) (rB := []) ok69 (impl_Category_then_c a0.On.Source y4 a2 _ hv5) (.cons (.pass (.ptk (ds := eXMonad.b a0) (ds' := eXCategory.b a0.On.Source) (off := 0) (n := 5) (by kernel_rfl) (by kernel_rfl) (by kernel_rfl))) (.cons (.same rfl) (.cons (.same rfl) .nil))) (.inl rfl) (.cons hy6'.1 (.cons hy6'.2.1 (.cons (at_b0 eI_ok hy6'.2.2 (d := iv y6) (by kernel_rfl)) (.cons (congrArg (fun b => bv b) h7) (cc0 ok70 (impl_Monad_arrow_c a0 a2 _ hv8) (by kernel_rfl) (cc (B := []) (ρ := []) (rB := []) ok69 (impl_Category_then_c a0.On.Source v8 a2 _ hv9) (.cons (.pass (.ptk (ds := eXMonad.b a0) (ds' := eXCategory.b a0.On.Source) (off := 0) (n := 5) (by kernel_rfl) (by kernel_rfl) (by kernel_rfl))) (.cons (.same rfl) (.cons (.same rfl) .nil))) (.inl rfl) (.cons hy10'.1 (.cons hy10'.2.1 (.cons (at_b0 eI_ok hy10'.2.2 (d := iv y10) (by kernel_rfl)) (cc (B := []) (ρ := []) (rB := []) ok69 (impl_Category_then_c a0.On.Source y10 a2 _ hv11) (.cons (.pass (.ptk (ds := eXMonad.b a0) (ds' := eXCategory.b a0.On.Source) (off := 0) (n := 5) (by kernel_rfl) (by kernel_rfl) (by kernel_rfl))) (.cons (.same rfl) (.cons (.same rfl) .nil))) (.inl rfl) .nil))))))))))))))))))) (by kernel_rfl) (by kernel_rfl) ?_
      refine tr_ret (rg_r ?_)
      obtain rfl := Option.some.inj hM
      exact retg (names := []) .nil (by kernel_rfl)
    · have hM := ite_false' hM h7
      refine tr_sr hT hm [(2, .call [] [] [.pt (eXCategory.b a0.On.Source) 0, iv a2] [] (.agg (eXends.o v1))), (5, .call [] [] [.pt (eXMonad.b a0) 0, iv a1] [] (iv v2)), (9, .val (bv true)), (17, .val (iv y4)), (19, .call [] [] [.pt (eXCategory.b a0.On.Source) 0, iv y4, iv a2] [] (iv v5)), (26, .val (iv y6)), (29, .val (bv false))] [12] [(12, .d (bv false))] (cc (B := []) (ρ := []) (rB := []) ok63 (impl_Category_ends_c a0.On.Source a2 _ hv1) (.cons (.pass (.ptk (ds := eXMonad.b a0) (ds' := eXCategory.b a0.On.Source) (off := 0) (n := 5) (by kernel_rfl) (by kernel_rfl) (by kernel_rfl))) (.cons (.same rfl) .nil)) (.inl rfl) (cc0 ok62 (impl_Monad_object_c a0 a1 _ hv2) (by kernel_rfl) (.cons (by kernel_rfl : Try.prog.stoodInHeld 84 = false) (.cons (by kernel_rfl : Try.prog.eqGuardType Try.prog.depth 84 = false) (.cons (congrArg (fun b => bv b) h3) (.cons hy4'.1 (.cons hy4'.2.1 (.cons (at_b0 eI_ok hy4'.2.2 (d := iv y4) (by kernel_rfl)) (cc (B := []) (ρ := []) (rB := []) ok69 (impl_Category_then_c a0.On.Source y4 a2 _ hv5) (.cons (.pass (.ptk (ds := eXMonad.b a0) (ds' := eXCategory.b a0.On.Source) (off := 0) (n := 5) (by kernel_rfl) (by kernel_rfl) (by kernel_rfl))) (.cons (.same rfl) (.cons (.same rfl) .nil))) (.inl rfl) (.cons hy6'.1 (.cons hy6'.2.1 (.cons (at_b0 eI_ok hy6'.2.2 (d := iv y6) (by kernel_rfl)) (.cons (congrArg (fun b => bv b) h7) .nil))))))))))))) (by kernel_rfl) (by kernel_rfl) ?_
      refine tr_ret (rg_r ?_)
      obtain rfl := Option.some.inj hM
      exact retg (names := []) .nil (by kernel_rfl)
  · have hM := ite_false' hM h3
    refine tr_sr hT hm [(2, .call [] [] [.pt (eXCategory.b a0.On.Source) 0, iv a2] [] (.agg (eXends.o v1))), (5, .call [] [] [.pt (eXMonad.b a0) 0, iv a1] [] (iv v2)), (9, .val (bv false))] [12] [(12, .d (bv false))] (cc (B := []) (ρ := []) (rB := []) ok63 (impl_Category_ends_c a0.On.Source a2 _ hv1) (.cons (.pass (.ptk (ds := eXMonad.b a0) (ds' := eXCategory.b a0.On.Source) (off := 0) (n := 5) (by kernel_rfl) (by kernel_rfl) (by kernel_rfl))) (.cons (.same rfl) .nil)) (.inl rfl) (cc0 ok62 (impl_Monad_object_c a0 a1 _ hv2) (by kernel_rfl) (.cons (by kernel_rfl : Try.prog.stoodInHeld 84 = false) (.cons (by kernel_rfl : Try.prog.eqGuardType Try.prog.depth 84 = false) (.cons (congrArg (fun b => bv b) h3) .nil))))) (by kernel_rfl) (by kernel_rfl) ?_
    refine tr_ret (rg_r ?_)
    obtain rfl := Option.some.inj hM
    exact retg (names := []) .nil (by kernel_rfl)

end Go.Proofs.Ytpfdieaiogfihaa.WwQ
