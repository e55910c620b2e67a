/- Walks. Printed by wip/gen. -/
import Derived.Test.YtpfdieaiogfihaaGxw33M
import Derived.Test.YtpfdieaiogfihaaGxwPW
import Derived.KernelRfl
namespace Go.Proofs.Ytpfdieaiogfihaa.Ww33
open Go.Gx Go.Proofs.Ytpfdieaiogfihaa.WvB Go.Proofs.Ytpfdieaiogfihaa.WwN Go.Proofs.Ytpfdieaiogfihaa.WvS Go.Proofs.Ytpfdieaiogfihaa.WvF Go.Proofs.Ytpfdieaiogfihaa.WwT Go.Proofs.Ytpfdieaiogfihaa.WwU Go.Proofs.Ytpfdieaiogfihaa.WvH Go.Proofs.Ytpfdieaiogfihaa.WvI Go.Proofs.Ytpfdieaiogfihaa.WwM Go.Proofs.Ytpfdieaiogfihaa.WwO Go.Proofs.Ytpfdieaiogfihaa.WwP

theorem eXCategory_r : EncR eXCategory := (eA_r (eC_r eI_r _) (eA_r (eC_r (eS_r eI_ok) _) (eA_r (eC_r (eS_r eI_ok) _) (eA_r (eC_r (eS_r eI_ok) _) (eC_r (eS_r (eS_ok eI_ok)) _)))))
theorem eXFunctor_r : EncR eXFunctor := (eA_r (eC_r eXCategory_r _) (eA_r (eC_r eXCategory_r _) (eA_r (eC_r (eS_r eI_ok) _) (eC_r (eS_r eI_ok) _))))
theorem eXends_r : EncR eXends := (eA_r (eC_r eI_r _) (eC_r eI_r _))
theorem eXTransformation_r : EncR eXTransformation := (eA_r (eC_r eXFunctor_r _) (eA_r (eC_r eXFunctor_r _) (eC_r (eS_r eI_ok) _)))
theorem eXMonad_r : EncR eXMonad := (eA_r (eC_r eXFunctor_r _) (eA_r (eC_r (eS_r eI_ok) _) (eC_r (eS_r eI_ok) _)))
theorem eXalgebra_r : EncR eXalgebra := (eA_r (eC_r eI_r _) (eC_r eI_r _))
def T : Tab := [(2, ⟨.int .i64, 1, 8, [.int .i64 0]⟩),
  (3, ⟨.int .i64, 1, 8, [.int .i64 0]⟩),
  (22, ⟨.slice 2, 1, 24, [.slice .none 0 0]⟩),
  (23, ⟨.slice 22, 1, 24, [.slice .none 0 0]⟩),
  (25, ⟨.struct #[⟨"Objects", 2, 0, false, "", "", 0⟩, ⟨"From", 22, 1, false, "", "", 8⟩, ⟨"To", 22, 2, false, "", "", 32⟩, ⟨"Identity", 22, 3, false, "", "", 56⟩, ⟨"Composites", 23, 4, false, "", "", 80⟩], 5, 104, [.int .i64 0, .slice .none 0 0, .slice .none 0 0, .slice .none 0 0, .slice .none 0 0]⟩),
  (27, ⟨.struct #[⟨"Source", 25, 0, false, "", "", 0⟩, ⟨"Target", 25, 5, false, "", "", 104⟩, ⟨"Objects", 22, 10, false, "", "", 208⟩, ⟨"Arrows", 22, 11, false, "", "", 232⟩], 12, 256, [.int .i64 0, .slice .none 0 0, .slice .none 0 0, .slice .none 0 0, .slice .none 0 0, .int .i64 0, .slice .none 0 0, .slice .none 0 0, .slice .none 0 0, .slice .none 0 0, .slice .none 0 0, .slice .none 0 0]⟩),
  (29, ⟨.struct #[⟨"On", 27, 0, false, "", "", 0⟩, ⟨"Unit", 22, 12, false, "", "", 256⟩, ⟨"Join", 22, 13, false, "", "", 280⟩], 14, 304, [.int .i64 0, .slice .none 0 0, .slice .none 0 0, .slice .none 0 0, .slice .none 0 0, .int .i64 0, .slice .none 0 0, .slice .none 0 0, .slice .none 0 0, .slice .none 0 0, .slice .none 0 0, .slice .none 0 0, .slice .none 0 0, .slice .none 0 0]⟩),
  (32, ⟨.struct #[⟨"Objects", 2, 0, false, "", "", 0⟩, ⟨"From", 22, 1, false, "", "", 8⟩, ⟨"To", 22, 2, false, "", "", 32⟩, ⟨"Identity", 22, 3, false, "", "", 56⟩, ⟨"Composites", 23, 4, false, "", "", 80⟩], 5, 104, [.int .i64 0, .slice .none 0 0, .slice .none 0 0, .slice .none 0 0, .slice .none 0 0]⟩),
  (34, ⟨.struct #[⟨"Source", 32, 0, false, "", "", 0⟩, ⟨"Target", 32, 5, false, "", "", 104⟩, ⟨"Objects", 22, 10, false, "", "", 208⟩, ⟨"Arrows", 22, 11, false, "", "", 232⟩], 12, 256, [.int .i64 0, .slice .none 0 0, .slice .none 0 0, .slice .none 0 0, .slice .none 0 0, .int .i64 0, .slice .none 0 0, .slice .none 0 0, .slice .none 0 0, .slice .none 0 0, .slice .none 0 0, .slice .none 0 0]⟩),
  (36, ⟨.struct #[⟨"On", 34, 0, false, "", "", 0⟩, ⟨"Unit", 22, 12, false, "", "", 256⟩, ⟨"Join", 22, 13, false, "", "", 280⟩], 14, 304, [.int .i64 0, .slice .none 0 0, .slice .none 0 0, .slice .none 0 0, .slice .none 0 0, .int .i64 0, .slice .none 0 0, .slice .none 0 0, .slice .none 0 0, .slice .none 0 0, .slice .none 0 0, .slice .none 0 0, .slice .none 0 0, .slice .none 0 0]⟩),
  (77, ⟨.struct #[⟨"x", 2, 0, false, "", "loop.example/g01083/impl", 0⟩, ⟨"h", 2, 1, false, "", "loop.example/g01083/impl", 8⟩], 2, 16, [.int .i64 0, .int .i64 0]⟩)]
theorem hT : TabOk Try.prog T := ⟨tiok (by kernel_rfl) (by kernel_rfl), tiok (by kernel_rfl) (by kernel_rfl), tiok (by kernel_rfl) (by kernel_rfl), tiok (by kernel_rfl) (by kernel_rfl), tiok (by kernel_rfl) (by kernel_rfl), tiok (by kernel_rfl) (by kernel_rfl), tiok (by kernel_rfl) (by kernel_rfl), tiok (by kernel_rfl) (by kernel_rfl), tiok (by kernel_rfl) (by kernel_rfl), tiok (by kernel_rfl) (by kernel_rfl), tiok (by kernel_rfl) (by kernel_rfl), trivial⟩
theorem hm : Try.prog.follows .mixedOrders = true := by kernel_rfl

theorem ok25 : CallOk Try.prog 25 := callOk_of Try.func25 (by kernel_rfl) (by kernel_rfl)
theorem spec_FreeAlgebra_c (a0 : XMonad) (a1 : Int) (r : Int × Int × Int) (hM : M.spec_FreeAlgebra a0 a1 = some r) :
    FnC Try.prog 25 [] [.agg (eXMonad.b a0), iv a1] [] (.tup [iv r.1, iv r.2.1, iv r.2.2]) := by
  refine fnc_startG (N := 27) (np := 500) hT Try.func25 rfl rfl (by kernel_rfl) ?_
  unfold M.spec_FreeAlgebra at hM
  refine tr_start (ks := [0, 2]) (st' := [(0, .d (.agg (eXMonad.b a0))), (2, .d (iv a1))]) (by kernel_rfl) ?_
  refine tr_sr hT hm [] [2, 4, 2005] [(2, .d (iv a1)), (4, .d (.rp 1002 0)), bxB 2005 (eXMonad.b a0)] .nil (by kernel_rfl) (by kernel_rfl) ?_
  refine tr_seq ?_
  obtain ⟨v1, hv1, hM⟩ := bind_some' hM
  refine tr_sr hT hm [(1, .call [] [] [.agg (eXMonad.b a0)] [] (bv v1))] [2, 4, 18, 2005] [(2, .d (iv a1)), (4, .d (.rp 1002 0)), (18, .d (bv (!v1))), bxB 2005 (eXMonad.b a0)] (cc0 ok49 (spec_l16Is_c a0 _ hv1) (by kernel_rfl) .nil) (by kernel_rfl) (by kernel_rfl) ?_
  rcases Bool.eq_false_or_eq_true v1 with h2 | h2
  · have hM := ite_true' hM h2
    refine tr_condFe (e := !v1) (congrArg not h2) (by kernel_rfl) ?_
    refine tr_skip (q_n ?_)
    refine tr_seq ?_
    obtain ⟨v3, hv3, hM⟩ := bind_some' hM
    refine tr_sr hT hm [(4, .call [] [] [.agg (eXCategory.b a0.On.Source), iv a1] [] (bv v3))] [2, 4, 30, 2005] [(2, .d (iv a1)), (4, .d (.rp 1002 0)), (30, .d (bv (!v3))), bxB 2005 (eXMonad.b a0)] (cc0 ok55 (spec_l02Object_c a0.On.Source a1 _ hv3) (by kernel_rfl) .nil) (by kernel_rfl) (by kernel_rfl) ?_
    rcases Bool.eq_false_or_eq_true v3 with h4 | h4
    · have hM := ite_true' hM h4
      refine tr_condFe (e := !v3) (congrArg not h4) (by kernel_rfl) ?_
      refine tr_skip (q_n ?_)
      obtain ⟨y5, hy5, hM⟩ := bind_some' hM
      have hy5' := idx_some hy5
      obtain ⟨y6, hy6, hM⟩ := bind_some' hM
      have hy6' := idx_some hy6
      refine tr_sr hT hm [(5, .val (iv y5)), (10, .val (iv y6))] [8, 10, 12] [(8, .d (iv y5)), (10, .d (iv y6)), (12, .d (iv 0))] (.cons hy5'.1 (.cons hy5'.2.1 (.cons (at_b0 eI_ok hy5'.2.2 (d := iv y5) (by kernel_rfl)) (.cons hy6'.1 (.cons hy6'.2.1 (.cons (at_b0 eI_ok hy6'.2.2 (d := iv y6) (by kernel_rfl)) .nil)))))) (by kernel_rfl) (by kernel_rfl) ?_
      refine tr_ret (rg_r ?_)
      obtain rfl := Option.some.inj hM
      exact retg (names := []) .nil (by kernel_rfl)
    · have hM := ite_false' hM h4
      refine tr_condTe (e := !v3) (congrArg not h4) (by kernel_rfl) ?_
      refine tr_sr hT hm [] [8, 10, 12] [(8, .d (iv 0)), (10, .d (iv 0)), (12, .d (iv 2))] .nil (by kernel_rfl) (by kernel_rfl) ?_
      refine tr_ret (q_r (rg_r ?_))
      obtain rfl := Option.some.inj hM
      exact retg (names := []) .nil (by kernel_rfl)
  · have hM := ite_false' hM h2
    refine tr_condTe (e := !v1) (congrArg not h2) (by kernel_rfl) ?_
    refine tr_sr hT hm [] [8, 10, 12] [(8, .d (iv 0)), (10, .d (iv 0)), (12, .d (iv 1))] .nil (by kernel_rfl) (by kernel_rfl) ?_
    refine tr_ret (q_r (rg_r ?_))
    obtain rfl := Option.some.inj hM
    exact retg (names := []) .nil (by kernel_rfl)

theorem ok57 : CallOk Try.prog 57 := callOk_of Try.func57 (by kernel_rfl) (by kernel_rfl)
theorem impl_Monad_free_c (a0 : XMonad) (a1 : Int) (r : Xalgebra) (hM : M.impl_Monad_free a0 a1 = some r) :
    FnC Try.prog 57 [] [.pt (eXMonad.b a0) 0, iv a1] [] (.pt (eXalgebra.b r) 0) := by
  refine fnc_startG (N := 17) (np := 500) hT Try.func57 rfl rfl (by kernel_rfl) ?_
  unfold M.impl_Monad_free at hM
  refine tr_start (ks := [0, 2]) (st' := [(0, .d (.pt (eXMonad.b a0) 0)), (2, .d (iv a1))]) (by kernel_rfl) ?_
  refine tr_sr hT hm [] [0, 2] [(0, .d (.pt (eXMonad.b a0) 0)), (2, .d (iv a1))] .nil (by kernel_rfl) (by kernel_rfl) ?_
  obtain ⟨v1, hv1, hM⟩ := bind_some' hM
  obtain ⟨y2, hy2, hM⟩ := bind_some' hM
  have hy2' := idx_some hy2
  refine tr_sr hT hm [(2, .call [] [] [.pt (eXMonad.b a0) 0, iv a1] [] (iv v1)), (9, .val (iv y2))] [8, 2033] [(8, .d (.rp 1016 0)), (2033, .r (.arr 1 [iv v1, iv y2] []))] (cc0 ok62 (impl_Monad_object_c a0 a1 _ hv1) (by kernel_rfl) (.cons hy2'.1 (.cons hy2'.2.1 (.cons (at_b0 eI_ok hy2'.2.2 (d := iv y2) (by kernel_rfl)) .nil)))) (by kernel_rfl) (by kernel_rfl) ?_
  refine tr_ret (rg_r ?_)
  refine RetG.by (imp_freeze (B := [1016]) (cv := [(4, .pt (eXalgebra.b (⟨v1, y2⟩ : Xalgebra)) 0)]) (.cons (by kernel_rfl) (.of1 (.rp (r := 1016) (sz := 1) (cells := [iv v1, iv y2]) (refs := []) (memB (by kernel_rfl)) (by kernel_rfl) (.cons .v (.cons .v .nil)))) .nil)) ?_
  obtain rfl := Option.some.inj hM
  exact retg (names := []) .nil (by kernel_rfl)

theorem ok26 : CallOk Try.prog 26 := callOk_of Try.func26 (by kernel_rfl) (by kernel_rfl)
theorem impl_FreeAlgebra_c (a0 : XMonad) (a1 : Int) (r : Int × Int × Int) (hM : M.impl_FreeAlgebra a0 a1 = some r) :
    FnC Try.prog 26 [] [.agg (eXMonad.b a0), iv a1] [] (.tup [iv r.1, iv r.2.1, iv r.2.2]) := by
  refine fnc_startG (N := 25) (np := 500) hT Try.func26 rfl rfl (by kernel_rfl) ?_
  unfold M.impl_FreeAlgebra at hM
  refine tr_start (ks := [0, 2]) (st' := [(0, .d (.agg (eXMonad.b a0))), (2, .d (iv a1))]) (by kernel_rfl) ?_
  refine tr_sr hT hm [] [2, 4, 2005] [(2, .d (iv a1)), (4, .d (.rp 1002 0)), bxB 2005 (eXMonad.b a0)] .nil (by kernel_rfl) (by kernel_rfl) ?_
  refine tr_seq ?_
  obtain ⟨v1, hv1, hM⟩ := bind_some' hM
  refine tr_sr hT hm [(2, .call [1002, 1010] [] [.pt (eXMonad.b a0) 0, .sl ([a1] : List Int).length 0 (([a1] : List Int).flatMap eI.b), .sl ([] : List Int).length 0 (([] : List Int).flatMap eI.b)] [] (iv v1))] [2, 4, 14, 2005] [(2, .d (iv a1)), (4, .d (.rp 1002 0)), (14, .d (iv v1)), bxB 2005 (eXMonad.b a0)] (cc (B := [1002, 1010]) (ρ := []) (rB := [(1002, .arr 1 [iv a0.On.Source.Objects, .sl a0.On.Source.From.length 0 (a0.On.Source.From.flatMap eI.b), .sl a0.On.Source.To.length 0 (a0.On.Source.To.flatMap eI.b), .sl a0.On.Source.Identity.length 0 (a0.On.Source.Identity.flatMap eI.b), .sl a0.On.Source.Composites.length 0 (a0.On.Source.Composites.flatMap (eS eI).b), iv a0.On.Target.Objects, .sl a0.On.Target.From.length 0 (a0.On.Target.From.flatMap eI.b), .sl a0.On.Target.To.length 0 (a0.On.Target.To.flatMap eI.b), .sl a0.On.Target.Identity.length 0 (a0.On.Target.Identity.flatMap eI.b), .sl a0.On.Target.Composites.length 0 (a0.On.Target.Composites.flatMap (eS eI).b), .sl a0.On.Objects.length 0 (a0.On.Objects.flatMap eI.b), .sl a0.On.Arrows.length 0 (a0.On.Arrows.flatMap eI.b), .sl a0.Unit.length 0 (a0.Unit.flatMap eI.b), .sl a0.Join.length 0 (a0.Join.flatMap eI.b)] []), (1010, .arr 1 (([a1] : List Int).flatMap eI.o) [])]) ok56 (impl_pairCode_c a0 ([a1] : List Int) ([] : List Int) _ hv1) (.cons (.of1 (.rp (r := 1002) (sz := 1) (cells := [iv a0.On.Source.Objects, .sl a0.On.Source.From.length 0 (a0.On.Source.From.flatMap eI.b), .sl a0.On.Source.To.length 0 (a0.On.Source.To.flatMap eI.b), .sl a0.On.Source.Identity.length 0 (a0.On.Source.Identity.flatMap eI.b), .sl a0.On.Source.Composites.length 0 (a0.On.Source.Composites.flatMap (eS eI).b), iv a0.On.Target.Objects, .sl a0.On.Target.From.length 0 (a0.On.Target.From.flatMap eI.b), .sl a0.On.Target.To.length 0 (a0.On.Target.To.flatMap eI.b), .sl a0.On.Target.Identity.length 0 (a0.On.Target.Identity.flatMap eI.b), .sl a0.On.Target.Composites.length 0 (a0.On.Target.Composites.flatMap (eS eI).b), .sl a0.On.Objects.length 0 (a0.On.Objects.flatMap eI.b), .sl a0.On.Arrows.length 0 (a0.On.Arrows.flatMap eI.b), .sl a0.Unit.length 0 (a0.Unit.flatMap eI.b), .sl a0.Join.length 0 (a0.Join.flatMap eI.b)]) (refs := []) (memB (by kernel_rfl)) (by kernel_rfl) (.cons .v (.cons (.same rfl rfl) (.cons (.same rfl rfl) (.cons (.same rfl rfl) (.cons (.same rfl rfl) (.cons .v (.cons (.same rfl rfl) (.cons (.same rfl rfl) (.cons (.same rfl rfl) (.cons (.same rfl rfl) (.cons (.same rfl rfl) (.cons (.same rfl rfl) (.cons (.same rfl rfl) (.cons (.same rfl rfl) .nil)))))))))))))))) (.cons (.of1 (.rs (r := 1010) (sz := 1) (refs := []) (memB (by kernel_rfl)) (by kernel_rfl) (bor_flat eI_ok _ _ _))) (.cons (.pass (pass_sub rfl Sub.nil_sl)) .nil))) (.inr ⟨.v, trivial⟩) .nil) (by kernel_rfl) (by kernel_rfl) ?_
  refine tr_sr hT hm [] [2, 4, 14, 26, 2005] [(2, .d (iv a1)), (4, .d (.rp 1002 0)), (14, .d (iv v1)), (26, .d (bv (v1 != 0))), bxB 2005 (eXMonad.b a0)] .nil (by kernel_rfl) (by kernel_rfl) ?_
  rcases Bool.eq_false_or_eq_true (v1 != 0) with h2 | h2
  · have hM := ite_true' hM h2
    refine tr_condTe (e := v1 != 0) h2 (by kernel_rfl) ?_
    refine tr_sr hT hm [] [8, 10, 12] [(8, .d (iv 0)), (10, .d (iv 0)), (12, .d (iv v1))] .nil (by kernel_rfl) (by kernel_rfl) ?_
    refine tr_ret (q_r (rg_r ?_))
    obtain rfl := Option.some.inj hM
    exact retg (names := []) .nil (by kernel_rfl)
  · have hM := ite_false' hM h2
    refine tr_condFe (e := v1 != 0) h2 (by kernel_rfl) ?_
    refine tr_skip (q_n ?_)
    refine Tr.by (imp_freeze (B := [1002]) (cv := [(2, .pt (eXMonad.b a0) 0)]) (.cons (by kernel_rfl) (.of1 (.rp (r := 1002) (sz := 1) (cells := [iv a0.On.Source.Objects, .sl a0.On.Source.From.length 0 (a0.On.Source.From.flatMap eI.b), .sl a0.On.Source.To.length 0 (a0.On.Source.To.flatMap eI.b), .sl a0.On.Source.Identity.length 0 (a0.On.Source.Identity.flatMap eI.b), .sl a0.On.Source.Composites.length 0 (a0.On.Source.Composites.flatMap (eS eI).b), iv a0.On.Target.Objects, .sl a0.On.Target.From.length 0 (a0.On.Target.From.flatMap eI.b), .sl a0.On.Target.To.length 0 (a0.On.Target.To.flatMap eI.b), .sl a0.On.Target.Identity.length 0 (a0.On.Target.Identity.flatMap eI.b), .sl a0.On.Target.Composites.length 0 (a0.On.Target.Composites.flatMap (eS eI).b), .sl a0.On.Objects.length 0 (a0.On.Objects.flatMap eI.b), .sl a0.On.Arrows.length 0 (a0.On.Arrows.flatMap eI.b), .sl a0.Unit.length 0 (a0.Unit.flatMap eI.b), .sl a0.Join.length 0 (a0.Join.flatMap eI.b)]) (refs := []) (memB (by kernel_rfl)) (by kernel_rfl) (.cons .v (.cons (.same rfl rfl) (.cons (.same rfl rfl) (.cons (.same rfl rfl) (.cons (.same rfl rfl) (.cons .v (.cons (.same rfl rfl) (.cons (.same rfl rfl) (.cons (.same rfl rfl) (.cons (.same rfl rfl) (.cons (.same rfl rfl) (.cons (.same rfl rfl) (.cons (.same rfl rfl) (.cons (.same rfl rfl) .nil)))))))))))))))) .nil)) ?_
    obtain ⟨v3, hv3, hM⟩ := bind_some' hM
    refine tr_sr hT hm [(1, .call [] [] [.pt (eXMonad.b a0) 0, iv a1] [] (.pt (eXalgebra.b v3) 0))] [16] [(16, .d (.pt (eXalgebra.b v3) 0))] (cc0 ok57 (impl_Monad_free_c a0 a1 _ hv3) (by kernel_rfl) .nil) (by kernel_rfl) (by kernel_rfl) ?_
    refine tr_sr hT hm [] [8, 10, 12] [(8, .d (iv v3.x_)), (10, .d (iv v3.h_)), (12, .d (iv 0))] .nil (by kernel_rfl) (by kernel_rfl) ?_
    refine tr_ret (rg_r ?_)
    obtain rfl := Option.some.inj hM
    exact retg (names := []) .nil (by kernel_rfl)

theorem ok5 : CallOk Try.prog 5 := callOk_of Try.func5 (by kernel_rfl) (by kernel_rfl)
theorem laws_FnExactFreeAlgebra_c (a0 : XMonad) (a1 : Int) (r : Bool) (hM : M.laws_FnExactFreeAlgebra a0 a1 = some r) :
    FnC Try.prog 5 [] [.agg (eXMonad.b a0), iv a1] [] (bv r) := by
  refine fnc_startG (N := 53) (np := 500) hT Try.func5 rfl rfl (by kernel_rfl) ?_
  unfold M.laws_FnExactFreeAlgebra at hM
  refine tr_start (ks := [0, 2]) (st' := [(0, .d (.agg (eXMonad.b a0))), (2, .d (iv a1))]) (by kernel_rfl) ?_
  refine tr_sr hT hm [] [2, 4, 2005] [(2, .d (iv a1)), (4, .d (.rp 1002 0)), bxB 2005 (eXMonad.b a0)] .nil (by kernel_rfl) (by kernel_rfl) ?_
  refine tr_sr hT hm [] [2, 4, 10, 2005] [(2, .d (iv a1)), (4, .d (.rp 1002 0)), (10, .d (iv 1048576)), bxB 2005 (eXMonad.b a0)] .nil (by kernel_rfl) (by kernel_rfl) ?_
  obtain ⟨v1, hv1, hM⟩ := bind_some' hM
  refine tr_sr hT hm [(2, .call [] [] [.agg (eXMonad.b a0), iv 1048576] [] (iv v1))] [2, 4, 10, 2005] [(2, .d (iv a1)), (4, .d (.rp 1002 0)), (10, .d (iv v1)), bxB 2005 (eXMonad.b a0)] (cc0 ok15 (laws_szMonad_c a0 1048576 _ hv1) (by kernel_rfl) .nil) (by kernel_rfl) (by kernel_rfl) ?_
  refine tr_seq ?_
  refine tr_sr hT hm [] [2, 4, 34, 2005] [(2, .d (iv a1)), (4, .d (.rp 1002 0)), (34, .d (bv (decide (v1 < 0)))), bxB 2005 (eXMonad.b a0)] .nil (by kernel_rfl) (by kernel_rfl) ?_
  rcases Bool.eq_false_or_eq_true (decide (v1 < 0)) with h2 | h2
  · have hM := ite_true' hM h2
    refine tr_condTe (e := decide (v1 < 0)) h2 (by kernel_rfl) ?_
    refine tr_sr hT hm [] [8] [(8, .d (bv true))] .nil (by kernel_rfl) (by kernel_rfl) ?_
    refine tr_ret (q_r (rg_r ?_))
    obtain rfl := Option.some.inj hM
    exact retg (names := []) .nil (by kernel_rfl)
  · have hM := ite_false' hM h2
    refine tr_condFe (e := decide (v1 < 0)) h2 (by kernel_rfl) ?_
    refine tr_skip (q_n ?_)
    obtain ⟨v3, hv3, hM⟩ := bind_some' hM
    obtain ⟨v4, hv4, hM⟩ := bind_some' hM
    refine tr_sr hT hm [(1, .call [] [] [.agg (eXMonad.b a0)] [] (.agg (eXMonad.o v3))), (3, .call (rsR 22000 (eXMonad.o v3)) [] [.agg (eXMonad.b v3), iv a1] [] (.tup [iv v4.1, iv v4.2.1, iv v4.2.2]))] [2, 4, 12, 14, 16, 2005] [(2, .d (iv a1)), (4, .d (.rp 1002 0)), (12, .d (iv v4.1)), (14, .d (iv v4.2.1)), (16, .d (iv v4.2.2)), bxB 2005 (eXMonad.b a0)] (cc0 ok17 (laws_toMonad_c a0 _ hv3) (by kernel_rfl) (cc (B := (rsR 22000 (eXMonad.o v3))) (ρ := []) (rB := (rsP 22000 (eXMonad.o v3))) ok25 (spec_FreeAlgebra_c v3 a1 _ hv4) (.cons (bor_rs eXMonad_r (q := 22000) (x := v3) (by kernel_rfl) (by kernel_rfl)) (.cons (.same rfl) .nil)) (.inr ⟨(nobor_tup (.cons .v (.cons .v (.cons .v .nil)))), trivial⟩) .nil)) (by kernel_rfl) (by kernel_rfl) ?_
    refine tr_sr hT hm [(1, .call [] [] [.agg (eXMonad.b a0)] [] (.agg (eXMonad.o v3)))] [2, 4, 12, 14, 16, 18, 2005, 2019, 58003, 58005, 58007, 58009, 58013, 58015, 58017, 58019, 58021, 58023, 58025, 58027] ([(2, .d (iv a1)), (4, .d (.rp 1002 0)), (12, .d (iv v4.1)), (14, .d (iv v4.2.1)), (16, .d (iv v4.2.2)), (18, .d (.rp 1009 0)), bxB 2005 (eXMonad.b a0), bxO 2019 29000 (eXMonad.o v3)] ++ rsS 29000 (eXMonad.o v3)) (cc0 ok17 (laws_toMonad_c a0 _ hv3) (by kernel_rfl) (.cons (Nat.le_of_ble_eq_true (n := 14) (m := 14) rfl) .nil)) (by kernel_rfl) (by kernel_rfl) ?_
    obtain ⟨v5, hv5, hM⟩ := bind_some' hM
    refine tr_sr hT hm [(2, .call (rsR 29000 (eXMonad.o v3)) [] [.agg (eXMonad.b v3), iv a1] [] (.tup [iv v5.1, iv v5.2.1, iv v5.2.2]))] [4, 12, 14, 16, 18, 20, 22, 24, 2005, 2019, 58003, 58005, 58007, 58009, 58013, 58015, 58017, 58019, 58021, 58023, 58025, 58027] ([(4, .d (.rp 1002 0)), (12, .d (iv v4.1)), (14, .d (iv v4.2.1)), (16, .d (iv v4.2.2)), (18, .d (.rp 1009 0)), (20, .d (iv v5.1)), (22, .d (iv v5.2.1)), (24, .d (iv v5.2.2)), bxB 2005 (eXMonad.b a0), bxO 2019 29000 (eXMonad.o v3)] ++ rsS 29000 (eXMonad.o v3)) (cc (B := (rsR 29000 (eXMonad.o v3))) (ρ := []) (rB := (rsP 29000 (eXMonad.o v3))) ok26 (impl_FreeAlgebra_c v3 a1 _ hv5) (.cons (bor_rs eXMonad_r (q := 29000) (x := v3) (by kernel_rfl) (by kernel_rfl)) (.cons (.same rfl) .nil)) (.inr ⟨(nobor_tup (.cons .v (.cons .v (.cons .v .nil)))), trivial⟩) .nil) (by kernel_rfl) (by kernel_rfl) ?_
    refine tr_seq ?_
    rcases Bool.eq_false_or_eq_true (v5.1 != v4.1) with h6 | h6
    · have hM := ite_true' hM h6
      refine tr_sr hT hm [(3, .val (bv true))] [4, 18, 94, 2005, 2019, 58003, 58005, 58007, 58009, 58013, 58015, 58017, 58019, 58021, 58023, 58025, 58027] ([(4, .d (.rp 1002 0)), (18, .d (.rp 1009 0)), (94, .d (bv true)), bxB 2005 (eXMonad.b a0), bxO 2019 29000 (eXMonad.o v3)] ++ rsS 29000 (eXMonad.o v3)) (.cons (congrArg (fun b => bv b) h6) .nil) (by kernel_rfl) (by kernel_rfl) ?_
      refine tr_condT (by kernel_rfl) ?_
      refine tr_sr hT hm [] [8] [(8, .d (bv false))] .nil (by kernel_rfl) (by kernel_rfl) ?_
      refine tr_ret (q_r (rg_r ?_))
      obtain rfl := Option.some.inj hM
      exact retg (names := []) .nil (by kernel_rfl)
    · have hM := ite_false' hM h6
      rcases Bool.eq_false_or_eq_true (v5.2.1 != v4.2.1) with h7 | h7
      · have hM := ite_true' hM h7
        refine tr_sr hT hm [(3, .val (bv false)), (8, .val (bv true))] [4, 18, 94, 2005, 2019, 58003, 58005, 58007, 58009, 58013, 58015, 58017, 58019, 58021, 58023, 58025, 58027] ([(4, .d (.rp 1002 0)), (18, .d (.rp 1009 0)), (94, .d (bv true)), bxB 2005 (eXMonad.b a0), bxO 2019 29000 (eXMonad.o v3)] ++ rsS 29000 (eXMonad.o v3)) (.cons (congrArg (fun b => bv b) h6) (.cons (congrArg (fun b => bv b) h7) .nil)) (by kernel_rfl) (by kernel_rfl) ?_
        refine tr_condT (by kernel_rfl) ?_
        refine tr_sr hT hm [] [8] [(8, .d (bv false))] .nil (by kernel_rfl) (by kernel_rfl) ?_
        refine tr_ret (q_r (rg_r ?_))
        obtain rfl := Option.some.inj hM
        exact retg (names := []) .nil (by kernel_rfl)
      · have hM := ite_false' hM h7
        refine tr_sr hT hm [(3, .val (bv false)), (8, .val (bv false))] [4, 18, 94, 2005, 2019, 58003, 58005, 58007, 58009, 58013, 58015, 58017, 58019, 58021, 58023, 58025, 58027] ([(4, .d (.rp 1002 0)), (18, .d (.rp 1009 0)), (94, .d (bv (v5.2.2 != v4.2.2))), bxB 2005 (eXMonad.b a0), bxO 2019 29000 (eXMonad.o v3)] ++ rsS 29000 (eXMonad.o v3)) (.cons (congrArg (fun b => bv b) h6) (.cons (congrArg (fun b => bv b) h7) .nil)) (by kernel_rfl) (by kernel_rfl) ?_
        rcases Bool.eq_false_or_eq_true (v5.2.2 != v4.2.2) with h8 | h8
        · have hM := ite_true' hM h8
          refine tr_condTe (e := v5.2.2 != v4.2.2) h8 (by kernel_rfl) ?_
          refine tr_sr hT hm [] [8] [(8, .d (bv false))] .nil (by kernel_rfl) (by kernel_rfl) ?_
          refine tr_ret (q_r (rg_r ?_))
          obtain rfl := Option.some.inj hM
          exact retg (names := []) .nil (by kernel_rfl)
        · have hM := ite_false' hM h8
          refine tr_condFe (e := v5.2.2 != v4.2.2) h8 (by kernel_rfl) ?_
          refine tr_skip (q_n ?_)
          refine tr_seq ?_
          obtain ⟨v9, hv9, hM⟩ := bind_some' hM
          refine tr_sr hT hm [(2, .call [] [] [.agg (eXMonad.b a0)] [] (.agg (eXMonad.o v3))), (3, .call (rsR 29000 (eXMonad.o v3) ++ rsR 52000 (eXMonad.o v3)) [] [.agg (eXMonad.b v3), .agg (eXMonad.b v3)] [] (bv v9))] [104] [(104, .d (bv (!v9)))] (cc0 ok17 (laws_toMonad_c a0 _ hv3) (by kernel_rfl) (cc (B := (rsR 29000 (eXMonad.o v3) ++ rsR 52000 (eXMonad.o v3))) (ρ := []) (rB := (rsP 29000 (eXMonad.o v3) ++ rsP 52000 (eXMonad.o v3))) ok19 (laws_eqMonad_c v3 v3 _ hv9) (.cons (bor_rs eXMonad_r (q := 29000) (x := v3) (by kernel_rfl) (by kernel_rfl)) (.cons (bor_rs eXMonad_r (q := 52000) (x := v3) (by kernel_rfl) (by kernel_rfl)) .nil)) (.inr ⟨.v, trivial⟩) .nil)) (by kernel_rfl) (by kernel_rfl) ?_
          rcases Bool.eq_false_or_eq_true v9 with h10 | h10
          · have hM := ite_true' hM h10
            refine tr_condFe (e := !v9) (congrArg not h10) (by kernel_rfl) ?_
            refine tr_skip (q_n ?_)
            refine tr_sr hT hm [] [8] [(8, .d (bv true))] .nil (by kernel_rfl) (by kernel_rfl) ?_
            refine tr_ret (rg_r ?_)
            obtain rfl := Option.some.inj hM
            exact retg (names := []) .nil (by kernel_rfl)
          · have hM := ite_false' hM h10
            refine tr_condTe (e := !v9) (congrArg not h10) (by kernel_rfl) ?_
            refine tr_sr hT hm [] [8] [(8, .d (bv false))] .nil (by kernel_rfl) (by kernel_rfl) ?_
            refine tr_ret (q_r (rg_r ?_))
            obtain rfl := Option.some.inj hM
            exact retg (names := []) .nil (by kernel_rfl)

end Go.Proofs.Ytpfdieaiogfihaa.Ww33
