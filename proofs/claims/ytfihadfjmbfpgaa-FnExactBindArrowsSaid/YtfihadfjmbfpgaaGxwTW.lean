/- Walks. Printed by wip/gen. -/
import Derived.Test.YtfihadfjmbfpgaaGxEM0
import Derived.Test.YtfihadfjmbfpgaaGxEO0
import Derived.Test.YtfihadfjmbfpgaaGxvSW
import Derived.Test.YtfihadfjmbfpgaaGxvFW
import Derived.KernelRfl
namespace Go.Proofs.Ytfihadfjmbfpgaa.WwT
open Go.Gx Go.Proofs.Ytfihadfjmbfpgaa.WvB Go.Proofs.Ytfihadfjmbfpgaa.WvS Go.Proofs.Ytfihadfjmbfpgaa.WvF

theorem eXCategory_r : EncR eXCategory := (eA_r (eC_r eI_r _) (eA_r (eC_r (eS_r eI_ok) _) (eA_r (eC_r (eS_r eI_ok) _) (eA_r (eC_r (eS_r eI_ok) _) (eC_r (eS_r (eS_ok eI_ok)) _)))))
theorem eXFunctor_r : EncR eXFunctor := (eA_r (eC_r eXCategory_r _) (eA_r (eC_r eXCategory_r _) (eA_r (eC_r (eS_r eI_ok) _) (eC_r (eS_r eI_ok) _))))
def T : Tab := [(2, ⟨.int .i64, 1, 8, [.int .i64 0]⟩),
  (3, ⟨.int .i64, 1, 8, [.int .i64 0]⟩),
  (22, ⟨.slice 2, 1, 24, [.slice .none 0 0]⟩),
  (23, ⟨.slice 22, 1, 24, [.slice .none 0 0]⟩),
  (33, ⟨.struct #[⟨"Objects", 2, 0, false, "", "", 0⟩, ⟨"From", 22, 1, false, "", "", 8⟩, ⟨"To", 22, 2, false, "", "", 32⟩, ⟨"Identity", 22, 3, false, "", "", 56⟩, ⟨"Composites", 23, 4, false, "", "", 80⟩], 5, 104, [.int .i64 0, .slice .none 0 0, .slice .none 0 0, .slice .none 0 0, .slice .none 0 0]⟩),
  (35, ⟨.struct #[⟨"Source", 33, 0, false, "", "", 0⟩, ⟨"Target", 33, 5, false, "", "", 104⟩, ⟨"Objects", 22, 10, false, "", "", 208⟩, ⟨"Arrows", 22, 11, false, "", "", 232⟩], 12, 256, [.int .i64 0, .slice .none 0 0, .slice .none 0 0, .slice .none 0 0, .slice .none 0 0, .int .i64 0, .slice .none 0 0, .slice .none 0 0, .slice .none 0 0, .slice .none 0 0, .slice .none 0 0, .slice .none 0 0]⟩),
  (61, ⟨.struct #[⟨"from", 2, 0, false, "", "loop.example/g01083/impl", 0⟩, ⟨"to", 2, 1, false, "", "loop.example/g01083/impl", 8⟩], 2, 16, [.int .i64 0, .int .i64 0]⟩),
  (85, ⟨.pointer 35, 1, 8, [.pointer .none]⟩),
  (87, ⟨.struct #[⟨"Source", 35, 0, false, "", "", 0⟩, ⟨"Target", 35, 12, false, "", "", 256⟩, ⟨"Components", 22, 24, false, "", "", 512⟩], 25, 536, [.int .i64 0, .slice .none 0 0, .slice .none 0 0, .slice .none 0 0, .slice .none 0 0, .int .i64 0, .slice .none 0 0, .slice .none 0 0, .slice .none 0 0, .slice .none 0 0, .slice .none 0 0, .slice .none 0 0, .int .i64 0, .slice .none 0 0, .slice .none 0 0, .slice .none 0 0, .slice .none 0 0, .int .i64 0, .slice .none 0 0, .slice .none 0 0, .slice .none 0 0, .slice .none 0 0, .slice .none 0 0, .slice .none 0 0, .slice .none 0 0]⟩),
  (139, ⟨.slice 85, 1, 24, [.slice .none 0 0]⟩)]
theorem hT : TabOk Try.prog T := ⟨tiok (by kernel_rfl) (by kernel_rfl), tiok (by kernel_rfl) (by kernel_rfl), tiok (by kernel_rfl) (by kernel_rfl), tiok (by kernel_rfl) (by kernel_rfl), tiok (by kernel_rfl) (by kernel_rfl), tiok (by kernel_rfl) (by kernel_rfl), tiok (by kernel_rfl) (by kernel_rfl), tiok (by kernel_rfl) (by kernel_rfl), tiok (by kernel_rfl) (by kernel_rfl), tiok (by kernel_rfl) (by kernel_rfl), trivial⟩
theorem hm : Try.prog.follows .mixedOrders = true := by kernel_rfl

theorem ok123 : CallOk Try.prog 123 := callOk_of Try.func123 (by kernel_rfl) (by kernel_rfl)
theorem impl_parallelFunctors_c (a0 : XFunctor) (a1 : XFunctor) (r : Bool) (hM : M.impl_parallelFunctors a0 a1 = some r) :
    FnC Try.prog 123 [] [.pt (eXFunctor.b a0) 0, .pt (eXFunctor.b a1) 0] [] (bv r) := by
  refine fnc_startG (N := 21) (np := 500) hT Try.func123 rfl rfl (by kernel_rfl) ?_
  unfold M.impl_parallelFunctors at hM
  refine tr_start (ks := [0, 2]) (st' := [(0, .d (.pt (eXFunctor.b a0) 0)), (2, .d (.pt (eXFunctor.b a1) 0))]) (by kernel_rfl) ?_
  refine tr_sr hT hm [] [0, 2] [(0, .d (.pt (eXFunctor.b a0) 0)), (2, .d (.pt (eXFunctor.b a1) 0))] .nil (by kernel_rfl) (by kernel_rfl) ?_
  obtain ⟨v1, hv1, hM⟩ := bind_some' hM
  rcases Bool.eq_false_or_eq_true v1 with h2 | h2
  · have hM := ite_true' hM h2
    obtain ⟨v3, hv3, hM⟩ := bind_some' hM
    refine tr_sr hT hm [(6, .call [] [] [.pt (eXCategory.b a0.Source) 0, .pt (eXCategory.b a1.Source) 0] [] (bv v1)), (7, .val (bv true)), (14, .call [] [] [.pt (eXCategory.b a0.Target) 0, .pt (eXCategory.b a1.Target) 0] [] (bv v3))] [8] [(8, .d (bv v3))] (cc (B := []) (ρ := []) (rB := []) ok53 (impl_sameCategory_c a0.Source a1.Source _ hv1) (.cons (.pass (.ptk (ds := eXFunctor.b a0) (ds' := eXCategory.b a0.Source) (off := 0) (n := 5) (by kernel_rfl) (by kernel_rfl) (by kernel_rfl))) (.cons (.pass (.ptk (ds := eXFunctor.b a1) (ds' := eXCategory.b a1.Source) (off := 0) (n := 5) (by kernel_rfl) (by kernel_rfl) (by kernel_rfl))) .nil)) (.inl rfl) (.cons (congrArg (fun b => bv b) h2) (cc (B := []) (ρ := []) (rB := []) ok53 (impl_sameCategory_c a0.Target a1.Target _ hv3) (.cons (.pass (.ptk (ds := eXFunctor.b a0) (ds' := eXCategory.b a0.Target) (off := 5) (n := 5) (by kernel_rfl) (by kernel_rfl) (by kernel_rfl))) (.cons (.pass (.ptk (ds := eXFunctor.b a1) (ds' := eXCategory.b a1.Target) (off := 5) (n := 5) (by kernel_rfl) (by kernel_rfl) (by kernel_rfl))) .nil)) (.inl rfl) .nil))) (by kernel_rfl) (by kernel_rfl) ?_
    refine tr_ret (rg_r ?_)
    obtain rfl := Option.some.inj hM
    exact retg (names := []) .nil (by kernel_rfl)
  · have hM := ite_false' hM h2
    refine tr_sr hT hm [(6, .call [] [] [.pt (eXCategory.b a0.Source) 0, .pt (eXCategory.b a1.Source) 0] [] (bv v1)), (7, .val (bv false))] [8] [(8, .d (bv false))] (cc (B := []) (ρ := []) (rB := []) ok53 (impl_sameCategory_c a0.Source a1.Source _ hv1) (.cons (.pass (.ptk (ds := eXFunctor.b a0) (ds' := eXCategory.b a0.Source) (off := 0) (n := 5) (by kernel_rfl) (by kernel_rfl) (by kernel_rfl))) (.cons (.pass (.ptk (ds := eXFunctor.b a1) (ds' := eXCategory.b a1.Source) (off := 0) (n := 5) (by kernel_rfl) (by kernel_rfl) (by kernel_rfl))) .nil)) (.inl rfl) (.cons (congrArg (fun b => bv b) h2) .nil)) (by kernel_rfl) (by kernel_rfl) ?_
    refine tr_ret (rg_r ?_)
    obtain rfl := Option.some.inj hM
    exact retg (names := []) .nil (by kernel_rfl)

theorem ok112 : CallOk Try.prog 112 := callOk_of Try.func112 (by kernel_rfl) (by kernel_rfl)
theorem impl_Transformation_isShape_c (a0 : XTransformation) (r : Bool) (hM : M.impl_Transformation_isShape a0 = some r) :
    FnC Try.prog 112 [] [.pt (eXTransformation.b a0) 0] [] (bv r) := by
  refine fnc_startG (N := 81) (np := 500) hT Try.func112 rfl rfl (by kernel_rfl) ?_
  unfold M.impl_Transformation_isShape at hM
  refine tr_start (ks := [0]) (st' := [(0, .d (.pt (eXTransformation.b a0) 0))]) (by kernel_rfl) ?_
  refine tr_sr hT hm [] [0] [(0, .d (.pt (eXTransformation.b a0) 0))] .nil (by kernel_rfl) (by kernel_rfl) ?_
  refine tr_sr hT hm [] [0, 6, 8] [(0, .d (.pt (eXTransformation.b a0) 0)), (6, .d (.pt (eXTransformation.b a0) 0)), (8, .d (.pt (eXTransformation.b a0) 12))] .nil (by kernel_rfl) (by kernel_rfl) ?_
  refine tr_seq ?_
  obtain ⟨v1, hv1, hM⟩ := bind_some' hM
  rcases Bool.eq_false_or_eq_true v1 with h2 | h2
  · have hM := ite_true' hM h2
    obtain ⟨v3, hv3, hM⟩ := bind_some' hM
    rcases Bool.eq_false_or_eq_true v3 with h4 | h4
    · have hM := ite_true' hM h4
      rcases Bool.eq_false_or_eq_true ((a0.Components.length : Int) != a0.Source.Source.Objects) with h5 | h5
      · have hM := ite_true' hM h5
        refine tr_sr hT hm [(3, .call [1015] [] [.sl ([a0.Source, a0.Target] : List XFunctor).length 0 (([a0.Source, a0.Target] : List XFunctor).flatMap (eP eXFunctor).b)] [] (bv v1)), (5, .val (bv false)), (8, .call [] [] [.pt (eXFunctor.b a0.Source) 0, .pt (eXFunctor.b a0.Target) 0] [] (bv v3)), (11, .val (bv false)), (24, .val (bv true))] [0, 6, 8, 96] [(0, .d (.pt (eXTransformation.b a0) 0)), (6, .d (.pt (eXTransformation.b a0) 0)), (8, .d (.pt (eXTransformation.b a0) 12)), (96, .d (bv true))] (cc (B := [1015]) (ρ := []) (rB := [(1015, .arr 1 [.pt (eXTransformation.b a0) 0, .pt (eXTransformation.b a0) 12] [])]) ok122 (impl_areFunctors_c ([a0.Source, a0.Target] : List XFunctor) _ hv1) (.cons (.of1 (.rs (r := 1015) (sz := 1) (cells := [.pt (eXTransformation.b a0) 0, .pt (eXTransformation.b a0) 12]) (refs := []) (memB (by kernel_rfl)) (by kernel_rfl) (.cons (.ptk (ds := eXTransformation.b a0) (ds' := eXFunctor.b a0.Source) (off := 0) (n := 12) (by kernel_rfl) (by kernel_rfl) (by kernel_rfl)) (.cons (.ptk (ds := eXTransformation.b a0) (ds' := eXFunctor.b a0.Target) (off := 12) (n := 12) (by kernel_rfl) (by kernel_rfl) (by kernel_rfl)) .nil)))) .nil) (.inr ⟨.v, trivial⟩) (.cons (congrArg (fun b => bv b) (congrArg not h2)) (cc (B := []) (ρ := []) (rB := []) ok123 (impl_parallelFunctors_c a0.Source a0.Target _ hv3) (.cons (.pass (.ptk (ds := eXTransformation.b a0) (ds' := eXFunctor.b a0.Source) (off := 0) (n := 12) (by kernel_rfl) (by kernel_rfl) (by kernel_rfl))) (.cons (.pass (.ptk (ds := eXTransformation.b a0) (ds' := eXFunctor.b a0.Target) (off := 12) (n := 12) (by kernel_rfl) (by kernel_rfl) (by kernel_rfl))) .nil)) (.inl rfl) (.cons (congrArg (fun b => bv b) (congrArg not h4)) (.cons (congrArg (fun b => bv b) h5) .nil))))) (by kernel_rfl) (by kernel_rfl) ?_
        refine tr_condT (by kernel_rfl) ?_
        refine tr_sr hT hm [] [4] [(4, .d (bv false))] .nil (by kernel_rfl) (by kernel_rfl) ?_
        refine tr_ret (q_r (rg_r ?_))
        obtain rfl := Option.some.inj hM
        exact retg (names := []) .nil (by kernel_rfl)
      · have hM := ite_false' hM h5
        obtain ⟨v6, hv6, hM⟩ := bind_some' hM
        obtain ⟨v7, hv7, hM⟩ := bind_some' hM
        refine tr_sr hT hm [(3, .call [1015] [] [.sl ([a0.Source, a0.Target] : List XFunctor).length 0 (([a0.Source, a0.Target] : List XFunctor).flatMap (eP eXFunctor).b)] [] (bv v1)), (5, .val (bv false)), (8, .call [] [] [.pt (eXFunctor.b a0.Source) 0, .pt (eXFunctor.b a0.Target) 0] [] (bv v3)), (11, .val (bv false)), (24, .val (bv false)), (32, .call [] [] [.pt (eXCategory.b a0.Source.Target) 0] [] (iv v6)), (33, .call [] [] [.sl a0.Components.length 0 (a0.Components.flatMap eI.b), iv v6] [] (bv v7))] [0, 6, 8, 96] [(0, .d (.pt (eXTransformation.b a0) 0)), (6, .d (.pt (eXTransformation.b a0) 0)), (8, .d (.pt (eXTransformation.b a0) 12)), (96, .d (bv (!v7)))] (cc (B := [1015]) (ρ := []) (rB := [(1015, .arr 1 [.pt (eXTransformation.b a0) 0, .pt (eXTransformation.b a0) 12] [])]) ok122 (impl_areFunctors_c ([a0.Source, a0.Target] : List XFunctor) _ hv1) (.cons (.of1 (.rs (r := 1015) (sz := 1) (cells := [.pt (eXTransformation.b a0) 0, .pt (eXTransformation.b a0) 12]) (refs := []) (memB (by kernel_rfl)) (by kernel_rfl) (.cons (.ptk (ds := eXTransformation.b a0) (ds' := eXFunctor.b a0.Source) (off := 0) (n := 12) (by kernel_rfl) (by kernel_rfl) (by kernel_rfl)) (.cons (.ptk (ds := eXTransformation.b a0) (ds' := eXFunctor.b a0.Target) (off := 12) (n := 12) (by kernel_rfl) (by kernel_rfl) (by kernel_rfl)) .nil)))) .nil) (.inr ⟨.v, trivial⟩) (.cons (congrArg (fun b => bv b) (congrArg not h2)) (cc (B := []) (ρ := []) (rB := []) ok123 (impl_parallelFunctors_c a0.Source a0.Target _ hv3) (.cons (.pass (.ptk (ds := eXTransformation.b a0) (ds' := eXFunctor.b a0.Source) (off := 0) (n := 12) (by kernel_rfl) (by kernel_rfl) (by kernel_rfl))) (.cons (.pass (.ptk (ds := eXTransformation.b a0) (ds' := eXFunctor.b a0.Target) (off := 12) (n := 12) (by kernel_rfl) (by kernel_rfl) (by kernel_rfl))) .nil)) (.inl rfl) (.cons (congrArg (fun b => bv b) (congrArg not h4)) (.cons (congrArg (fun b => bv b) h5) (cc (B := []) (ρ := []) (rB := []) ok27 (impl_Category_arrows_c a0.Source.Target _ hv6) (.cons (.pass (.ptk (ds := eXTransformation.b a0) (ds' := eXCategory.b a0.Source.Target) (off := 5) (n := 5) (by kernel_rfl) (by kernel_rfl) (by kernel_rfl))) .nil) (.inl rfl) (cc0 ok26 (impl_within_c a0.Components v6 _ hv7) (by kernel_rfl) .nil))))))) (by kernel_rfl) (by kernel_rfl) ?_
        rcases Bool.eq_false_or_eq_true v7 with h8 | h8
        · have hM := ite_true' hM h8
          refine tr_condFe (e := !v7) (congrArg not h8) (by kernel_rfl) ?_
          refine tr_skip (q_n ?_)
          refine tr_seq ?_
          refine tr_sr hT hm [] [6, 8, 104, 106, 108] [(6, .d (.pt (eXTransformation.b a0) 0)), (8, .d (.pt (eXTransformation.b a0) 12)), (104, .d (.sl a0.Components.length 0 (a0.Components.flatMap eI.b))), (106, .d (iv (a0.Components.length : Int))), (108, .d (iv 0))] .nil (by kernel_rfl) (by kernel_rfl) ?_
          refine tr_block ?_
          refine tr_iterS (fun (s9 : Int) => [(6, .d (.pt (eXTransformation.b a0) 0)), (8, .d (.pt (eXTransformation.b a0) 12)), (104, .d (.sl a0.Components.length 0 (a0.Components.flatMap eI.b))), (106, .d (iv (a0.Components.length : Int))), (108, .d (iv s9))]) 0 [6, 8, 104, 106, 108] (by kernel_rfl) hM ?_
          intro n12 next10 ih11 s9 hM
          refine tr_sr hT hm [] [6, 8, 104, 106, 108, 110] [(6, .d (.pt (eXTransformation.b a0) 0)), (8, .d (.pt (eXTransformation.b a0) 12)), (104, .d (.sl a0.Components.length 0 (a0.Components.flatMap eI.b))), (106, .d (iv (a0.Components.length : Int))), (108, .d (iv s9)), (110, .d (bv (decide (s9 < (a0.Components.length : Int)))))] .nil (by kernel_rfl) (by kernel_rfl) ?_
          refine tr_seq ?_
          rcases Bool.eq_false_or_eq_true (decide (s9 < (a0.Components.length : Int))) with h13 | h13
          · have hM := ite_true' hM h13
            refine tr_condTe (e := decide (s9 < (a0.Components.length : Int))) h13 (by kernel_rfl) ?_
            refine tr_skip (q_n ?_)
            refine tr_seq ?_
            refine tr_block ?_
            obtain ⟨y14, hy14, hM⟩ := bind_some' hM
            have hy14' := idx_some hy14
            refine tr_sr hT hm [(2, .val (iv y14))] [6, 8, 10, 12, 104, 106, 108] [(6, .d (.pt (eXTransformation.b a0) 0)), (8, .d (.pt (eXTransformation.b a0) 12)), (10, .d (iv s9)), (12, .d (iv y14)), (104, .d (.sl a0.Components.length 0 (a0.Components.flatMap eI.b))), (106, .d (iv (a0.Components.length : Int))), (108, .d (iv s9))] (.cons hy14'.1 (.cons hy14'.2.1 (.cons (at_b0 eI_ok hy14'.2.2 (d := iv y14) (by kernel_rfl)) .nil))) (by kernel_rfl) (by kernel_rfl) ?_
            obtain ⟨v15, hv15, hM⟩ := bind_some' hM
            obtain ⟨y16, hy16, hM⟩ := bind_some' hM
            have hy16' := idx_some hy16
            obtain ⟨y17, hy17, hM⟩ := bind_some' hM
            have hy17' := idx_some hy17
            refine tr_sr hT hm [(4, .call [] [] [.pt (eXCategory.b a0.Source.Target) 0, iv y14] [] (.agg (eXends.o v15))), (11, .val (iv y16)), (18, .val (iv y17))] [6, 8, 104, 106, 108, 158] [(6, .d (.pt (eXTransformation.b a0) 0)), (8, .d (.pt (eXTransformation.b a0) 12)), (104, .d (.sl a0.Components.length 0 (a0.Components.flatMap eI.b))), (106, .d (iv (a0.Components.length : Int))), (108, .d (iv s9)), (158, .d (bv (((v15.from_ == y16) && (v15.to_ == y17)) == false)))] (cc (B := []) (ρ := []) (rB := []) ok29 (impl_Category_ends_c a0.Source.Target y14 _ hv15) (.cons (.pass (.ptk (ds := eXTransformation.b a0) (ds' := eXCategory.b a0.Source.Target) (off := 5) (n := 5) (by kernel_rfl) (by kernel_rfl) (by kernel_rfl))) (.cons (.same rfl) .nil)) (.inl rfl) (.cons hy16'.1 (.cons hy16'.2.1 (.cons (at_b0 eI_ok hy16'.2.2 (d := iv y16) (by kernel_rfl)) (.cons hy17'.1 (.cons hy17'.2.1 (.cons (at_b0 eI_ok hy17'.2.2 (d := iv y17) (by kernel_rfl)) (.cons (by kernel_rfl : Try.prog.stoodInHeld 61 = false) (.cons (by kernel_rfl : Try.prog.eqGuardType Try.prog.depth 61 = false) .nil))))))))) (by kernel_rfl) (by kernel_rfl) ?_
            rcases Bool.eq_false_or_eq_true (((v15.from_ == y16) && (v15.to_ == y17)) == false) with h18 | h18
            · have hM := ite_true' hM h18
              refine tr_condTe (e := ((v15.from_ == y16) && (v15.to_ == y17)) == false) h18 (by kernel_rfl) ?_
              refine tr_sr hT hm [] [4] [(4, .d (bv false))] .nil (by kernel_rfl) (by kernel_rfl) ?_
              refine tr_ret (b_r (q_r (l_r (b_r (q_r (rg_r ?_))))))
              obtain rfl := Option.some.inj hM
              exact retg (names := []) .nil (by kernel_rfl)
            · have hM := ite_false' hM h18
              refine tr_condFe (e := ((v15.from_ == y16) && (v15.to_ == y17)) == false) h18 (by kernel_rfl) ?_
              refine tr_skip (b_n (q_n ?_))
              refine tr_r hT hm [] [6, 8, 104, 106, 108] [(6, .d (.pt (eXTransformation.b a0) 0)), (8, .d (.pt (eXTransformation.b a0) 12)), (104, .d (.sl a0.Components.length 0 (a0.Components.flatMap eI.b))), (106, .d (iv (a0.Components.length : Int))), (108, .d (iv (IntKind.i64.wrap (s9 + 1))))] .nil (by kernel_rfl) (by kernel_rfl) (l_n ?_)
              exact trl_start (ks := [6, 8, 104, 106, 108]) (by kernel_rfl) (ih11 (IntKind.i64.wrap (s9 + 1)) hM)
          · have hM := ite_false' hM h13
            refine tr_condFe (e := decide (s9 < (a0.Components.length : Int))) h13 (by kernel_rfl) ?_
            refine tr_exit (q_x (l_x (b_h (q_n ?_))))
            refine tr_sr hT hm [] [4] [(4, .d (bv true))] .nil (by kernel_rfl) (by kernel_rfl) ?_
            refine tr_ret (rg_r ?_)
            obtain rfl := Option.some.inj hM
            exact retg (names := []) .nil (by kernel_rfl)
        · have hM := ite_false' hM h8
          refine tr_condTe (e := !v7) (congrArg not h8) (by kernel_rfl) ?_
          refine tr_sr hT hm [] [4] [(4, .d (bv false))] .nil (by kernel_rfl) (by kernel_rfl) ?_
          refine tr_ret (q_r (rg_r ?_))
          obtain rfl := Option.some.inj hM
          exact retg (names := []) .nil (by kernel_rfl)
    · have hM := ite_false' hM h4
      refine tr_sr hT hm [(3, .call [1015] [] [.sl ([a0.Source, a0.Target] : List XFunctor).length 0 (([a0.Source, a0.Target] : List XFunctor).flatMap (eP eXFunctor).b)] [] (bv v1)), (5, .val (bv false)), (8, .call [] [] [.pt (eXFunctor.b a0.Source) 0, .pt (eXFunctor.b a0.Target) 0] [] (bv v3)), (11, .val (bv true))] [0, 6, 8, 96] [(0, .d (.pt (eXTransformation.b a0) 0)), (6, .d (.pt (eXTransformation.b a0) 0)), (8, .d (.pt (eXTransformation.b a0) 12)), (96, .d (bv true))] (cc (B := [1015]) (ρ := []) (rB := [(1015, .arr 1 [.pt (eXTransformation.b a0) 0, .pt (eXTransformation.b a0) 12] [])]) ok122 (impl_areFunctors_c ([a0.Source, a0.Target] : List XFunctor) _ hv1) (.cons (.of1 (.rs (r := 1015) (sz := 1) (cells := [.pt (eXTransformation.b a0) 0, .pt (eXTransformation.b a0) 12]) (refs := []) (memB (by kernel_rfl)) (by kernel_rfl) (.cons (.ptk (ds := eXTransformation.b a0) (ds' := eXFunctor.b a0.Source) (off := 0) (n := 12) (by kernel_rfl) (by kernel_rfl) (by kernel_rfl)) (.cons (.ptk (ds := eXTransformation.b a0) (ds' := eXFunctor.b a0.Target) (off := 12) (n := 12) (by kernel_rfl) (by kernel_rfl) (by kernel_rfl)) .nil)))) .nil) (.inr ⟨.v, trivial⟩) (.cons (congrArg (fun b => bv b) (congrArg not h2)) (cc (B := []) (ρ := []) (rB := []) ok123 (impl_parallelFunctors_c a0.Source a0.Target _ hv3) (.cons (.pass (.ptk (ds := eXTransformation.b a0) (ds' := eXFunctor.b a0.Source) (off := 0) (n := 12) (by kernel_rfl) (by kernel_rfl) (by kernel_rfl))) (.cons (.pass (.ptk (ds := eXTransformation.b a0) (ds' := eXFunctor.b a0.Target) (off := 12) (n := 12) (by kernel_rfl) (by kernel_rfl) (by kernel_rfl))) .nil)) (.inl rfl) (.cons (congrArg (fun b => bv b) (congrArg not h4)) .nil)))) (by kernel_rfl) (by kernel_rfl) ?_
      refine tr_condT (by kernel_rfl) ?_
      refine tr_sr hT hm [] [4] [(4, .d (bv false))] .nil (by kernel_rfl) (by kernel_rfl) ?_
      refine tr_ret (q_r (rg_r ?_))
      obtain rfl := Option.some.inj hM
      exact retg (names := []) .nil (by kernel_rfl)
  · have hM := ite_false' hM h2
    refine tr_sr hT hm [(3, .call [1015] [] [.sl ([a0.Source, a0.Target] : List XFunctor).length 0 (([a0.Source, a0.Target] : List XFunctor).flatMap (eP eXFunctor).b)] [] (bv v1)), (5, .val (bv true))] [0, 6, 8, 96] [(0, .d (.pt (eXTransformation.b a0) 0)), (6, .d (.pt (eXTransformation.b a0) 0)), (8, .d (.pt (eXTransformation.b a0) 12)), (96, .d (bv true))] (cc (B := [1015]) (ρ := []) (rB := [(1015, .arr 1 [.pt (eXTransformation.b a0) 0, .pt (eXTransformation.b a0) 12] [])]) ok122 (impl_areFunctors_c ([a0.Source, a0.Target] : List XFunctor) _ hv1) (.cons (.of1 (.rs (r := 1015) (sz := 1) (cells := [.pt (eXTransformation.b a0) 0, .pt (eXTransformation.b a0) 12]) (refs := []) (memB (by kernel_rfl)) (by kernel_rfl) (.cons (.ptk (ds := eXTransformation.b a0) (ds' := eXFunctor.b a0.Source) (off := 0) (n := 12) (by kernel_rfl) (by kernel_rfl) (by kernel_rfl)) (.cons (.ptk (ds := eXTransformation.b a0) (ds' := eXFunctor.b a0.Target) (off := 12) (n := 12) (by kernel_rfl) (by kernel_rfl) (by kernel_rfl)) .nil)))) .nil) (.inr ⟨.v, trivial⟩) (.cons (congrArg (fun b => bv b) (congrArg not h2)) .nil)) (by kernel_rfl) (by kernel_rfl) ?_
    refine tr_condT (by kernel_rfl) ?_
    refine tr_sr hT hm [] [4] [(4, .d (bv false))] .nil (by kernel_rfl) (by kernel_rfl) ?_
    refine tr_ret (q_r (rg_r ?_))
    obtain rfl := Option.some.inj hM
    exact retg (names := []) .nil (by kernel_rfl)

theorem ok113 : CallOk Try.prog 113 := callOk_of Try.func113 (by kernel_rfl) (by kernel_rfl)
theorem impl_firstFailure_c (a0 : XTransformation) (f1 : Nat) (c1 : List D) (a1 : XFunctor → XFunctor → (List Int) → Int → Option Bool) (ok1_ : CallOk Try.prog f1) (hm1 : menL c1 = []) (hf1 : ∀ x0 x1 x2 x3 r, a1 x0 x1 x2 x3 = some r → FnC Try.prog f1 [] ([.pt (eXFunctor.b x0) 0, .pt (eXFunctor.b x1) 0, .sl x2.length 0 (x2.flatMap eI.b), iv x3] ++ c1) [] (bv r)) (r : Int) (hM : M.impl_firstFailure a0 a1 = some r) :
    FnC Try.prog 113 [] [.pt (eXTransformation.b a0) 0, .fb f1 c1] [] (iv r) := by
  refine fnc_startG (N := 31) (np := 500) hT Try.func113 rfl rfl (by kernel_rfl) ?_
  unfold M.impl_firstFailure at hM
  refine tr_start (ks := [0, 2]) (st' := [(0, .d (.pt (eXTransformation.b a0) 0)), (2, .d (.fb f1 c1))]) (by kernel_rfl) ?_
  refine tr_sr hT hm [] [0, 2] [(0, .d (.pt (eXTransformation.b a0) 0)), (2, .d (.fb f1 c1))] .nil (by kernel_rfl) (by kernel_rfl) ?_
  refine tr_seq ?_
  refine tr_sr hT hm [] [0, 2, 22, 24] [(0, .d (.pt (eXTransformation.b a0) 0)), (2, .d (.fb f1 c1)), (22, .d (iv (a0.Source.Arrows.length : Int))), (24, .d (iv 0))] .nil (by kernel_rfl) (by kernel_rfl) ?_
  refine tr_block ?_
  refine tr_iterS (fun (s1 : Int) => [(0, .d (.pt (eXTransformation.b a0) 0)), (2, .d (.fb f1 c1)), (22, .d (iv (a0.Source.Arrows.length : Int))), (24, .d (iv s1))]) 0 [0, 2, 22, 24] (by kernel_rfl) hM ?_
  intro n4 next2 ih3 s1 hM
  refine tr_sr hT hm [] [0, 2, 22, 24, 26] [(0, .d (.pt (eXTransformation.b a0) 0)), (2, .d (.fb f1 c1)), (22, .d (iv (a0.Source.Arrows.length : Int))), (24, .d (iv s1)), (26, .d (bv (decide (s1 < (a0.Source.Arrows.length : Int)))))] .nil (by kernel_rfl) (by kernel_rfl) ?_
  refine tr_seq ?_
  rcases Bool.eq_false_or_eq_true (decide (s1 < (a0.Source.Arrows.length : Int))) with h5 | h5
  · have hM := ite_true' hM h5
    refine tr_condTe (e := decide (s1 < (a0.Source.Arrows.length : Int))) h5 (by kernel_rfl) ?_
    refine tr_skip (q_n ?_)
    refine tr_seq ?_
    refine tr_block ?_
    refine tr_sr hT hm [] [0, 2, 10, 22, 24] [(0, .d (.pt (eXTransformation.b a0) 0)), (2, .d (.fb f1 c1)), (10, .d (iv s1)), (22, .d (iv (a0.Source.Arrows.length : Int))), (24, .d (iv s1))] .nil (by kernel_rfl) (by kernel_rfl) ?_
    obtain ⟨v6, hv6, hM⟩ := bind_some' hM
    refine tr_sr hT hm [(12, .call [] [] ([.pt (eXFunctor.b a0.Source) 0, .pt (eXFunctor.b a0.Target) 0, .sl a0.Components.length 0 (a0.Components.flatMap eI.b), iv s1] ++ c1) [] (bv v6))] [0, 2, 10, 22, 24, 56] [(0, .d (.pt (eXTransformation.b a0) 0)), (2, .d (.fb f1 c1)), (10, .d (iv s1)), (22, .d (iv (a0.Source.Arrows.length : Int))), (24, .d (iv s1)), (56, .d (bv (!v6)))] (cc (B := []) (ρ := []) (rB := []) ok1_ (hf1 a0.Source a0.Target a0.Components s1 _ hv6) (.cons (.pass (.ptk (ds := eXTransformation.b a0) (ds' := eXFunctor.b a0.Source) (off := 0) (n := 12) (by kernel_rfl) (by kernel_rfl) (by kernel_rfl))) (.cons (.pass (.ptk (ds := eXTransformation.b a0) (ds' := eXFunctor.b a0.Target) (off := 12) (n := 12) (by kernel_rfl) (by kernel_rfl) (by kernel_rfl))) (.cons (.same rfl) (.cons (.same rfl) (.keep hm1))))) (.inl rfl) .nil) (by kernel_rfl) (by kernel_rfl) ?_
    rcases Bool.eq_false_or_eq_true v6 with h7 | h7
    · have hM := ite_true' hM h7
      refine tr_condFe (e := !v6) (congrArg not h7) (by kernel_rfl) ?_
      refine tr_skip (b_n (q_n ?_))
      refine tr_r hT hm [] [0, 2, 22, 24] [(0, .d (.pt (eXTransformation.b a0) 0)), (2, .d (.fb f1 c1)), (22, .d (iv (a0.Source.Arrows.length : Int))), (24, .d (iv (IntKind.i64.wrap (s1 + 1))))] .nil (by kernel_rfl) (by kernel_rfl) (l_n ?_)
      exact trl_start (ks := [0, 2, 22, 24]) (by kernel_rfl) (ih3 (IntKind.i64.wrap (s1 + 1)) hM)
    · have hM := ite_false' hM h7
      refine tr_condTe (e := !v6) (congrArg not h7) (by kernel_rfl) ?_
      refine tr_sr hT hm [] [8] [(8, .d (iv s1))] .nil (by kernel_rfl) (by kernel_rfl) ?_
      refine tr_ret (b_r (q_r (l_r (b_r (q_r (rg_r ?_))))))
      obtain rfl := Option.some.inj hM
      exact retg (names := []) .nil (by kernel_rfl)
  · have hM := ite_false' hM h5
    refine tr_condFe (e := decide (s1 < (a0.Source.Arrows.length : Int))) h5 (by kernel_rfl) ?_
    refine tr_exit (q_x (l_x (b_h (q_n ?_))))
    refine tr_sr hT hm [] [8] [(8, .d (iv (-1)))] .nil (by kernel_rfl) (by kernel_rfl) ?_
    refine tr_ret (rg_r ?_)
    obtain rfl := Option.some.inj hM
    exact retg (names := []) .nil (by kernel_rfl)

theorem ok114 : CallOk Try.prog 114 := callOk_of Try.func114 (by kernel_rfl) (by kernel_rfl)
theorem impl_commutes_c (a0 : XFunctor) (a1 : XFunctor) (a2 : List Int) (a3 : Int) (r : Bool) (hM : M.impl_commutes a0 a1 a2 a3 = some r) :
    FnC Try.prog 114 [] [.pt (eXFunctor.b a0) 0, .pt (eXFunctor.b a1) 0, .sl a2.length 0 (a2.flatMap eI.b), iv a3] [] (bv r) := by
  refine fnc_startG (N := 56) (np := 500) hT Try.func114 rfl rfl (by kernel_rfl) ?_
  unfold M.impl_commutes at hM
  refine tr_start (ks := [0, 2, 4, 6]) (st' := [(0, .d (.pt (eXFunctor.b a0) 0)), (2, .d (.pt (eXFunctor.b a1) 0)), (4, .d (.sl a2.length 0 (a2.flatMap eI.b))), (6, .d (iv a3))]) (by kernel_rfl) ?_
  refine tr_sr hT hm [] [0, 2, 4, 6] [(0, .d (.pt (eXFunctor.b a0) 0)), (2, .d (.pt (eXFunctor.b a1) 0)), (4, .d (.sl a2.length 0 (a2.flatMap eI.b))), (6, .d (iv a3))] .nil (by kernel_rfl) (by kernel_rfl) ?_
  refine tr_sr hT hm [] [0, 2, 4, 6, 18, 20] [(0, .d (.pt (eXFunctor.b a0) 0)), (2, .d (.pt (eXFunctor.b a1) 0)), (4, .d (.sl a2.length 0 (a2.flatMap eI.b))), (6, .d (iv a3)), (18, .d (.pt (eXFunctor.b a0) 0)), (20, .d (.pt (eXFunctor.b a0) 5))] .nil (by kernel_rfl) (by kernel_rfl) ?_
  obtain ⟨y1, hy1, hM⟩ := bind_some' hM
  have hy1' := idx_some hy1
  obtain ⟨y2, hy2, hM⟩ := bind_some' hM
  have hy2' := idx_some hy2
  obtain ⟨y3, hy3, hM⟩ := bind_some' hM
  have hy3' := idx_some hy3
  obtain ⟨v4, hv4, hM⟩ := bind_some' hM
  obtain ⟨y5, hy5, hM⟩ := bind_some' hM
  have hy5' := idx_some hy5
  obtain ⟨y6, hy6, hM⟩ := bind_some' hM
  have hy6' := idx_some hy6
  obtain ⟨y7, hy7, hM⟩ := bind_some' hM
  have hy7' := idx_some hy7
  obtain ⟨v8, hv8, hM⟩ := bind_some' hM
  refine tr_sr hT hm [(7, .val (iv y1)), (15, .val (iv y2)), (17, .val (iv y3)), (18, .call [] [] [.pt (eXCategory.b a0.Target) 0, iv y1, iv y3] [] (iv v4)), (27, .val (iv y5)), (29, .val (iv y6)), (36, .val (iv y7)), (37, .call [] [] [.pt (eXCategory.b a0.Target) 0, iv y6, iv y7] [] (iv v8))] [16] [(16, .d (bv (v4 == v8)))] (.cons hy1'.1 (.cons hy1'.2.1 (.cons (at_b0 eI_ok hy1'.2.2 (d := iv y1) (by kernel_rfl)) (.cons hy2'.1 (.cons hy2'.2.1 (.cons (at_b0 eI_ok hy2'.2.2 (d := iv y2) (by kernel_rfl)) (.cons hy3'.1 (.cons hy3'.2.1 (.cons (at_b0 eI_ok hy3'.2.2 (d := iv y3) (by kernel_rfl)) (cc (B := []) (ρ := []) (rB := []) ok60 (impl_Category_then_c a0.Target y1 y3 _ hv4) (.cons (.pass (.ptk (ds := eXFunctor.b a0) (ds' := eXCategory.b a0.Target) (off := 5) (n := 5) (by kernel_rfl) (by kernel_rfl) (by kernel_rfl))) (.cons (.same rfl) (.cons (.same rfl) .nil))) (.inl rfl) (.cons hy5'.1 (.cons hy5'.2.1 (.cons (at_b0 eI_ok hy5'.2.2 (d := iv y5) (by kernel_rfl)) (.cons hy6'.1 (.cons hy6'.2.1 (.cons (at_b0 eI_ok hy6'.2.2 (d := iv y6) (by kernel_rfl)) (.cons hy7'.1 (.cons hy7'.2.1 (.cons (at_b0 eI_ok hy7'.2.2 (d := iv y7) (by kernel_rfl)) (cc (B := []) (ρ := []) (rB := []) ok60 (impl_Category_then_c a0.Target y6 y7 _ hv8) (.cons (.pass (.ptk (ds := eXFunctor.b a0) (ds' := eXCategory.b a0.Target) (off := 5) (n := 5) (by kernel_rfl) (by kernel_rfl) (by kernel_rfl))) (.cons (.same rfl) (.cons (.same rfl) .nil))) (.inl rfl) .nil)))))))))))))))))))) (by kernel_rfl) (by kernel_rfl) ?_
  refine tr_ret (rg_r ?_)
  obtain rfl := Option.some.inj hM
  exact retg (names := []) .nil (by kernel_rfl)

theorem ok91 : CallOk Try.prog 91 := callOk_of Try.func91 (by kernel_rfl) (by kernel_rfl)
theorem impl_Transformation_isNatural_c (a0 : XTransformation) (r : Bool) (hM : M.impl_Transformation_isNatural a0 = some r) :
    FnC Try.prog 91 [] [.pt (eXTransformation.b a0) 0] [] (bv r) := by
  refine fnc_startG (N := 10) (np := 500) hT Try.func91 rfl rfl (by kernel_rfl) ?_
  unfold M.impl_Transformation_isNatural at hM
  refine tr_start (ks := [0]) (st' := [(0, .d (.pt (eXTransformation.b a0) 0))]) (by kernel_rfl) ?_
  refine tr_sr hT hm [] [0] [(0, .d (.pt (eXTransformation.b a0) 0))] .nil (by kernel_rfl) (by kernel_rfl) ?_
  obtain ⟨v1, hv1, hM⟩ := bind_some' hM
  rcases Bool.eq_false_or_eq_true v1 with h2 | h2
  · have hM := ite_true' hM h2
    obtain ⟨v3, hv3, hM⟩ := bind_some' hM
    refine tr_sr hT hm [(1, .call [] [] [.pt (eXTransformation.b a0) 0] [] (bv v1)), (2, .val (bv true)), (4, .call [] [] [.pt (eXTransformation.b a0) 0, .fb 114 []] [] (iv v3))] [4] [(4, .d (bv (decide (v3 < 0))))] (cc0 ok112 (impl_Transformation_isShape_c a0 _ hv1) (by kernel_rfl) (.cons (congrArg (fun b => bv b) h2) (cc (B := []) (ρ := []) (rB := []) ok113 (impl_firstFailure_c a0 114 ([] : List D) (fun (x0 : XFunctor) (x1 : XFunctor) (x2 : List Int) (x3 : Int) => M.impl_commutes x0 x1 x2 x3) ok114 (by kernel_rfl) (fun x0 x1 x2 x3 r h => impl_commutes_c x0 x1 x2 x3  r h) _ hv3) (.cons (.same rfl) (.cons (.fn .nil) .nil)) (.inl rfl) .nil))) (by kernel_rfl) (by kernel_rfl) ?_
    refine tr_ret (rg_r ?_)
    obtain rfl := Option.some.inj hM
    exact retg (names := []) .nil (by kernel_rfl)
  · have hM := ite_false' hM h2
    refine tr_sr hT hm [(1, .call [] [] [.pt (eXTransformation.b a0) 0] [] (bv v1)), (2, .val (bv false))] [4] [(4, .d (bv false))] (cc0 ok112 (impl_Transformation_isShape_c a0 _ hv1) (by kernel_rfl) (.cons (congrArg (fun b => bv b) h2) .nil)) (by kernel_rfl) (by kernel_rfl) ?_
    refine tr_ret (rg_r ?_)
    obtain rfl := Option.some.inj hM
    exact retg (names := []) .nil (by kernel_rfl)

end Go.Proofs.Ytfihadfjmbfpgaa.WwT
