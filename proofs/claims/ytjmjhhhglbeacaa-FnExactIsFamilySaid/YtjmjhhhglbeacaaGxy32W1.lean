/- Walks. Printed by wip/gen. -/
import Derived.Test.YtjmjhhhglbeacaaGxy32W0
namespace Go.Proofs.Ytjmjhhhglbeacaa.Wy32
open Go.Gx Go.Proofs.Ytjmjhhhglbeacaa.WvB Go.Proofs.Ytjmjhhhglbeacaa.WvS Go.Proofs.Ytjmjhhhglbeacaa.WvH Go.Proofs.Ytjmjhhhglbeacaa.WvI

theorem ok198 : CallOk Try.prog 198 := callOk_of Try.func198 (by kernel_rfl) (by kernel_rfl)
theorem impl_sameFunctor_c (a0 : XFunctor) (a1 : XFunctor) (r : Bool) (hM : M.impl_sameFunctor a0 a1 = some r) :
    FnC Try.prog 198 [] [.pt (eXFunctor.b a0) 0, .pt (eXFunctor.b a1) 0] [] (bv r) := by
  refine fnc_startG (N := 43) (np := 500) hT Try.func198 rfl rfl (by kernel_rfl) ?_
  unfold M.impl_sameFunctor at hM
  refine tr_start (ks := [0, 2]) (st' := [(0, .d (.pt (eXFunctor.b a0) 0)), (2, .d (.pt (eXFunctor.b a1) 0))]) (by kernel_rfl) ?_
  refine tr_sr hT hm [] [0, 2] [(0, .d (.pt (eXFunctor.b a0) 0)), (2, .d (.pt (eXFunctor.b a1) 0))] .nil (by kernel_rfl) (by kernel_rfl) ?_
  obtain ⟨v1, hv1, hM⟩ := bind_some' hM
  rcases Bool.eq_false_or_eq_true v1 with h2 | h2
  · have hM := ite_true' hM h2
    obtain ⟨v3, hv3, hM⟩ := bind_some' hM
    rcases Bool.eq_false_or_eq_true v3 with h4 | h4
    · have hM := ite_true' hM h4
      obtain ⟨v5, hv5, hM⟩ := bind_some' hM
      rcases Bool.eq_false_or_eq_true v5 with h6 | h6
      · have hM := ite_true' hM h6
        obtain ⟨v7, hv7, hM⟩ := bind_some' hM
        refine tr_sr hT hm [(6, .call [] [] [.pt (eXCategory.b a0.Source) 0, .pt (eXCategory.b a1.Source) 0] [] (bv v1)), (7, .val (bv true)), (14, .call [] [] [.pt (eXCategory.b a0.Target) 0, .pt (eXCategory.b a1.Target) 0] [] (bv v3)), (16, .val (bv true)), (25, .call [] [] [.sl a0.Objects.length 0 (a0.Objects.flatMap eI.b), .sl a1.Objects.length 0 (a1.Objects.flatMap eI.b)] [] (bv v5)), (27, .val (bv true)), (36, .call [] [] [.sl a0.Arrows.length 0 (a0.Arrows.flatMap eI.b), .sl a1.Arrows.length 0 (a1.Arrows.flatMap eI.b)] [] (bv v7))] [8] [(8, .d (bv v7))] (cc (B := []) (ρ := []) (rB := []) ok101 (impl_sameCategory_c a0.Source a1.Source _ hv1) (.cons (.pass (.ptk (ds := eXFunctor.b a0) (ds' := eXCategory.b a0.Source) (off := 0) (n := 5) (by kernel_rfl) (by kernel_rfl) (by kernel_rfl))) (.cons (.pass (.ptk (ds := eXFunctor.b a1) (ds' := eXCategory.b a1.Source) (off := 0) (n := 5) (by kernel_rfl) (by kernel_rfl) (by kernel_rfl))) .nil)) (.inl rfl) (.cons (congrArg (fun b => bv b) h2) (cc (B := []) (ρ := []) (rB := []) ok101 (impl_sameCategory_c a0.Target a1.Target _ hv3) (.cons (.pass (.ptk (ds := eXFunctor.b a0) (ds' := eXCategory.b a0.Target) (off := 5) (n := 5) (by kernel_rfl) (by kernel_rfl) (by kernel_rfl))) (.cons (.pass (.ptk (ds := eXFunctor.b a1) (ds' := eXCategory.b a1.Target) (off := 5) (n := 5) (by kernel_rfl) (by kernel_rfl) (by kernel_rfl))) .nil)) (.inl rfl) (.cons (congrArg (fun b => bv b) h4) (cc0 ok192 (impl_same_c a0.Objects a1.Objects _ hv5) (by kernel_rfl) (.cons (congrArg (fun b => bv b) h6) (cc0 ok192 (impl_same_c a0.Arrows a1.Arrows _ hv7) (by kernel_rfl) .nil))))))) (by kernel_rfl) (by kernel_rfl) ?_
        refine tr_ret (rg_r ?_)
        obtain rfl := Option.some.inj hM
        exact retg (names := []) .nil (by kernel_rfl)
      · have hM := ite_false' hM h6
        refine tr_sr hT hm [(6, .call [] [] [.pt (eXCategory.b a0.Source) 0, .pt (eXCategory.b a1.Source) 0] [] (bv v1)), (7, .val (bv true)), (14, .call [] [] [.pt (eXCategory.b a0.Target) 0, .pt (eXCategory.b a1.Target) 0] [] (bv v3)), (16, .val (bv true)), (25, .call [] [] [.sl a0.Objects.length 0 (a0.Objects.flatMap eI.b), .sl a1.Objects.length 0 (a1.Objects.flatMap eI.b)] [] (bv v5)), (27, .val (bv false))] [8] [(8, .d (bv false))] (cc (B := []) (ρ := []) (rB := []) ok101 (impl_sameCategory_c a0.Source a1.Source _ hv1) (.cons (.pass (.ptk (ds := eXFunctor.b a0) (ds' := eXCategory.b a0.Source) (off := 0) (n := 5) (by kernel_rfl) (by kernel_rfl) (by kernel_rfl))) (.cons (.pass (.ptk (ds := eXFunctor.b a1) (ds' := eXCategory.b a1.Source) (off := 0) (n := 5) (by kernel_rfl) (by kernel_rfl) (by kernel_rfl))) .nil)) (.inl rfl) (.cons (congrArg (fun b => bv b) h2) (cc (B := []) (ρ := []) (rB := []) ok101 (impl_sameCategory_c a0.Target a1.Target _ hv3) (.cons (.pass (.ptk (ds := eXFunctor.b a0) (ds' := eXCategory.b a0.Target) (off := 5) (n := 5) (by kernel_rfl) (by kernel_rfl) (by kernel_rfl))) (.cons (.pass (.ptk (ds := eXFunctor.b a1) (ds' := eXCategory.b a1.Target) (off := 5) (n := 5) (by kernel_rfl) (by kernel_rfl) (by kernel_rfl))) .nil)) (.inl rfl) (.cons (congrArg (fun b => bv b) h4) (cc0 ok192 (impl_same_c a0.Objects a1.Objects _ hv5) (by kernel_rfl) (.cons (congrArg (fun b => bv b) h6) .nil)))))) (by kernel_rfl) (by kernel_rfl) ?_
        refine tr_ret (rg_r ?_)
        obtain rfl := Option.some.inj hM
        exact retg (names := []) .nil (by kernel_rfl)
    · have hM := ite_false' hM h4
      refine tr_sr hT hm [(6, .call [] [] [.pt (eXCategory.b a0.Source) 0, .pt (eXCategory.b a1.Source) 0] [] (bv v1)), (7, .val (bv true)), (14, .call [] [] [.pt (eXCategory.b a0.Target) 0, .pt (eXCategory.b a1.Target) 0] [] (bv v3)), (16, .val (bv false))] [8] [(8, .d (bv false))] (cc (B := []) (ρ := []) (rB := []) ok101 (impl_sameCategory_c a0.Source a1.Source _ hv1) (.cons (.pass (.ptk (ds := eXFunctor.b a0) (ds' := eXCategory.b a0.Source) (off := 0) (n := 5) (by kernel_rfl) (by kernel_rfl) (by kernel_rfl))) (.cons (.pass (.ptk (ds := eXFunctor.b a1) (ds' := eXCategory.b a1.Source) (off := 0) (n := 5) (by kernel_rfl) (by kernel_rfl) (by kernel_rfl))) .nil)) (.inl rfl) (.cons (congrArg (fun b => bv b) h2) (cc (B := []) (ρ := []) (rB := []) ok101 (impl_sameCategory_c a0.Target a1.Target _ hv3) (.cons (.pass (.ptk (ds := eXFunctor.b a0) (ds' := eXCategory.b a0.Target) (off := 5) (n := 5) (by kernel_rfl) (by kernel_rfl) (by kernel_rfl))) (.cons (.pass (.ptk (ds := eXFunctor.b a1) (ds' := eXCategory.b a1.Target) (off := 5) (n := 5) (by kernel_rfl) (by kernel_rfl) (by kernel_rfl))) .nil)) (.inl rfl) (.cons (congrArg (fun b => bv b) h4) .nil)))) (by kernel_rfl) (by kernel_rfl) ?_
      refine tr_ret (rg_r ?_)
      obtain rfl := Option.some.inj hM
      exact retg (names := []) .nil (by kernel_rfl)
  · have hM := ite_false' hM h2
    refine tr_sr hT hm [(6, .call [] [] [.pt (eXCategory.b a0.Source) 0, .pt (eXCategory.b a1.Source) 0] [] (bv v1)), (7, .val (bv false))] [8] [(8, .d (bv false))] (cc (B := []) (ρ := []) (rB := []) ok101 (impl_sameCategory_c a0.Source a1.Source _ hv1) (.cons (.pass (.ptk (ds := eXFunctor.b a0) (ds' := eXCategory.b a0.Source) (off := 0) (n := 5) (by kernel_rfl) (by kernel_rfl) (by kernel_rfl))) (.cons (.pass (.ptk (ds := eXFunctor.b a1) (ds' := eXCategory.b a1.Source) (off := 0) (n := 5) (by kernel_rfl) (by kernel_rfl) (by kernel_rfl))) .nil)) (.inl rfl) (.cons (congrArg (fun b => bv b) h2) .nil)) (by kernel_rfl) (by kernel_rfl) ?_
    refine tr_ret (rg_r ?_)
    obtain rfl := Option.some.inj hM
    exact retg (names := []) .nil (by kernel_rfl)

theorem ok113 : CallOk Try.prog 113 := callOk_of Try.func113 (by kernel_rfl) (by kernel_rfl)
theorem impl_Family_isFamily_c (a0 : XFamily) (r : Bool) (hM : M.impl_Family_isFamily a0 = some r) :
    FnC Try.prog 113 [] [.pt (eXFamily.b a0) 0] [] (bv r) := by
  refine fnc_startG (N := 184) (np := 500) hT Try.func113 rfl rfl (by kernel_rfl) ?_
  unfold M.impl_Family_isFamily at hM
  refine tr_start (ks := [0]) (st' := [(0, .d (.pt (eXFamily.b a0) 0))]) (by kernel_rfl) ?_
  refine tr_sr hT hm [] [0] [(0, .d (.pt (eXFamily.b a0) 0))] .nil (by kernel_rfl) (by kernel_rfl) ?_
  refine tr_sr hT hm [] [0, 6] [(0, .d (.pt (eXFamily.b a0) 0)), (6, .d (.pt (eXFamily.b a0) 0))] .nil (by kernel_rfl) (by kernel_rfl) ?_
  refine tr_seq ?_
  obtain ⟨v1, hv1, hM⟩ := bind_some' hM
  rcases Bool.eq_false_or_eq_true v1 with h2 | h2
  · have hM := ite_true' hM h2
    rcases Bool.eq_false_or_eq_true ((a0.Fibres.length : Int) != a0.Base.Objects) with h3 | h3
    · have hM := ite_true' hM h3
      refine tr_sr hT hm [(1, .call [] [] [.pt (eXCategory.b a0.Base) 0] [] (bv v1)), (3, .val (bv false)), (15, .val (bv true))] [0, 6, 84] [(0, .d (.pt (eXFamily.b a0) 0)), (6, .d (.pt (eXFamily.b a0) 0)), (84, .d (bv true))] (cc (B := []) (ρ := []) (rB := []) ok122 (impl_Category_isCategory_c a0.Base _ hv1) (.cons (.pass (.ptk (ds := eXFamily.b a0) (ds' := eXCategory.b a0.Base) (off := 0) (n := 5) (by kernel_rfl) (by kernel_rfl) (by kernel_rfl))) .nil) (.inl rfl) (.cons (congrArg (fun b => bv b) (congrArg not h2)) (.cons (congrArg (fun b => bv b) h3) .nil))) (by kernel_rfl) (by kernel_rfl) ?_
      refine tr_condT (by kernel_rfl) ?_
      refine tr_sr hT hm [] [4] [(4, .d (bv false))] .nil (by kernel_rfl) (by kernel_rfl) ?_
      refine tr_ret (q_r (rg_r ?_))
      obtain rfl := Option.some.inj hM
      exact retg (names := []) .nil (by kernel_rfl)
    · have hM := ite_false' hM h3
      obtain ⟨v4, hv4, hM⟩ := bind_some' hM
      refine tr_sr hT hm [(1, .call [] [] [.pt (eXCategory.b a0.Base) 0] [] (bv v1)), (3, .val (bv false)), (15, .val (bv false)), (22, .call [] [] [.pt (eXCategory.b a0.Base) 0] [] (iv v4))] [0, 6, 84] [(0, .d (.pt (eXFamily.b a0) 0)), (6, .d (.pt (eXFamily.b a0) 0)), (84, .d (bv ((a0.Changes.length : Int) != v4)))] (cc (B := []) (ρ := []) (rB := []) ok122 (impl_Category_isCategory_c a0.Base _ hv1) (.cons (.pass (.ptk (ds := eXFamily.b a0) (ds' := eXCategory.b a0.Base) (off := 0) (n := 5) (by kernel_rfl) (by kernel_rfl) (by kernel_rfl))) .nil) (.inl rfl) (.cons (congrArg (fun b => bv b) (congrArg not h2)) (.cons (congrArg (fun b => bv b) h3) (cc (B := []) (ρ := []) (rB := []) ok173 (impl_Category_arrows_c a0.Base _ hv4) (.cons (.pass (.ptk (ds := eXFamily.b a0) (ds' := eXCategory.b a0.Base) (off := 0) (n := 5) (by kernel_rfl) (by kernel_rfl) (by kernel_rfl))) .nil) (.inl rfl) .nil)))) (by kernel_rfl) (by kernel_rfl) ?_
      rcases Bool.eq_false_or_eq_true ((a0.Changes.length : Int) != v4) with h5 | h5
      · have hM := ite_true' hM h5
        refine tr_condTe (e := (a0.Changes.length : Int) != v4) h5 (by kernel_rfl) ?_
        refine tr_sr hT hm [] [4] [(4, .d (bv false))] .nil (by kernel_rfl) (by kernel_rfl) ?_
        refine tr_ret (q_r (rg_r ?_))
        obtain rfl := Option.some.inj hM
        exact retg (names := []) .nil (by kernel_rfl)
      · have hM := ite_false' hM h5
        refine tr_condFe (e := (a0.Changes.length : Int) != v4) h5 (by kernel_rfl) ?_
        refine tr_skip (q_n ?_)
        refine tr_seq ?_
        refine tr_sr hT hm [] [0, 6, 94, 96] [(0, .d (.pt (eXFamily.b a0) 0)), (6, .d (.pt (eXFamily.b a0) 0)), (94, .d (iv (a0.Fibres.length : Int))), (96, .d (iv 0))] .nil (by kernel_rfl) (by kernel_rfl) ?_
        refine tr_block ?_
        refine tr_iterS (fun (s6 : Int) => [(0, .d (.pt (eXFamily.b a0) 0)), (6, .d (.pt (eXFamily.b a0) 0)), (94, .d (iv (a0.Fibres.length : Int))), (96, .d (iv s6))]) 0 [0, 6, 94, 96] (by kernel_rfl) hM ?_
        intro n9 next7 ih8 s6 hM
        refine tr_sr hT hm [] [0, 6, 94, 96, 98] [(0, .d (.pt (eXFamily.b a0) 0)), (6, .d (.pt (eXFamily.b a0) 0)), (94, .d (iv (a0.Fibres.length : Int))), (96, .d (iv s6)), (98, .d (bv (decide (s6 < (a0.Fibres.length : Int)))))] .nil (by kernel_rfl) (by kernel_rfl) ?_
        refine tr_seq ?_
        rcases Bool.eq_false_or_eq_true (decide (s6 < (a0.Fibres.length : Int))) with h10 | h10
        · have hM := ite_true' hM h10
          refine tr_condTe (e := decide (s6 < (a0.Fibres.length : Int))) h10 (by kernel_rfl) ?_
          refine tr_skip (q_n ?_)
          refine tr_seq ?_
          refine tr_block ?_
          refine tr_sr hT hm [] [0, 6, 8, 94, 96] [(0, .d (.pt (eXFamily.b a0) 0)), (6, .d (.pt (eXFamily.b a0) 0)), (8, .d (iv s6)), (94, .d (iv (a0.Fibres.length : Int))), (96, .d (iv s6))] .nil (by kernel_rfl) (by kernel_rfl) ?_
          obtain ⟨y11, hy11, hM⟩ := bind_some' hM
          have hy11' := idx_some hy11
          obtain ⟨v12, hv12, hM⟩ := bind_some' hM
          refine tr_sr hT hm [(6, .call [] [] [.pt (eXCategory.b y11) 0] [] (bv v12))] [0, 6, 94, 96, 116] [(0, .d (.pt (eXFamily.b a0) 0)), (6, .d (.pt (eXFamily.b a0) 0)), (94, .d (iv (a0.Fibres.length : Int))), (96, .d (iv s6)), (116, .d (bv (!v12)))] (.cons hy11'.1 (.cons hy11'.2.1 (cc (B := []) (ρ := []) (rB := []) ok122 (impl_Category_isCategory_c y11 _ hv12) (.cons (.pass (.el eXCategory_ok hy11'.2.2)) .nil) (.inl rfl) .nil))) (by kernel_rfl) (by kernel_rfl) ?_
          rcases Bool.eq_false_or_eq_true v12 with h13 | h13
          · have hM := ite_true' hM h13
            refine tr_condFe (e := !v12) (congrArg not h13) (by kernel_rfl) ?_
            refine tr_skip (b_n (q_n ?_))
            refine tr_r hT hm [] [0, 6, 94, 96] [(0, .d (.pt (eXFamily.b a0) 0)), (6, .d (.pt (eXFamily.b a0) 0)), (94, .d (iv (a0.Fibres.length : Int))), (96, .d (iv (IntKind.i64.wrap (s6 + 1))))] .nil (by kernel_rfl) (by kernel_rfl) (l_n ?_)
            exact trl_start (ks := [0, 6, 94, 96]) (by kernel_rfl) (ih8 (IntKind.i64.wrap (s6 + 1)) hM)
          · have hM := ite_false' hM h13
            refine tr_condTe (e := !v12) (congrArg not h13) (by kernel_rfl) ?_
            refine tr_sr hT hm [] [4] [(4, .d (bv false))] .nil (by kernel_rfl) (by kernel_rfl) ?_
            refine tr_ret (b_r (q_r (l_r (b_r (q_r (rg_r ?_))))))
            obtain rfl := Option.some.inj hM
            exact retg (names := []) .nil (by kernel_rfl)
        · have hM := ite_false' hM h10
          refine tr_condFe (e := decide (s6 < (a0.Fibres.length : Int))) h10 (by kernel_rfl) ?_
          refine tr_exit (q_x (l_x (b_h (q_n ?_))))
          refine tr_seq ?_
          refine tr_sr hT hm [] [0, 6, 128, 130] [(0, .d (.pt (eXFamily.b a0) 0)), (6, .d (.pt (eXFamily.b a0) 0)), (128, .d (iv (a0.Changes.length : Int))), (130, .d (iv 0))] .nil (by kernel_rfl) (by kernel_rfl) ?_
          refine tr_block ?_
          refine tr_iterS (fun (s14 : Int) => [(0, .d (.pt (eXFamily.b a0) 0)), (6, .d (.pt (eXFamily.b a0) 0)), (128, .d (iv (a0.Changes.length : Int))), (130, .d (iv s14))]) 0 [0, 6, 128, 130] (by kernel_rfl) hM ?_
          intro n17 next15 ih16 s14 hM
          refine tr_sr hT hm [] [0, 6, 128, 130, 132] [(0, .d (.pt (eXFamily.b a0) 0)), (6, .d (.pt (eXFamily.b a0) 0)), (128, .d (iv (a0.Changes.length : Int))), (130, .d (iv s14)), (132, .d (bv (decide (s14 < (a0.Changes.length : Int)))))] .nil (by kernel_rfl) (by kernel_rfl) ?_
          refine tr_seq ?_
          rcases Bool.eq_false_or_eq_true (decide (s14 < (a0.Changes.length : Int))) with h18 | h18
          · have hM := ite_true' hM h18
            refine tr_condTe (e := decide (s14 < (a0.Changes.length : Int))) h18 (by kernel_rfl) ?_
            refine tr_skip (q_n ?_)
            refine tr_seq ?_
            refine tr_block ?_
            refine tr_sr hT hm [] [0, 6, 10, 128, 130] [(0, .d (.pt (eXFamily.b a0) 0)), (6, .d (.pt (eXFamily.b a0) 0)), (10, .d (iv s14)), (128, .d (iv (a0.Changes.length : Int))), (130, .d (iv s14))] .nil (by kernel_rfl) (by kernel_rfl) ?_
            obtain ⟨y19, hy19, hM⟩ := bind_some' hM
            have hy19' := idx_some hy19
            refine tr_sr hT hm [] [0, 6, 10, 12, 128, 130] [(0, .d (.pt (eXFamily.b a0) 0)), (6, .d (.pt (eXFamily.b a0) 0)), (10, .d (iv s14)), (12, .d (.pt (a0.Changes.flatMap eXFunctor.b) (0 + s14.toNat * 12))), (128, .d (iv (a0.Changes.length : Int))), (130, .d (iv s14))] (.cons hy19'.1 (.cons hy19'.2.1 .nil)) (by kernel_rfl) (by kernel_rfl) ?_
            obtain ⟨v20, hv20, hM⟩ := bind_some' hM
            rcases Bool.eq_false_or_eq_true v20 with h21 | h21
            · have hM := ite_true' hM h21
              obtain ⟨y22, hy22, hM⟩ := bind_some' hM
              have hy22' := idx_some hy22
              obtain ⟨y23, hy23, hM⟩ := bind_some' hM
              have hy23' := idx_some hy23
              obtain ⟨v24, hv24, hM⟩ := bind_some' hM
              rcases Bool.eq_false_or_eq_true v24 with h25 | h25
              · have hM := ite_true' hM h25
                obtain ⟨y26, hy26, hM⟩ := bind_some' hM
                have hy26' := idx_some hy26
                obtain ⟨y27, hy27, hM⟩ := bind_some' hM
                have hy27' := idx_some hy27
                obtain ⟨v28, hv28, hM⟩ := bind_some' hM
                refine tr_sr hT hm [(1, .call [] [] [.pt (eXFunctor.b y19) 0] [] (bv v20)), (3, .val (bv false)), (17, .val (iv y22)), (19, .call [] [] [.pt (eXCategory.b y19.Source) 0, .pt (eXCategory.b y23) 0] [] (bv v24)), (22, .val (bv false)), (36, .val (iv y26)), (38, .call [] [] [.pt (eXCategory.b y19.Target) 0, .pt (eXCategory.b y27) 0] [] (bv v28))] [0, 6, 128, 130, 156, 158, 160, 162, 164, 166, 168, 170, 172, 174, 176, 178, 180, 182, 184, 186, 188, 194, 196, 198, 200, 202, 204, 206, 208, 210, 212, 214, 216, 218, 220, 222, 224, 226, 228] [(0, .d (.pt (eXFamily.b a0) 0)), (6, .d (.pt (eXFamily.b a0) 0)), (128, .d (iv (a0.Changes.length : Int))), (130, .d (iv s14)), (156, .d (.pt (a0.Changes.flatMap eXFunctor.b) (0 + s14.toNat * 12))), (158, .d (.pt (a0.Changes.flatMap eXFunctor.b) (0 + s14.toNat * 12))), (160, .d (.pt (a0.Changes.flatMap eXFunctor.b) (0 + s14.toNat * 12))), (162, .d (.pt (eXFamily.b a0) 0)), (164, .d (.pt (eXFamily.b a0) 0)), (166, .d (.pt (eXFamily.b a0) 5)), (168, .d (.sl a0.Fibres.length 0 (a0.Fibres.flatMap eXCategory.b))), (170, .d (.pt (eXFamily.b a0) 0)), (172, .d (.pt (eXFamily.b a0) 0)), (174, .d (.pt (eXFamily.b a0) 1)), (176, .d (.sl a0.Base.From.length 0 (a0.Base.From.flatMap eI.b))), (178, .d (iv s14)), (180, .d (.pt (a0.Base.From.flatMap eI.b) (0 + s14.toNat * 1))), (182, .d (iv y22)), (184, .d (.pt (a0.Fibres.flatMap eXCategory.b) (0 + y22.toNat * 5))), (186, .d (bv v24)), (188, .d (bv (!v24))), (194, .d (.pt (a0.Changes.flatMap eXFunctor.b) (0 + s14.toNat * 12))), (196, .d (.pt (a0.Changes.flatMap eXFunctor.b) (0 + s14.toNat * 12))), (198, .d (.pt (a0.Changes.flatMap eXFunctor.b) (0 + s14.toNat * 12 + 5))), (200, .d (.pt (eXFamily.b a0) 0)), (202, .d (.pt (eXFamily.b a0) 0)), (204, .d (.pt (eXFamily.b a0) 5)), (206, .d (.sl a0.Fibres.length 0 (a0.Fibres.flatMap eXCategory.b))), (208, .d (.pt (eXFamily.b a0) 0)), (210, .d (.pt (eXFamily.b a0) 0)), (212, .d (.pt (eXFamily.b a0) 2)), (214, .d (.sl a0.Base.To.length 0 (a0.Base.To.flatMap eI.b))), (216, .d (iv s14)), (218, .d (.pt (a0.Base.To.flatMap eI.b) (0 + s14.toNat * 1))), (220, .d (iv y26)), (222, .d (.pt (a0.Fibres.flatMap eXCategory.b) (0 + y26.toNat * 5))), (224, .d (bv v28)), (226, .d (bv (!v28))), (228, .d (bv (!v28)))] (cc (B := []) (ρ := []) (rB := []) ok82 (impl_Functor_isFunctor_c y19 _ hv20) (.cons (.pass (.el eXFunctor_ok hy19'.2.2)) .nil) (.inl rfl) (.cons (congrArg (fun b => bv b) (congrArg not h21)) (.cons hy22'.1 (.cons hy22'.2.1 (.cons (at_b0 eI_ok hy22'.2.2 (d := iv y22) (by kernel_rfl)) (.cons hy23'.1 (.cons hy23'.2.1 (cc (B := []) (ρ := []) (rB := []) ok101 (impl_sameCategory_c y19.Source y23 _ hv24) (.cons (.pass (.elf (j := 0) (n := 5) (ds := eXCategory.b y19.Source) eXFunctor_ok hy19'.2.2 (by kernel_rfl) (by kernel_rfl))) (.cons (.pass (.el eXCategory_ok hy23'.2.2)) .nil)) (.inl rfl) (.cons (congrArg (fun b => bv b) (congrArg not h25)) (.cons hy26'.1 (.cons hy26'.2.1 (.cons (at_b0 eI_ok hy26'.2.2 (d := iv y26) (by kernel_rfl)) (.cons hy27'.1 (.cons hy27'.2.1 (cc (B := []) (ρ := []) (rB := []) ok101 (impl_sameCategory_c y19.Target y27 _ hv28) (.cons (.pass (.elf (j := 5) (n := 5) (ds := eXCategory.b y19.Target) eXFunctor_ok hy19'.2.2 (by kernel_rfl) (by kernel_rfl))) (.cons (.pass (.el eXCategory_ok hy27'.2.2)) .nil)) (.inl rfl) .nil))))))))))))))) (by kernel_rfl) (by kernel_rfl) ?_
                rcases Bool.eq_false_or_eq_true v28 with h29 | h29
                · have hM := ite_true' hM h29
                  refine tr_condFe (e := !v28) (congrArg not h29) (by kernel_rfl) ?_
                  refine tr_skip (b_n (q_n ?_))
                  refine tr_r hT hm [] [0, 6, 128, 130, 156, 158, 160, 162, 164, 166, 168, 170, 172, 174, 176, 178, 180, 182, 184, 186, 188, 194, 196, 198, 200, 202, 204, 206, 208, 210, 212, 214, 216, 218, 220, 222, 224, 226] [(0, .d (.pt (eXFamily.b a0) 0)), (6, .d (.pt (eXFamily.b a0) 0)), (128, .d (iv (a0.Changes.length : Int))), (130, .d (iv (IntKind.i64.wrap (s14 + 1)))), (156, .d (.pt (a0.Changes.flatMap eXFunctor.b) (0 + s14.toNat * 12))), (158, .d (.pt (a0.Changes.flatMap eXFunctor.b) (0 + s14.toNat * 12))), (160, .d (.pt (a0.Changes.flatMap eXFunctor.b) (0 + s14.toNat * 12))), (162, .d (.pt (eXFamily.b a0) 0)), (164, .d (.pt (eXFamily.b a0) 0)), (166, .d (.pt (eXFamily.b a0) 5)), (168, .d (.sl a0.Fibres.length 0 (a0.Fibres.flatMap eXCategory.b))), (170, .d (.pt (eXFamily.b a0) 0)), (172, .d (.pt (eXFamily.b a0) 0)), (174, .d (.pt (eXFamily.b a0) 1)), (176, .d (.sl a0.Base.From.length 0 (a0.Base.From.flatMap eI.b))), (178, .d (iv s14)), (180, .d (.pt (a0.Base.From.flatMap eI.b) (0 + s14.toNat * 1))), (182, .d (iv y22)), (184, .d (.pt (a0.Fibres.flatMap eXCategory.b) (0 + y22.toNat * 5))), (186, .d (bv v24)), (188, .d (bv (!v24))), (194, .d (.pt (a0.Changes.flatMap eXFunctor.b) (0 + s14.toNat * 12))), (196, .d (.pt (a0.Changes.flatMap eXFunctor.b) (0 + s14.toNat * 12))), (198, .d (.pt (a0.Changes.flatMap eXFunctor.b) (0 + s14.toNat * 12 + 5))), (200, .d (.pt (eXFamily.b a0) 0)), (202, .d (.pt (eXFamily.b a0) 0)), (204, .d (.pt (eXFamily.b a0) 5)), (206, .d (.sl a0.Fibres.length 0 (a0.Fibres.flatMap eXCategory.b))), (208, .d (.pt (eXFamily.b a0) 0)), (210, .d (.pt (eXFamily.b a0) 0)), (212, .d (.pt (eXFamily.b a0) 2)), (214, .d (.sl a0.Base.To.length 0 (a0.Base.To.flatMap eI.b))), (216, .d (iv s14)), (218, .d (.pt (a0.Base.To.flatMap eI.b) (0 + s14.toNat * 1))), (220, .d (iv y26)), (222, .d (.pt (a0.Fibres.flatMap eXCategory.b) (0 + y26.toNat * 5))), (224, .d (bv v28)), (226, .d (bv (!v28)))] .nil (by kernel_rfl) (by kernel_rfl) (l_n ?_)
                  exact trl_start (ks := [0, 6, 128, 130]) (by kernel_rfl) (ih16 (IntKind.i64.wrap (s14 + 1)) hM)
                · have hM := ite_false' hM h29
                  refine tr_condTe (e := !v28) (congrArg not h29) (by kernel_rfl) ?_
                  refine tr_sr hT hm [] [4] [(4, .d (bv false))] .nil (by kernel_rfl) (by kernel_rfl) ?_
                  refine tr_ret (b_r (q_r (l_r (b_r (q_r (rg_r ?_))))))
                  obtain rfl := Option.some.inj hM
                  exact retg (names := []) .nil (by kernel_rfl)
              · have hM := ite_false' hM h25
                refine tr_sr hT hm [(1, .call [] [] [.pt (eXFunctor.b y19) 0] [] (bv v20)), (3, .val (bv false)), (17, .val (iv y22)), (19, .call [] [] [.pt (eXCategory.b y19.Source) 0, .pt (eXCategory.b y23) 0] [] (bv v24)), (22, .val (bv true))] [0, 6, 128, 130, 156, 158, 160, 162, 164, 166, 168, 170, 172, 174, 176, 178, 180, 182, 184, 186, 188, 228] [(0, .d (.pt (eXFamily.b a0) 0)), (6, .d (.pt (eXFamily.b a0) 0)), (128, .d (iv (a0.Changes.length : Int))), (130, .d (iv s14)), (156, .d (.pt (a0.Changes.flatMap eXFunctor.b) (0 + s14.toNat * 12))), (158, .d (.pt (a0.Changes.flatMap eXFunctor.b) (0 + s14.toNat * 12))), (160, .d (.pt (a0.Changes.flatMap eXFunctor.b) (0 + s14.toNat * 12))), (162, .d (.pt (eXFamily.b a0) 0)), (164, .d (.pt (eXFamily.b a0) 0)), (166, .d (.pt (eXFamily.b a0) 5)), (168, .d (.sl a0.Fibres.length 0 (a0.Fibres.flatMap eXCategory.b))), (170, .d (.pt (eXFamily.b a0) 0)), (172, .d (.pt (eXFamily.b a0) 0)), (174, .d (.pt (eXFamily.b a0) 1)), (176, .d (.sl a0.Base.From.length 0 (a0.Base.From.flatMap eI.b))), (178, .d (iv s14)), (180, .d (.pt (a0.Base.From.flatMap eI.b) (0 + s14.toNat * 1))), (182, .d (iv y22)), (184, .d (.pt (a0.Fibres.flatMap eXCategory.b) (0 + y22.toNat * 5))), (186, .d (bv v24)), (188, .d (bv (!v24))), (228, .d (bv true))] (cc (B := []) (ρ := []) (rB := []) ok82 (impl_Functor_isFunctor_c y19 _ hv20) (.cons (.pass (.el eXFunctor_ok hy19'.2.2)) .nil) (.inl rfl) (.cons (congrArg (fun b => bv b) (congrArg not h21)) (.cons hy22'.1 (.cons hy22'.2.1 (.cons (at_b0 eI_ok hy22'.2.2 (d := iv y22) (by kernel_rfl)) (.cons hy23'.1 (.cons hy23'.2.1 (cc (B := []) (ρ := []) (rB := []) ok101 (impl_sameCategory_c y19.Source y23 _ hv24) (.cons (.pass (.elf (j := 0) (n := 5) (ds := eXCategory.b y19.Source) eXFunctor_ok hy19'.2.2 (by kernel_rfl) (by kernel_rfl))) (.cons (.pass (.el eXCategory_ok hy23'.2.2)) .nil)) (.inl rfl) (.cons (congrArg (fun b => bv b) (congrArg not h25)) .nil))))))))) (by kernel_rfl) (by kernel_rfl) ?_
                refine tr_condT (by kernel_rfl) ?_
                refine tr_sr hT hm [] [4] [(4, .d (bv false))] .nil (by kernel_rfl) (by kernel_rfl) ?_
                refine tr_ret (b_r (q_r (l_r (b_r (q_r (rg_r ?_))))))
                obtain rfl := Option.some.inj hM
                exact retg (names := []) .nil (by kernel_rfl)
            · have hM := ite_false' hM h21
              refine tr_sr hT hm [(1, .call [] [] [.pt (eXFunctor.b y19) 0] [] (bv v20)), (3, .val (bv true))] [0, 6, 128, 130, 228] [(0, .d (.pt (eXFamily.b a0) 0)), (6, .d (.pt (eXFamily.b a0) 0)), (128, .d (iv (a0.Changes.length : Int))), (130, .d (iv s14)), (228, .d (bv true))] (cc (B := []) (ρ := []) (rB := []) ok82 (impl_Functor_isFunctor_c y19 _ hv20) (.cons (.pass (.el eXFunctor_ok hy19'.2.2)) .nil) (.inl rfl) (.cons (congrArg (fun b => bv b) (congrArg not h21)) .nil)) (by kernel_rfl) (by kernel_rfl) ?_
              refine tr_condT (by kernel_rfl) ?_
              refine tr_sr hT hm [] [4] [(4, .d (bv false))] .nil (by kernel_rfl) (by kernel_rfl) ?_
              refine tr_ret (b_r (q_r (l_r (b_r (q_r (rg_r ?_))))))
              obtain rfl := Option.some.inj hM
              exact retg (names := []) .nil (by kernel_rfl)
          · have hM := ite_false' hM h18
            refine tr_condFe (e := decide (s14 < (a0.Changes.length : Int))) h18 (by kernel_rfl) ?_
            refine tr_exit (q_x (l_x (b_h (q_n ?_))))
            refine tr_seq ?_
            refine tr_sr hT hm [] [0, 6, 238, 240, 242] [(0, .d (.pt (eXFamily.b a0) 0)), (6, .d (.pt (eXFamily.b a0) 0)), (238, .d (.sl a0.Base.Identity.length 0 (a0.Base.Identity.flatMap eI.b))), (240, .d (iv (a0.Base.Identity.length : Int))), (242, .d (iv 0))] .nil (by kernel_rfl) (by kernel_rfl) ?_
            refine tr_block ?_
            refine tr_iterS (fun (s30 : Int) => [(0, .d (.pt (eXFamily.b a0) 0)), (6, .d (.pt (eXFamily.b a0) 0)), (238, .d (.sl a0.Base.Identity.length 0 (a0.Base.Identity.flatMap eI.b))), (240, .d (iv (a0.Base.Identity.length : Int))), (242, .d (iv s30))]) 0 [0, 6, 238, 240, 242] (by kernel_rfl) hM ?_
            intro n33 next31 ih32 s30 hM
            refine tr_sr hT hm [] [0, 6, 238, 240, 242, 244] [(0, .d (.pt (eXFamily.b a0) 0)), (6, .d (.pt (eXFamily.b a0) 0)), (238, .d (.sl a0.Base.Identity.length 0 (a0.Base.Identity.flatMap eI.b))), (240, .d (iv (a0.Base.Identity.length : Int))), (242, .d (iv s30)), (244, .d (bv (decide (s30 < (a0.Base.Identity.length : Int)))))] .nil (by kernel_rfl) (by kernel_rfl) ?_
            refine tr_seq ?_
            rcases Bool.eq_false_or_eq_true (decide (s30 < (a0.Base.Identity.length : Int))) with h34 | h34
            · have hM := ite_true' hM h34
              refine tr_condTe (e := decide (s30 < (a0.Base.Identity.length : Int))) h34 (by kernel_rfl) ?_
              refine tr_skip (q_n ?_)
              refine tr_seq ?_
              refine tr_block ?_
              obtain ⟨y35, hy35, hM⟩ := bind_some' hM
              have hy35' := idx_some hy35
              refine tr_sr hT hm [(2, .val (iv y35))] [0, 6, 14, 16, 238, 240, 242] [(0, .d (.pt (eXFamily.b a0) 0)), (6, .d (.pt (eXFamily.b a0) 0)), (14, .d (iv s30)), (16, .d (iv y35)), (238, .d (.sl a0.Base.Identity.length 0 (a0.Base.Identity.flatMap eI.b))), (240, .d (iv (a0.Base.Identity.length : Int))), (242, .d (iv s30))] (.cons hy35'.1 (.cons hy35'.2.1 (.cons (at_b0 eI_ok hy35'.2.2 (d := iv y35) (by kernel_rfl)) .nil))) (by kernel_rfl) (by kernel_rfl) ?_
              obtain ⟨y36, hy36, hM⟩ := bind_some' hM
              have hy36' := idx_some hy36
              obtain ⟨v37, hv37, hM⟩ := bind_some' hM
              refine tr_sr hT hm [(6, .call [] [] [.pt (eXCategory.b y36) 0] [] (.agg (eXFunctor.o v37)))] [0, 6, 16, 18, 238, 240, 242, 2019, 268003, 268005, 268007, 268009, 268013, 268015, 268017, 268019, 268021, 268023] ([(0, .d (.pt (eXFamily.b a0) 0)), (6, .d (.pt (eXFamily.b a0) 0)), (16, .d (iv y35)), (18, .d (.rp 1009 0)), (238, .d (.sl a0.Base.Identity.length 0 (a0.Base.Identity.flatMap eI.b))), (240, .d (iv (a0.Base.Identity.length : Int))), (242, .d (iv s30)), bxO 2019 134000 (eXFunctor.o v37)] ++ rsS 134000 (eXFunctor.o v37)) (.cons hy36'.1 (.cons hy36'.2.1 (cc (B := []) (ρ := []) (rB := []) ok197 (impl_identity_c y36 _ hv37) (.cons (.pass (.el eXCategory_ok hy36'.2.2)) .nil) (.inl rfl) (.cons (Nat.le_of_ble_eq_true (n := 12) (m := 12) rfl) .nil)))) (by kernel_rfl) (by kernel_rfl) ?_
              obtain ⟨y38, hy38, hM⟩ := bind_some' hM
              have hy38' := idx_some hy38
              obtain ⟨v39, hv39, hM⟩ := bind_some' hM
              refine tr_sr hT hm [(6, .call ([1009] ++ rsR 134000 (eXFunctor.o v37)) [] [.pt (eXFunctor.b y38) 0, .pt (eXFunctor.b v37) 0] [] (bv v39))] [0, 6, 238, 240, 242, 280] [(0, .d (.pt (eXFamily.b a0) 0)), (6, .d (.pt (eXFamily.b a0) 0)), (238, .d (.sl a0.Base.Identity.length 0 (a0.Base.Identity.flatMap eI.b))), (240, .d (iv (a0.Base.Identity.length : Int))), (242, .d (iv s30)), (280, .d (bv (!v39)))] (.cons hy38'.1 (.cons hy38'.2.1 (cc (B := ([1009] ++ rsR 134000 (eXFunctor.o v37))) (ρ := []) (rB := ([(1009, .arr 1 [iv v37.Source.Objects, .rs 134001 0 v37.Source.From.length, .rs 134002 0 v37.Source.To.length, .rs 134003 0 v37.Source.Identity.length, .rs 134004 0 v37.Source.Composites.length, iv v37.Target.Objects, .rs 134006 0 v37.Target.From.length, .rs 134007 0 v37.Target.To.length, .rs 134008 0 v37.Target.Identity.length, .rs 134009 0 v37.Target.Composites.length, .rs 134010 0 v37.Objects.length, .rs 134011 0 v37.Arrows.length] [134001, 134002, 134003, 134004, 134006, 134007, 134008, 134009, 134010, 134011])] ++ rsP 134000 (eXFunctor.o v37))) ok198 (impl_sameFunctor_c y38 v37 _ hv39) (.cons (.pass (.el eXFunctor_ok hy38'.2.2)) (.cons (.of1 (.rp (r := 1009) (sz := 1) (cells := [iv v37.Source.Objects, .rs 134001 0 v37.Source.From.length, .rs 134002 0 v37.Source.To.length, .rs 134003 0 v37.Source.Identity.length, .rs 134004 0 v37.Source.Composites.length, iv v37.Target.Objects, .rs 134006 0 v37.Target.From.length, .rs 134007 0 v37.Target.To.length, .rs 134008 0 v37.Target.Identity.length, .rs 134009 0 v37.Target.Composites.length, .rs 134010 0 v37.Objects.length, .rs 134011 0 v37.Arrows.length]) (refs := [134001, 134002, 134003, 134004, 134006, 134007, 134008, 134009, 134010, 134011]) (memB (by kernel_rfl)) (by kernel_rfl) (.cons .v (.cons (.rs (r := 134001) (sz := 1) (refs := []) (memB (by kernel_rfl)) (by kernel_rfl) (bor_flat eI_ok _ _ _)) (.cons (.rs (r := 134002) (sz := 1) (refs := []) (memB (by kernel_rfl)) (by kernel_rfl) (bor_flat eI_ok _ _ _)) (.cons (.rs (r := 134003) (sz := 1) (refs := []) (memB (by kernel_rfl)) (by kernel_rfl) (bor_flat eI_ok _ _ _)) (.cons (.rs (r := 134004) (sz := 1) (refs := []) (memB (by kernel_rfl)) (by kernel_rfl) (bor_flat (eS_ok eI_ok) _ _ _)) (.cons .v (.cons (.rs (r := 134006) (sz := 1) (refs := []) (memB (by kernel_rfl)) (by kernel_rfl) (bor_flat eI_ok _ _ _)) (.cons (.rs (r := 134007) (sz := 1) (refs := []) (memB (by kernel_rfl)) (by kernel_rfl) (bor_flat eI_ok _ _ _)) (.cons (.rs (r := 134008) (sz := 1) (refs := []) (memB (by kernel_rfl)) (by kernel_rfl) (bor_flat eI_ok _ _ _)) (.cons (.rs (r := 134009) (sz := 1) (refs := []) (memB (by kernel_rfl)) (by kernel_rfl) (bor_flat (eS_ok eI_ok) _ _ _)) (.cons (.rs (r := 134010) (sz := 1) (refs := []) (memB (by kernel_rfl)) (by kernel_rfl) (bor_flat eI_ok _ _ _)) (.cons (.rs (r := 134011) (sz := 1) (refs := []) (memB (by kernel_rfl)) (by kernel_rfl) (bor_flat eI_ok _ _ _)) .nil)))))))))))))) .nil)) (.inr ⟨.v, trivial⟩) .nil))) (by kernel_rfl) (by kernel_rfl) ?_
              rcases Bool.eq_false_or_eq_true v39 with h40 | h40
              · have hM := ite_true' hM h40
                refine tr_condFe (e := !v39) (congrArg not h40) (by kernel_rfl) ?_
                refine tr_skip (b_n (q_n ?_))
                refine tr_r hT hm [] [0, 6, 238, 240, 242] [(0, .d (.pt (eXFamily.b a0) 0)), (6, .d (.pt (eXFamily.b a0) 0)), (238, .d (.sl a0.Base.Identity.length 0 (a0.Base.Identity.flatMap eI.b))), (240, .d (iv (a0.Base.Identity.length : Int))), (242, .d (iv (IntKind.i64.wrap (s30 + 1))))] .nil (by kernel_rfl) (by kernel_rfl) (l_n ?_)
                exact trl_start (ks := [0, 6, 238, 240, 242]) (by kernel_rfl) (ih32 (IntKind.i64.wrap (s30 + 1)) hM)
              · have hM := ite_false' hM h40
                refine tr_condTe (e := !v39) (congrArg not h40) (by kernel_rfl) ?_
                refine tr_sr hT hm [] [4] [(4, .d (bv false))] .nil (by kernel_rfl) (by kernel_rfl) ?_
                refine tr_ret (b_r (q_r (l_r (b_r (q_r (rg_r ?_))))))
                obtain rfl := Option.some.inj hM
                exact retg (names := []) .nil (by kernel_rfl)
            · have hM := ite_false' hM h34
              refine tr_condFe (e := decide (s30 < (a0.Base.Identity.length : Int))) h34 (by kernel_rfl) ?_
              refine tr_exit (q_x (l_x (b_h (q_n ?_))))
              refine tr_seq ?_
              refine tr_sr hT hm [] [0, 290, 292, 294] [(0, .d (.pt (eXFamily.b a0) 0)), (290, .d (.sl a0.Base.Composites.length 0 (a0.Base.Composites.flatMap (eS eI).b))), (292, .d (iv (a0.Base.Composites.length : Int))), (294, .d (iv 0))] .nil (by kernel_rfl) (by kernel_rfl) ?_
              refine tr_block ?_
              refine tr_iterS (fun (s41 : Int) => [(0, .d (.pt (eXFamily.b a0) 0)), (290, .d (.sl a0.Base.Composites.length 0 (a0.Base.Composites.flatMap (eS eI).b))), (292, .d (iv (a0.Base.Composites.length : Int))), (294, .d (iv s41))]) 0 [0, 290, 292, 294] (by kernel_rfl) hM ?_
              intro n44 next42 ih43 s41 hM
              refine tr_sr hT hm [] [0, 290, 292, 294, 296] [(0, .d (.pt (eXFamily.b a0) 0)), (290, .d (.sl a0.Base.Composites.length 0 (a0.Base.Composites.flatMap (eS eI).b))), (292, .d (iv (a0.Base.Composites.length : Int))), (294, .d (iv s41)), (296, .d (bv (decide (s41 < (a0.Base.Composites.length : Int)))))] .nil (by kernel_rfl) (by kernel_rfl) ?_
              refine tr_seq ?_
              rcases Bool.eq_false_or_eq_true (decide (s41 < (a0.Base.Composites.length : Int))) with h45 | h45
              · have hM := ite_true' hM h45
                refine tr_condTe (e := decide (s41 < (a0.Base.Composites.length : Int))) h45 (by kernel_rfl) ?_
                refine tr_skip (q_n ?_)
                refine tr_seq ?_
                refine tr_block ?_
                obtain ⟨y46, hy46, hM⟩ := bind_some' hM
                have hy46' := idx_some hy46
                refine tr_sr hT hm [(2, .val (.sl y46.length 0 (y46.flatMap eI.b)))] [0, 20, 22, 290, 292, 294] [(0, .d (.pt (eXFamily.b a0) 0)), (20, .d (iv s41)), (22, .d (.sl y46.length 0 (y46.flatMap eI.b))), (290, .d (.sl a0.Base.Composites.length 0 (a0.Base.Composites.flatMap (eS eI).b))), (292, .d (iv (a0.Base.Composites.length : Int))), (294, .d (iv s41))] (.cons hy46'.1 (.cons hy46'.2.1 (.cons (at_b0 (eS_ok eI_ok) hy46'.2.2 (d := .sl y46.length 0 (y46.flatMap eI.b)) (by kernel_rfl)) .nil))) (by kernel_rfl) (by kernel_rfl) ?_
                refine tr_sr hT hm [] [0, 20, 290, 292, 294, 304, 306, 308] [(0, .d (.pt (eXFamily.b a0) 0)), (20, .d (iv s41)), (290, .d (.sl a0.Base.Composites.length 0 (a0.Base.Composites.flatMap (eS eI).b))), (292, .d (iv (a0.Base.Composites.length : Int))), (294, .d (iv s41)), (304, .d (.sl y46.length 0 (y46.flatMap eI.b))), (306, .d (iv (y46.length : Int))), (308, .d (iv 0))] .nil (by kernel_rfl) (by kernel_rfl) ?_
                refine tr_block ?_
                refine tr_iterS (fun (s47 : Int) => [(0, .d (.pt (eXFamily.b a0) 0)), (20, .d (iv s41)), (290, .d (.sl a0.Base.Composites.length 0 (a0.Base.Composites.flatMap (eS eI).b))), (292, .d (iv (a0.Base.Composites.length : Int))), (294, .d (iv s41)), (304, .d (.sl y46.length 0 (y46.flatMap eI.b))), (306, .d (iv (y46.length : Int))), (308, .d (iv s47))]) 0 [0, 20, 290, 292, 294, 304, 306, 308] (by kernel_rfl) hM ?_
                intro n50 next48 ih49 s47 hM
                refine tr_sr hT hm [] [0, 20, 290, 292, 294, 304, 306, 308, 310] [(0, .d (.pt (eXFamily.b a0) 0)), (20, .d (iv s41)), (290, .d (.sl a0.Base.Composites.length 0 (a0.Base.Composites.flatMap (eS eI).b))), (292, .d (iv (a0.Base.Composites.length : Int))), (294, .d (iv s41)), (304, .d (.sl y46.length 0 (y46.flatMap eI.b))), (306, .d (iv (y46.length : Int))), (308, .d (iv s47)), (310, .d (bv (decide (s47 < (y46.length : Int)))))] .nil (by kernel_rfl) (by kernel_rfl) ?_
                refine tr_seq ?_
                rcases Bool.eq_false_or_eq_true (decide (s47 < (y46.length : Int))) with h51 | h51
                · have hM := ite_true' hM h51
                  refine tr_condTe (e := decide (s47 < (y46.length : Int))) h51 (by kernel_rfl) ?_
                  refine tr_skip (q_n ?_)
                  refine tr_seq ?_
                  refine tr_block ?_
                  obtain ⟨y52, hy52, hM⟩ := bind_some' hM
                  have hy52' := idx_some hy52
                  refine tr_sr hT hm [(2, .val (iv y52))] [0, 20, 24, 26, 290, 292, 294, 304, 306, 308] [(0, .d (.pt (eXFamily.b a0) 0)), (20, .d (iv s41)), (24, .d (iv s47)), (26, .d (iv y52)), (290, .d (.sl a0.Base.Composites.length 0 (a0.Base.Composites.flatMap (eS eI).b))), (292, .d (iv (a0.Base.Composites.length : Int))), (294, .d (iv s41)), (304, .d (.sl y46.length 0 (y46.flatMap eI.b))), (306, .d (iv (y46.length : Int))), (308, .d (iv s47))] (.cons hy52'.1 (.cons hy52'.2.1 (.cons (at_b0 eI_ok hy52'.2.2 (d := iv y52) (by kernel_rfl)) .nil))) (by kernel_rfl) (by kernel_rfl) ?_
                  refine tr_seq ?_
                  refine tr_sr hT hm [] [0, 20, 24, 26, 290, 292, 294, 304, 306, 308, 320] [(0, .d (.pt (eXFamily.b a0) 0)), (20, .d (iv s41)), (24, .d (iv s47)), (26, .d (iv y52)), (290, .d (.sl a0.Base.Composites.length 0 (a0.Base.Composites.flatMap (eS eI).b))), (292, .d (iv (a0.Base.Composites.length : Int))), (294, .d (iv s41)), (304, .d (.sl y46.length 0 (y46.flatMap eI.b))), (306, .d (iv (y46.length : Int))), (308, .d (iv s47)), (320, .d (bv (decide (y52 < 0))))] .nil (by kernel_rfl) (by kernel_rfl) ?_
                  rcases Bool.eq_false_or_eq_true (decide (y52 < 0)) with h53 | h53
                  · have hM := ite_true' hM h53
                    refine tr_condTe (e := decide (y52 < 0)) h53 (by kernel_rfl) ?_
                    refine tr_exit (q_x (b_h (q_n ?_)))
                    refine tr_r hT hm [] [0, 20, 290, 292, 294, 304, 306, 308] [(0, .d (.pt (eXFamily.b a0) 0)), (20, .d (iv s41)), (290, .d (.sl a0.Base.Composites.length 0 (a0.Base.Composites.flatMap (eS eI).b))), (292, .d (iv (a0.Base.Composites.length : Int))), (294, .d (iv s41)), (304, .d (.sl y46.length 0 (y46.flatMap eI.b))), (306, .d (iv (y46.length : Int))), (308, .d (iv (IntKind.i64.wrap (s47 + 1))))] .nil (by kernel_rfl) (by kernel_rfl) (l_n ?_)
                    exact trl_start (ks := [0, 20, 290, 292, 294, 304, 306, 308]) (by kernel_rfl) (ih49 (IntKind.i64.wrap (s47 + 1)) hM)
                  · have hM := ite_false' hM h53
                    refine tr_condFe (e := decide (y52 < 0)) h53 (by kernel_rfl) ?_
                    refine tr_skip (q_n ?_)
                    obtain ⟨y54, hy54, hM⟩ := bind_some' hM
                    have hy54' := idx_some hy54
                    obtain ⟨y55, hy55, hM⟩ := bind_some' hM
                    have hy55' := idx_some hy55
                    obtain ⟨v56, hv56, hM⟩ := bind_some' hM
                    refine tr_sr hT hm [(12, .call [] [] [.pt (eXFunctor.b y54) 0, .pt (eXFunctor.b y55) 0] [] (.agg (eXFunctor.o v56)))] [0, 20, 26, 28, 290, 292, 294, 304, 306, 308, 2029, 350003, 350005, 350007, 350009, 350013, 350015, 350017, 350019, 350021, 350023] ([(0, .d (.pt (eXFamily.b a0) 0)), (20, .d (iv s41)), (26, .d (iv y52)), (28, .d (.rp 1014 0)), (290, .d (.sl a0.Base.Composites.length 0 (a0.Base.Composites.flatMap (eS eI).b))), (292, .d (iv (a0.Base.Composites.length : Int))), (294, .d (iv s41)), (304, .d (.sl y46.length 0 (y46.flatMap eI.b))), (306, .d (iv (y46.length : Int))), (308, .d (iv s47)), bxO 2029 175000 (eXFunctor.o v56)] ++ rsS 175000 (eXFunctor.o v56)) (.cons hy54'.1 (.cons hy54'.2.1 (.cons hy55'.1 (.cons hy55'.2.1 (cc (B := []) (ρ := []) (rB := []) ok199 (impl_Functor_then_c y54 y55 _ hv56) (.cons (.pass (.el eXFunctor_ok hy54'.2.2)) (.cons (.pass (.el eXFunctor_ok hy55'.2.2)) .nil)) (.inl rfl) (.cons (Nat.le_of_ble_eq_true (n := 12) (m := 12) rfl) .nil)))))) (by kernel_rfl) (by kernel_rfl) ?_
                    obtain ⟨y57, hy57, hM⟩ := bind_some' hM
                    have hy57' := idx_some hy57
                    obtain ⟨v58, hv58, hM⟩ := bind_some' hM
                    refine tr_sr hT hm [(6, .call ([1014] ++ rsR 175000 (eXFunctor.o v56)) [] [.pt (eXFunctor.b y57) 0, .pt (eXFunctor.b v56) 0] [] (bv v58))] [0, 20, 290, 292, 294, 304, 306, 308, 362] [(0, .d (.pt (eXFamily.b a0) 0)), (20, .d (iv s41)), (290, .d (.sl a0.Base.Composites.length 0 (a0.Base.Composites.flatMap (eS eI).b))), (292, .d (iv (a0.Base.Composites.length : Int))), (294, .d (iv s41)), (304, .d (.sl y46.length 0 (y46.flatMap eI.b))), (306, .d (iv (y46.length : Int))), (308, .d (iv s47)), (362, .d (bv (!v58)))] (.cons hy57'.1 (.cons hy57'.2.1 (cc (B := ([1014] ++ rsR 175000 (eXFunctor.o v56))) (ρ := []) (rB := ([(1014, .arr 1 [iv v56.Source.Objects, .rs 175001 0 v56.Source.From.length, .rs 175002 0 v56.Source.To.length, .rs 175003 0 v56.Source.Identity.length, .rs 175004 0 v56.Source.Composites.length, iv v56.Target.Objects, .rs 175006 0 v56.Target.From.length, .rs 175007 0 v56.Target.To.length, .rs 175008 0 v56.Target.Identity.length, .rs 175009 0 v56.Target.Composites.length, .rs 175010 0 v56.Objects.length, .rs 175011 0 v56.Arrows.length] [175001, 175002, 175003, 175004, 175006, 175007, 175008, 175009, 175010, 175011])] ++ rsP 175000 (eXFunctor.o v56))) ok198 (impl_sameFunctor_c y57 v56 _ hv58) (.cons (.pass (.el eXFunctor_ok hy57'.2.2)) (.cons (.of1 (.rp (r := 1014) (sz := 1) (cells := [iv v56.Source.Objects, .rs 175001 0 v56.Source.From.length, .rs 175002 0 v56.Source.To.length, .rs 175003 0 v56.Source.Identity.length, .rs 175004 0 v56.Source.Composites.length, iv v56.Target.Objects, .rs 175006 0 v56.Target.From.length, .rs 175007 0 v56.Target.To.length, .rs 175008 0 v56.Target.Identity.length, .rs 175009 0 v56.Target.Composites.length, .rs 175010 0 v56.Objects.length, .rs 175011 0 v56.Arrows.length]) (refs := [175001, 175002, 175003, 175004, 175006, 175007, 175008, 175009, 175010, 175011]) (memB (by kernel_rfl)) (by kernel_rfl) (.cons .v (.cons (.rs (r := 175001) (sz := 1) (refs := []) (memB (by kernel_rfl)) (by kernel_rfl) (bor_flat eI_ok _ _ _)) (.cons (.rs (r := 175002) (sz := 1) (refs := []) (memB (by kernel_rfl)) (by kernel_rfl) (bor_flat eI_ok _ _ _)) (.cons (.rs (r := 175003) (sz := 1) (refs := []) (memB (by kernel_rfl)) (by kernel_rfl) (bor_flat eI_ok _ _ _)) (.cons (.rs (r := 175004) (sz := 1) (refs := []) (memB (by kernel_rfl)) (by kernel_rfl) (bor_flat (eS_ok eI_ok) _ _ _)) (.cons .v (.cons (.rs (r := 175006) (sz := 1) (refs := []) (memB (by kernel_rfl)) (by kernel_rfl) (bor_flat eI_ok _ _ _)) (.cons (.rs (r := 175007) (sz := 1) (refs := []) (memB (by kernel_rfl)) (by kernel_rfl) (bor_flat eI_ok _ _ _)) (.cons (.rs (r := 175008) (sz := 1) (refs := []) (memB (by kernel_rfl)) (by kernel_rfl) (bor_flat eI_ok _ _ _)) (.cons (.rs (r := 175009) (sz := 1) (refs := []) (memB (by kernel_rfl)) (by kernel_rfl) (bor_flat (eS_ok eI_ok) _ _ _)) (.cons (.rs (r := 175010) (sz := 1) (refs := []) (memB (by kernel_rfl)) (by kernel_rfl) (bor_flat eI_ok _ _ _)) (.cons (.rs (r := 175011) (sz := 1) (refs := []) (memB (by kernel_rfl)) (by kernel_rfl) (bor_flat eI_ok _ _ _)) .nil)))))))))))))) .nil)) (.inr ⟨.v, trivial⟩) .nil))) (by kernel_rfl) (by kernel_rfl) ?_
                    rcases Bool.eq_false_or_eq_true v58 with h59 | h59
                    · have hM := ite_true' hM h59
                      refine tr_condFe (e := !v58) (congrArg not h59) (by kernel_rfl) ?_
                      refine tr_skip (b_n (q_n ?_))
                      refine tr_r hT hm [] [0, 20, 290, 292, 294, 304, 306, 308] [(0, .d (.pt (eXFamily.b a0) 0)), (20, .d (iv s41)), (290, .d (.sl a0.Base.Composites.length 0 (a0.Base.Composites.flatMap (eS eI).b))), (292, .d (iv (a0.Base.Composites.length : Int))), (294, .d (iv s41)), (304, .d (.sl y46.length 0 (y46.flatMap eI.b))), (306, .d (iv (y46.length : Int))), (308, .d (iv (IntKind.i64.wrap (s47 + 1))))] .nil (by kernel_rfl) (by kernel_rfl) (l_n ?_)
                      exact trl_start (ks := [0, 20, 290, 292, 294, 304, 306, 308]) (by kernel_rfl) (ih49 (IntKind.i64.wrap (s47 + 1)) hM)
                    · have hM := ite_false' hM h59
                      refine tr_condTe (e := !v58) (congrArg not h59) (by kernel_rfl) ?_
                      refine tr_sr hT hm [] [4] [(4, .d (bv false))] .nil (by kernel_rfl) (by kernel_rfl) ?_
                      refine tr_ret (b_r (q_r (l_r (b_r (b_r (q_r (l_r (b_r (q_r (rg_r ?_))))))))))
                      obtain rfl := Option.some.inj hM
                      exact retg (names := []) .nil (by kernel_rfl)
                · have hM := ite_false' hM h51
                  refine tr_condFe (e := decide (s47 < (y46.length : Int))) h51 (by kernel_rfl) ?_
                  refine tr_exit (q_x (l_x (b_h (b_n (q_n ?_)))))
                  refine tr_r hT hm [] [0, 290, 292, 294] [(0, .d (.pt (eXFamily.b a0) 0)), (290, .d (.sl a0.Base.Composites.length 0 (a0.Base.Composites.flatMap (eS eI).b))), (292, .d (iv (a0.Base.Composites.length : Int))), (294, .d (iv (IntKind.i64.wrap (s41 + 1))))] .nil (by kernel_rfl) (by kernel_rfl) (l_n ?_)
                  exact trl_start (ks := [0, 290, 292, 294]) (by kernel_rfl) (ih43 (IntKind.i64.wrap (s41 + 1)) hM)
              · have hM := ite_false' hM h45
                refine tr_condFe (e := decide (s41 < (a0.Base.Composites.length : Int))) h45 (by kernel_rfl) ?_
                refine tr_exit (q_x (l_x (b_h (q_n ?_))))
                refine tr_sr hT hm [] [4] [(4, .d (bv true))] .nil (by kernel_rfl) (by kernel_rfl) ?_
                refine tr_ret (rg_r ?_)
                obtain rfl := Option.some.inj hM
                exact retg (names := []) .nil (by kernel_rfl)
  · have hM := ite_false' hM h2
    refine tr_sr hT hm [(1, .call [] [] [.pt (eXCategory.b a0.Base) 0] [] (bv v1)), (3, .val (bv true))] [0, 6, 84] [(0, .d (.pt (eXFamily.b a0) 0)), (6, .d (.pt (eXFamily.b a0) 0)), (84, .d (bv true))] (cc (B := []) (ρ := []) (rB := []) ok122 (impl_Category_isCategory_c a0.Base _ hv1) (.cons (.pass (.ptk (ds := eXFamily.b a0) (ds' := eXCategory.b a0.Base) (off := 0) (n := 5) (by kernel_rfl) (by kernel_rfl) (by kernel_rfl))) .nil) (.inl rfl) (.cons (congrArg (fun b => bv b) (congrArg not h2)) .nil)) (by kernel_rfl) (by kernel_rfl) ?_
    refine tr_condT (by kernel_rfl) ?_
    refine tr_sr hT hm [] [4] [(4, .d (bv false))] .nil (by kernel_rfl) (by kernel_rfl) ?_
    refine tr_ret (q_r (rg_r ?_))
    obtain rfl := Option.some.inj hM
    exact retg (names := []) .nil (by kernel_rfl)

theorem ok40 : CallOk Try.prog 40 := callOk_of Try.func40 (by kernel_rfl) (by kernel_rfl)
theorem impl_IsFamily_c (a0 : XFamily) (r : Bool) (hM : M.impl_IsFamily a0 = some r) :
    FnC Try.prog 40 [] [.agg (eXFamily.b a0)] [] (bv r) := by
  refine fnc_startG (N := 4) (np := 500) hT Try.func40 rfl rfl (by kernel_rfl) ?_
  unfold M.impl_IsFamily at hM
  refine tr_start (ks := [0]) (st' := [(0, .d (.agg (eXFamily.b a0)))]) (by kernel_rfl) ?_
  refine tr_sr hT hm [] [2, 2003] [(2, .d (.rp 1001 0)), bxB 2003 (eXFamily.b a0)] .nil (by kernel_rfl) (by kernel_rfl) ?_
  obtain ⟨v1, hv1, hM⟩ := bind_some' hM
  refine tr_sr hT hm [(0, .call [1001] [] [.pt (eXFamily.b a0) 0] [] (bv v1))] [4] [(4, .d (bv v1))] (cc (B := [1001]) (ρ := []) (rB := [(1001, .arr 1 [iv a0.Base.Objects, .sl a0.Base.From.length 0 (a0.Base.From.flatMap eI.b), .sl a0.Base.To.length 0 (a0.Base.To.flatMap eI.b), .sl a0.Base.Identity.length 0 (a0.Base.Identity.flatMap eI.b), .sl a0.Base.Composites.length 0 (a0.Base.Composites.flatMap (eS eI).b), .sl a0.Fibres.length 0 (a0.Fibres.flatMap eXCategory.b), .sl a0.Changes.length 0 (a0.Changes.flatMap eXFunctor.b)] [])]) ok113 (impl_Family_isFamily_c a0 _ hv1) (.cons (.of1 (.rp (r := 1001) (sz := 1) (cells := [iv a0.Base.Objects, .sl a0.Base.From.length 0 (a0.Base.From.flatMap eI.b), .sl a0.Base.To.length 0 (a0.Base.To.flatMap eI.b), .sl a0.Base.Identity.length 0 (a0.Base.Identity.flatMap eI.b), .sl a0.Base.Composites.length 0 (a0.Base.Composites.flatMap (eS eI).b), .sl a0.Fibres.length 0 (a0.Fibres.flatMap eXCategory.b), .sl a0.Changes.length 0 (a0.Changes.flatMap eXFunctor.b)]) (refs := []) (memB (by kernel_rfl)) (by kernel_rfl) (.cons .v (.cons (.same rfl rfl) (.cons (.same rfl rfl) (.cons (.same rfl rfl) (.cons (.same rfl rfl) (.cons (.same rfl rfl) (.cons (.same rfl rfl) .nil))))))))) .nil) (.inr ⟨.v, trivial⟩) .nil) (by kernel_rfl) (by kernel_rfl) ?_
  refine tr_ret (rg_r ?_)
  obtain rfl := Option.some.inj hM
  exact retg (names := []) .nil (by kernel_rfl)

theorem ok114 : CallOk Try.prog 114 := callOk_of Try.func114 (by kernel_rfl) (by kernel_rfl)
theorem laws_eqCategoryS_c (a0 : List XCategory) (a1 : List XCategory) (r : Bool) (hM : M.laws_eqCategoryS a0 a1 = some r) :
    FnC Try.prog 114 [] [.sl a0.length 0 (a0.flatMap eXCategory.b), .sl a1.length 0 (a1.flatMap eXCategory.b)] [] (bv r) := by
  refine fnc_startG (N := 27) (np := 500) hT Try.func114 rfl rfl (by kernel_rfl) ?_
  unfold M.laws_eqCategoryS at hM
  refine tr_start (ks := [0, 2]) (st' := [(0, .d (.sl a0.length 0 (a0.flatMap eXCategory.b))), (2, .d (.sl a1.length 0 (a1.flatMap eXCategory.b)))]) (by kernel_rfl) ?_
  refine tr_sr hT hm [] [0, 2] [(0, .d (.sl a0.length 0 (a0.flatMap eXCategory.b))), (2, .d (.sl a1.length 0 (a1.flatMap eXCategory.b)))] .nil (by kernel_rfl) (by kernel_rfl) ?_
  refine tr_seq ?_
  refine tr_sr hT hm [] [0, 2, 20] [(0, .d (.sl a0.length 0 (a0.flatMap eXCategory.b))), (2, .d (.sl a1.length 0 (a1.flatMap eXCategory.b))), (20, .d (bv ((a0.length : Int) != (a1.length : Int))))] .nil (by kernel_rfl) (by kernel_rfl) ?_
  rcases Bool.eq_false_or_eq_true ((a0.length : Int) != (a1.length : Int)) with h1 | h1
  · have hM := ite_true' hM h1
    refine tr_condTe (e := (a0.length : Int) != (a1.length : Int)) h1 (by kernel_rfl) ?_
    refine tr_sr hT hm [] [8] [(8, .d (bv false))] .nil (by kernel_rfl) (by kernel_rfl) ?_
    refine tr_ret (q_r (rg_r ?_))
    obtain rfl := Option.some.inj hM
    exact retg (names := []) .nil (by kernel_rfl)
  · have hM := ite_false' hM h1
    refine tr_condFe (e := (a0.length : Int) != (a1.length : Int)) h1 (by kernel_rfl) ?_
    refine tr_skip (q_n ?_)
    refine tr_seq ?_
    refine tr_sr hT hm [] [0, 2, 10] [(0, .d (.sl a0.length 0 (a0.flatMap eXCategory.b))), (2, .d (.sl a1.length 0 (a1.flatMap eXCategory.b))), (10, .d (iv 0))] .nil (by kernel_rfl) (by kernel_rfl) ?_
    refine tr_block ?_
    refine tr_iterS (fun (s2 : Int) => [(0, .d (.sl a0.length 0 (a0.flatMap eXCategory.b))), (2, .d (.sl a1.length 0 (a1.flatMap eXCategory.b))), (10, .d (iv s2))]) 0 [0, 2, 10] (by kernel_rfl) hM ?_
    intro n5 next3 ih4 s2 hM
    refine tr_seq ?_
    refine tr_sr hT hm [] [0, 2, 10, 28] [(0, .d (.sl a0.length 0 (a0.flatMap eXCategory.b))), (2, .d (.sl a1.length 0 (a1.flatMap eXCategory.b))), (10, .d (iv s2)), (28, .d (bv (decide (s2 < (a0.length : Int)))))] .nil (by kernel_rfl) (by kernel_rfl) ?_
    rcases Bool.eq_false_or_eq_true (decide (s2 < (a0.length : Int))) with h6 | h6
    · have hM := ite_true' hM h6
      refine tr_condTe (e := decide (s2 < (a0.length : Int))) h6 (by kernel_rfl) ?_
      refine tr_skip (q_n ?_)
      refine tr_seq ?_
      refine tr_block ?_
      obtain ⟨y7, hy7, hM⟩ := bind_some' hM
      have hy7' := idx_some hy7
      obtain ⟨y8, hy8, hM⟩ := bind_some' hM
      have hy8' := idx_some hy8
      obtain ⟨v9, hv9, hM⟩ := bind_some' hM
      refine tr_sr hT hm [(3, .val (.agg [iv y7.Objects, .sl y7.From.length 0 (y7.From.flatMap eI.b), .sl y7.To.length 0 (y7.To.flatMap eI.b), .sl y7.Identity.length 0 (y7.Identity.flatMap eI.b), .sl y7.Composites.length 0 (y7.Composites.flatMap (eS eI).b)])), (7, .val (.agg [iv y8.Objects, .sl y8.From.length 0 (y8.From.flatMap eI.b), .sl y8.To.length 0 (y8.To.flatMap eI.b), .sl y8.Identity.length 0 (y8.Identity.flatMap eI.b), .sl y8.Composites.length 0 (y8.Composites.flatMap (eS eI).b)])), (8, .call [] [] [.agg (eXCategory.b y7), .agg (eXCategory.b y8)] [] (bv v9))] [0, 2, 10, 52] [(0, .d (.sl a0.length 0 (a0.flatMap eXCategory.b))), (2, .d (.sl a1.length 0 (a1.flatMap eXCategory.b))), (10, .d (iv s2)), (52, .d (bv (!v9)))] (.cons hy7'.1 (.cons hy7'.2.1 (.cons (sub_b eXCategory_ok hy7'.2.2) (.cons hy8'.1 (.cons hy8'.2.1 (.cons (sub_b eXCategory_ok hy8'.2.2) (cc0 ok52 (laws_eqCategory_c y7 y8 _ hv9) (by kernel_rfl) .nil))))))) (by kernel_rfl) (by kernel_rfl) ?_
      rcases Bool.eq_false_or_eq_true v9 with h10 | h10
      · have hM := ite_true' hM h10
        refine tr_condFe (e := !v9) (congrArg not h10) (by kernel_rfl) ?_
        refine tr_skip (b_n (q_n ?_))
        refine tr_r hT hm [] [0, 2, 10] [(0, .d (.sl a0.length 0 (a0.flatMap eXCategory.b))), (2, .d (.sl a1.length 0 (a1.flatMap eXCategory.b))), (10, .d (iv (IntKind.i64.wrap (s2 + 1))))] .nil (by kernel_rfl) (by kernel_rfl) (l_n ?_)
        exact trl_start (ks := [0, 2, 10]) (by kernel_rfl) (ih4 (IntKind.i64.wrap (s2 + 1)) hM)
      · have hM := ite_false' hM h10
        refine tr_condTe (e := !v9) (congrArg not h10) (by kernel_rfl) ?_
        refine tr_sr hT hm [] [8] [(8, .d (bv false))] .nil (by kernel_rfl) (by kernel_rfl) ?_
        refine tr_ret (b_r (q_r (l_r (b_r (q_r (rg_r ?_))))))
        obtain rfl := Option.some.inj hM
        exact retg (names := []) .nil (by kernel_rfl)
    · have hM := ite_false' hM h6
      refine tr_condFe (e := decide (s2 < (a0.length : Int))) h6 (by kernel_rfl) ?_
      refine tr_exit (q_x (l_x (b_h (q_n ?_))))
      refine tr_sr hT hm [] [8] [(8, .d (bv true))] .nil (by kernel_rfl) (by kernel_rfl) ?_
      refine tr_ret (rg_r ?_)
      obtain rfl := Option.some.inj hM
      exact retg (names := []) .nil (by kernel_rfl)

theorem ok115 : CallOk Try.prog 115 := callOk_of Try.func115 (by kernel_rfl) (by kernel_rfl)
theorem laws_eqFunctorS_c (a0 : List XFunctor) (a1 : List XFunctor) (r : Bool) (hM : M.laws_eqFunctorS a0 a1 = some r) :
    FnC Try.prog 115 [] [.sl a0.length 0 (a0.flatMap eXFunctor.b), .sl a1.length 0 (a1.flatMap eXFunctor.b)] [] (bv r) := by
  refine fnc_startG (N := 27) (np := 500) hT Try.func115 rfl rfl (by kernel_rfl) ?_
  unfold M.laws_eqFunctorS at hM
  refine tr_start (ks := [0, 2]) (st' := [(0, .d (.sl a0.length 0 (a0.flatMap eXFunctor.b))), (2, .d (.sl a1.length 0 (a1.flatMap eXFunctor.b)))]) (by kernel_rfl) ?_
  refine tr_sr hT hm [] [0, 2] [(0, .d (.sl a0.length 0 (a0.flatMap eXFunctor.b))), (2, .d (.sl a1.length 0 (a1.flatMap eXFunctor.b)))] .nil (by kernel_rfl) (by kernel_rfl) ?_
  refine tr_seq ?_
  refine tr_sr hT hm [] [0, 2, 20] [(0, .d (.sl a0.length 0 (a0.flatMap eXFunctor.b))), (2, .d (.sl a1.length 0 (a1.flatMap eXFunctor.b))), (20, .d (bv ((a0.length : Int) != (a1.length : Int))))] .nil (by kernel_rfl) (by kernel_rfl) ?_
  rcases Bool.eq_false_or_eq_true ((a0.length : Int) != (a1.length : Int)) with h1 | h1
  · have hM := ite_true' hM h1
    refine tr_condTe (e := (a0.length : Int) != (a1.length : Int)) h1 (by kernel_rfl) ?_
    refine tr_sr hT hm [] [8] [(8, .d (bv false))] .nil (by kernel_rfl) (by kernel_rfl) ?_
    refine tr_ret (q_r (rg_r ?_))
    obtain rfl := Option.some.inj hM
    exact retg (names := []) .nil (by kernel_rfl)
  · have hM := ite_false' hM h1
    refine tr_condFe (e := (a0.length : Int) != (a1.length : Int)) h1 (by kernel_rfl) ?_
    refine tr_skip (q_n ?_)
    refine tr_seq ?_
    refine tr_sr hT hm [] [0, 2, 10] [(0, .d (.sl a0.length 0 (a0.flatMap eXFunctor.b))), (2, .d (.sl a1.length 0 (a1.flatMap eXFunctor.b))), (10, .d (iv 0))] .nil (by kernel_rfl) (by kernel_rfl) ?_
    refine tr_block ?_
    refine tr_iterS (fun (s2 : Int) => [(0, .d (.sl a0.length 0 (a0.flatMap eXFunctor.b))), (2, .d (.sl a1.length 0 (a1.flatMap eXFunctor.b))), (10, .d (iv s2))]) 0 [0, 2, 10] (by kernel_rfl) hM ?_
    intro n5 next3 ih4 s2 hM
    refine tr_seq ?_
    refine tr_sr hT hm [] [0, 2, 10, 28] [(0, .d (.sl a0.length 0 (a0.flatMap eXFunctor.b))), (2, .d (.sl a1.length 0 (a1.flatMap eXFunctor.b))), (10, .d (iv s2)), (28, .d (bv (decide (s2 < (a0.length : Int)))))] .nil (by kernel_rfl) (by kernel_rfl) ?_
    rcases Bool.eq_false_or_eq_true (decide (s2 < (a0.length : Int))) with h6 | h6
    · have hM := ite_true' hM h6
      refine tr_condTe (e := decide (s2 < (a0.length : Int))) h6 (by kernel_rfl) ?_
      refine tr_skip (q_n ?_)
      refine tr_seq ?_
      refine tr_block ?_
      obtain ⟨y7, hy7, hM⟩ := bind_some' hM
      have hy7' := idx_some hy7
      obtain ⟨y8, hy8, hM⟩ := bind_some' hM
      have hy8' := idx_some hy8
      obtain ⟨v9, hv9, hM⟩ := bind_some' hM
      refine tr_sr hT hm [(3, .val (.agg [iv y7.Source.Objects, .sl y7.Source.From.length 0 (y7.Source.From.flatMap eI.b), .sl y7.Source.To.length 0 (y7.Source.To.flatMap eI.b), .sl y7.Source.Identity.length 0 (y7.Source.Identity.flatMap eI.b), .sl y7.Source.Composites.length 0 (y7.Source.Composites.flatMap (eS eI).b), iv y7.Target.Objects, .sl y7.Target.From.length 0 (y7.Target.From.flatMap eI.b), .sl y7.Target.To.length 0 (y7.Target.To.flatMap eI.b), .sl y7.Target.Identity.length 0 (y7.Target.Identity.flatMap eI.b), .sl y7.Target.Composites.length 0 (y7.Target.Composites.flatMap (eS eI).b), .sl y7.Objects.length 0 (y7.Objects.flatMap eI.b), .sl y7.Arrows.length 0 (y7.Arrows.flatMap eI.b)])), (7, .val (.agg [iv y8.Source.Objects, .sl y8.Source.From.length 0 (y8.Source.From.flatMap eI.b), .sl y8.Source.To.length 0 (y8.Source.To.flatMap eI.b), .sl y8.Source.Identity.length 0 (y8.Source.Identity.flatMap eI.b), .sl y8.Source.Composites.length 0 (y8.Source.Composites.flatMap (eS eI).b), iv y8.Target.Objects, .sl y8.Target.From.length 0 (y8.Target.From.flatMap eI.b), .sl y8.Target.To.length 0 (y8.Target.To.flatMap eI.b), .sl y8.Target.Identity.length 0 (y8.Target.Identity.flatMap eI.b), .sl y8.Target.Composites.length 0 (y8.Target.Composites.flatMap (eS eI).b), .sl y8.Objects.length 0 (y8.Objects.flatMap eI.b), .sl y8.Arrows.length 0 (y8.Arrows.flatMap eI.b)])), (8, .call [] [] [.agg (eXFunctor.b y7), .agg (eXFunctor.b y8)] [] (bv v9))] [0, 2, 10, 52] [(0, .d (.sl a0.length 0 (a0.flatMap eXFunctor.b))), (2, .d (.sl a1.length 0 (a1.flatMap eXFunctor.b))), (10, .d (iv s2)), (52, .d (bv (!v9)))] (.cons hy7'.1 (.cons hy7'.2.1 (.cons (sub_b eXFunctor_ok hy7'.2.2) (.cons hy8'.1 (.cons hy8'.2.1 (.cons (sub_b eXFunctor_ok hy8'.2.2) (cc0 ok27 (laws_eqFunctor_c y7 y8 _ hv9) (by kernel_rfl) .nil))))))) (by kernel_rfl) (by kernel_rfl) ?_
      rcases Bool.eq_false_or_eq_true v9 with h10 | h10
      · have hM := ite_true' hM h10
        refine tr_condFe (e := !v9) (congrArg not h10) (by kernel_rfl) ?_
        refine tr_skip (b_n (q_n ?_))
        refine tr_r hT hm [] [0, 2, 10] [(0, .d (.sl a0.length 0 (a0.flatMap eXFunctor.b))), (2, .d (.sl a1.length 0 (a1.flatMap eXFunctor.b))), (10, .d (iv (IntKind.i64.wrap (s2 + 1))))] .nil (by kernel_rfl) (by kernel_rfl) (l_n ?_)
        exact trl_start (ks := [0, 2, 10]) (by kernel_rfl) (ih4 (IntKind.i64.wrap (s2 + 1)) hM)
      · have hM := ite_false' hM h10
        refine tr_condTe (e := !v9) (congrArg not h10) (by kernel_rfl) ?_
        refine tr_sr hT hm [] [8] [(8, .d (bv false))] .nil (by kernel_rfl) (by kernel_rfl) ?_
        refine tr_ret (b_r (q_r (l_r (b_r (q_r (rg_r ?_))))))
        obtain rfl := Option.some.inj hM
        exact retg (names := []) .nil (by kernel_rfl)
    · have hM := ite_false' hM h6
      refine tr_condFe (e := decide (s2 < (a0.length : Int))) h6 (by kernel_rfl) ?_
      refine tr_exit (q_x (l_x (b_h (q_n ?_))))
      refine tr_sr hT hm [] [8] [(8, .d (bv true))] .nil (by kernel_rfl) (by kernel_rfl) ?_
      refine tr_ret (rg_r ?_)
      obtain rfl := Option.some.inj hM
      exact retg (names := []) .nil (by kernel_rfl)

theorem ok41 : CallOk Try.prog 41 := callOk_of Try.func41 (by kernel_rfl) (by kernel_rfl)
theorem laws_eqFamily_c (a0 : XFamily) (a1 : XFamily) (r : Bool) (hM : M.laws_eqFamily a0 a1 = some r) :
    FnC Try.prog 41 [] [.agg (eXFamily.b a0), .agg (eXFamily.b a1)] [] (bv r) := by
  refine fnc_startG (N := 23) (np := 500) hT Try.func41 rfl rfl (by kernel_rfl) ?_
  unfold M.laws_eqFamily at hM
  refine tr_start (ks := [0, 2]) (st' := [(0, .d (.agg (eXFamily.b a0))), (2, .d (.agg (eXFamily.b a1)))]) (by kernel_rfl) ?_
  refine tr_sr hT hm [] [4, 6, 2005, 2007] [(4, .d (.rp 1002 0)), (6, .d (.rp 1003 0)), bxB 2005 (eXFamily.b a0), bxB 2007 (eXFamily.b a1)] .nil (by kernel_rfl) (by kernel_rfl) ?_
  refine tr_seq ?_
  obtain ⟨v1, hv1, hM⟩ := bind_some' hM
  refine tr_sr hT hm [(4, .call [] [] [.agg (eXCategory.b a0.Base), .agg (eXCategory.b a1.Base)] [] (bv v1))] [4, 6, 20, 2005, 2007] [(4, .d (.rp 1002 0)), (6, .d (.rp 1003 0)), (20, .d (bv (!v1))), bxB 2005 (eXFamily.b a0), bxB 2007 (eXFamily.b a1)] (cc0 ok52 (laws_eqCategory_c a0.Base a1.Base _ hv1) (by kernel_rfl) .nil) (by kernel_rfl) (by kernel_rfl) ?_
  rcases Bool.eq_false_or_eq_true v1 with h2 | h2
  · have hM := ite_true' hM h2
    refine tr_condFe (e := !v1) (congrArg not h2) (by kernel_rfl) ?_
    refine tr_skip (q_n ?_)
    refine tr_seq ?_
    obtain ⟨v3, hv3, hM⟩ := bind_some' hM
    refine tr_sr hT hm [(4, .call [] [] [.sl a0.Fibres.length 0 (a0.Fibres.flatMap eXCategory.b), .sl a1.Fibres.length 0 (a1.Fibres.flatMap eXCategory.b)] [] (bv v3))] [4, 6, 32, 2005, 2007] [(4, .d (.rp 1002 0)), (6, .d (.rp 1003 0)), (32, .d (bv (!v3))), bxB 2005 (eXFamily.b a0), bxB 2007 (eXFamily.b a1)] (cc0 ok114 (laws_eqCategoryS_c a0.Fibres a1.Fibres _ hv3) (by kernel_rfl) .nil) (by kernel_rfl) (by kernel_rfl) ?_
    rcases Bool.eq_false_or_eq_true v3 with h4 | h4
    · have hM := ite_true' hM h4
      refine tr_condFe (e := !v3) (congrArg not h4) (by kernel_rfl) ?_
      refine tr_skip (q_n ?_)
      refine tr_seq ?_
      obtain ⟨v5, hv5, hM⟩ := bind_some' hM
      refine tr_sr hT hm [(4, .call [] [] [.sl a0.Changes.length 0 (a0.Changes.flatMap eXFunctor.b), .sl a1.Changes.length 0 (a1.Changes.flatMap eXFunctor.b)] [] (bv v5))] [44] [(44, .d (bv (!v5)))] (cc0 ok115 (laws_eqFunctorS_c a0.Changes a1.Changes _ hv5) (by kernel_rfl) .nil) (by kernel_rfl) (by kernel_rfl) ?_
      rcases Bool.eq_false_or_eq_true v5 with h6 | h6
      · have hM := ite_true' hM h6
        refine tr_condFe (e := !v5) (congrArg not h6) (by kernel_rfl) ?_
        refine tr_skip (q_n ?_)
        refine tr_sr hT hm [] [8] [(8, .d (bv true))] .nil (by kernel_rfl) (by kernel_rfl) ?_
        refine tr_ret (rg_r ?_)
        obtain rfl := Option.some.inj hM
        exact retg (names := []) .nil (by kernel_rfl)
      · have hM := ite_false' hM h6
        refine tr_condTe (e := !v5) (congrArg not h6) (by kernel_rfl) ?_
        refine tr_sr hT hm [] [8] [(8, .d (bv false))] .nil (by kernel_rfl) (by kernel_rfl) ?_
        refine tr_ret (q_r (rg_r ?_))
        obtain rfl := Option.some.inj hM
        exact retg (names := []) .nil (by kernel_rfl)
    · have hM := ite_false' hM h4
      refine tr_condTe (e := !v3) (congrArg not h4) (by kernel_rfl) ?_
      refine tr_sr hT hm [] [8] [(8, .d (bv false))] .nil (by kernel_rfl) (by kernel_rfl) ?_
      refine tr_ret (q_r (rg_r ?_))
      obtain rfl := Option.some.inj hM
      exact retg (names := []) .nil (by kernel_rfl)
  · have hM := ite_false' hM h2
    refine tr_condTe (e := !v1) (congrArg not h2) (by kernel_rfl) ?_
    refine tr_sr hT hm [] [8] [(8, .d (bv false))] .nil (by kernel_rfl) (by kernel_rfl) ?_
    refine tr_ret (q_r (rg_r ?_))
    obtain rfl := Option.some.inj hM
    exact retg (names := []) .nil (by kernel_rfl)

theorem ok8 : CallOk Try.prog 8 := callOk_of Try.func8 (by kernel_rfl) (by kernel_rfl)
theorem laws_FnExactIsFamily_c (a0 : XFamily) (r : Bool) (hM : M.laws_FnExactIsFamily a0 = some r) :
    FnC Try.prog 8 [] [.agg (eXFamily.b a0)] [] (bv r) := by
  refine fnc_startG (N := 27) (np := 500) hT Try.func8 rfl rfl (by kernel_rfl) ?_
  unfold M.laws_FnExactIsFamily at hM
  refine tr_start (ks := [0]) (st' := [(0, .d (.agg (eXFamily.b a0)))]) (by kernel_rfl) ?_
  refine tr_sr hT hm [] [2, 2003] [(2, .d (.rp 1001 0)), bxB 2003 (eXFamily.b a0)] .nil (by kernel_rfl) (by kernel_rfl) ?_
  refine tr_sr hT hm [] [2, 6, 2003] [(2, .d (.rp 1001 0)), (6, .d (iv 1048576)), bxB 2003 (eXFamily.b a0)] .nil (by kernel_rfl) (by kernel_rfl) ?_
  obtain ⟨v1, hv1, hM⟩ := bind_some' hM
  refine tr_sr hT hm [(2, .call [] [] [.agg (eXFamily.b a0), iv 1048576] [] (iv v1))] [2, 6, 2003] [(2, .d (.rp 1001 0)), (6, .d (iv v1)), bxB 2003 (eXFamily.b a0)] (cc0 ok37 (laws_szFamily_c a0 1048576 _ hv1) (by kernel_rfl) .nil) (by kernel_rfl) (by kernel_rfl) ?_
  refine tr_seq ?_
  refine tr_sr hT hm [] [2, 22, 2003] [(2, .d (.rp 1001 0)), (22, .d (bv (decide (v1 < 0)))), bxB 2003 (eXFamily.b a0)] .nil (by kernel_rfl) (by kernel_rfl) ?_
  rcases Bool.eq_false_or_eq_true (decide (v1 < 0)) with h2 | h2
  · have hM := ite_true' hM h2
    refine tr_condTe (e := decide (v1 < 0)) h2 (by kernel_rfl) ?_
    refine tr_sr hT hm [] [4] [(4, .d (bv true))] .nil (by kernel_rfl) (by kernel_rfl) ?_
    refine tr_ret (q_r (rg_r ?_))
    obtain rfl := Option.some.inj hM
    exact retg (names := []) .nil (by kernel_rfl)
  · have hM := ite_false' hM h2
    refine tr_condFe (e := decide (v1 < 0)) h2 (by kernel_rfl) ?_
    refine tr_skip (q_n ?_)
    obtain ⟨v3, hv3, hM⟩ := bind_some' hM
    obtain ⟨v4, hv4, hM⟩ := bind_some' hM
    refine tr_sr hT hm [(1, .call [] [] [.agg (eXFamily.b a0)] [] (.agg (eXFamily.o v3))), (2, .call (rsR 15000 (eXFamily.o v3)) [] [.agg (eXFamily.b v3)] [] (bv v4))] [2, 8, 2003] [(2, .d (.rp 1001 0)), (8, .d (bv v4)), bxB 2003 (eXFamily.b a0)] (cc0 ok39 (laws_toFamily_c a0 _ hv3) (by kernel_rfl) (cc (B := (rsR 15000 (eXFamily.o v3))) (ρ := []) (rB := (rsP 15000 (eXFamily.o v3))) ok38 (spec_IsFamily_c v3 _ hv4) (.cons (bor_rs eXFamily_r (q := 15000) (x := v3) (by kernel_rfl) (by kernel_rfl)) .nil) (.inr ⟨.v, trivial⟩) .nil)) (by kernel_rfl) (by kernel_rfl) ?_
    refine tr_sr hT hm [(1, .call [] [] [.agg (eXFamily.b a0)] [] (.agg (eXFamily.o v3)))] [2, 8, 10, 2003, 2011, 36003, 36005, 36007, 36009, 36011, 36013] ([(2, .d (.rp 1001 0)), (8, .d (bv v4)), (10, .d (.rp 1005 0)), bxB 2003 (eXFamily.b a0), bxO 2011 18000 (eXFamily.o v3)] ++ rsS 18000 (eXFamily.o v3)) (cc0 ok39 (laws_toFamily_c a0 _ hv3) (by kernel_rfl) (.cons (Nat.le_of_ble_eq_true (n := 7) (m := 7) rfl) .nil)) (by kernel_rfl) (by kernel_rfl) ?_
    obtain ⟨v5, hv5, hM⟩ := bind_some' hM
    refine tr_sr hT hm [(1, .call (rsR 18000 (eXFamily.o v3)) [] [.agg (eXFamily.b v3)] [] (bv v5))] [2, 8, 10, 12, 2003, 2011, 36003, 36005, 36007, 36009, 36011, 36013] ([(2, .d (.rp 1001 0)), (8, .d (bv v4)), (10, .d (.rp 1005 0)), (12, .d (bv v5)), bxB 2003 (eXFamily.b a0), bxO 2011 18000 (eXFamily.o v3)] ++ rsS 18000 (eXFamily.o v3)) (cc (B := (rsR 18000 (eXFamily.o v3))) (ρ := []) (rB := (rsP 18000 (eXFamily.o v3))) ok40 (impl_IsFamily_c v3 _ hv5) (.cons (bor_rs eXFamily_r (q := 18000) (x := v3) (by kernel_rfl) (by kernel_rfl)) .nil) (.inr ⟨.v, trivial⟩) .nil) (by kernel_rfl) (by kernel_rfl) ?_
    refine tr_seq ?_
    refine tr_sr hT hm [] [2, 10, 42, 2003, 2011, 36003, 36005, 36007, 36009, 36011, 36013] ([(2, .d (.rp 1001 0)), (10, .d (.rp 1005 0)), (42, .d (bv ((v5 == v4) == false))), bxB 2003 (eXFamily.b a0), bxO 2011 18000 (eXFamily.o v3)] ++ rsS 18000 (eXFamily.o v3)) .nil (by kernel_rfl) (by kernel_rfl) ?_
    rcases Bool.eq_false_or_eq_true ((v5 == v4) == false) with h6 | h6
    · have hM := ite_true' hM h6
      refine tr_condTe (e := (v5 == v4) == false) h6 (by kernel_rfl) ?_
      refine tr_sr hT hm [] [4] [(4, .d (bv false))] .nil (by kernel_rfl) (by kernel_rfl) ?_
      refine tr_ret (q_r (rg_r ?_))
      obtain rfl := Option.some.inj hM
      exact retg (names := []) .nil (by kernel_rfl)
    · have hM := ite_false' hM h6
      refine tr_condFe (e := (v5 == v4) == false) h6 (by kernel_rfl) ?_
      refine tr_skip (q_n ?_)
      refine tr_seq ?_
      obtain ⟨v7, hv7, hM⟩ := bind_some' hM
      refine tr_sr hT hm [(2, .call [] [] [.agg (eXFamily.b a0)] [] (.agg (eXFamily.o v3))), (3, .call (rsR 18000 (eXFamily.o v3) ++ rsR 26000 (eXFamily.o v3)) [] [.agg (eXFamily.b v3), .agg (eXFamily.b v3)] [] (bv v7))] [52] [(52, .d (bv (!v7)))] (cc0 ok39 (laws_toFamily_c a0 _ hv3) (by kernel_rfl) (cc (B := (rsR 18000 (eXFamily.o v3) ++ rsR 26000 (eXFamily.o v3))) (ρ := []) (rB := (rsP 18000 (eXFamily.o v3) ++ rsP 26000 (eXFamily.o v3))) ok41 (laws_eqFamily_c v3 v3 _ hv7) (.cons (bor_rs eXFamily_r (q := 18000) (x := v3) (by kernel_rfl) (by kernel_rfl)) (.cons (bor_rs eXFamily_r (q := 26000) (x := v3) (by kernel_rfl) (by kernel_rfl)) .nil)) (.inr ⟨.v, trivial⟩) .nil)) (by kernel_rfl) (by kernel_rfl) ?_
      rcases Bool.eq_false_or_eq_true v7 with h8 | h8
      · have hM := ite_true' hM h8
        refine tr_condFe (e := !v7) (congrArg not h8) (by kernel_rfl) ?_
        refine tr_skip (q_n ?_)
        refine tr_sr hT hm [] [4] [(4, .d (bv true))] .nil (by kernel_rfl) (by kernel_rfl) ?_
        refine tr_ret (rg_r ?_)
        obtain rfl := Option.some.inj hM
        exact retg (names := []) .nil (by kernel_rfl)
      · have hM := ite_false' hM h8
        refine tr_condTe (e := !v7) (congrArg not h8) (by kernel_rfl) ?_
        refine tr_sr hT hm [] [4] [(4, .d (bv false))] .nil (by kernel_rfl) (by kernel_rfl) ?_
        refine tr_ret (q_r (rg_r ?_))
        obtain rfl := Option.some.inj hM
        exact retg (names := []) .nil (by kernel_rfl)

end Go.Proofs.Ytjmjhhhglbeacaa.Wy32
