/- Walks. Printed by wip/gen. -/
import Derived.Test.YtpfdieaiogfihaaGxw39M
import Derived.Test.YtpfdieaiogfihaaGxwQW
import Derived.KernelRfl
namespace Go.Proofs.Ytpfdieaiogfihaa.Ww39
open Go.Gx Go.Proofs.Ytpfdieaiogfihaa.WvB Go.Proofs.Ytpfdieaiogfihaa.WwN Go.Proofs.Ytpfdieaiogfihaa.WvS Go.Proofs.Ytpfdieaiogfihaa.WvF Go.Proofs.Ytpfdieaiogfihaa.WwT Go.Proofs.Ytpfdieaiogfihaa.WwU Go.Proofs.Ytpfdieaiogfihaa.WvH Go.Proofs.Ytpfdieaiogfihaa.WvI Go.Proofs.Ytpfdieaiogfihaa.WwM Go.Proofs.Ytpfdieaiogfihaa.WwO Go.Proofs.Ytpfdieaiogfihaa.WwP Go.Proofs.Ytpfdieaiogfihaa.WwQ

theorem eXCategory_r : EncR eXCategory := (eA_r (eC_r eI_r _) (eA_r (eC_r (eS_r eI_ok) _) (eA_r (eC_r (eS_r eI_ok) _) (eA_r (eC_r (eS_r eI_ok) _) (eC_r (eS_r (eS_ok eI_ok)) _)))))
theorem eXFunctor_r : EncR eXFunctor := (eA_r (eC_r eXCategory_r _) (eA_r (eC_r eXCategory_r _) (eA_r (eC_r (eS_r eI_ok) _) (eC_r (eS_r eI_ok) _))))
theorem eXends_r : EncR eXends := (eA_r (eC_r eI_r _) (eC_r eI_r _))
theorem eXTransformation_r : EncR eXTransformation := (eA_r (eC_r eXFunctor_r _) (eA_r (eC_r eXFunctor_r _) (eC_r (eS_r eI_ok) _)))
theorem eXMonad_r : EncR eXMonad := (eA_r (eC_r eXFunctor_r _) (eA_r (eC_r (eS_r eI_ok) _) (eC_r (eS_r eI_ok) _)))
def T : Tab := [(2, ⟨.int .i64, 1, 8, [.int .i64 0]⟩),
  (3, ⟨.int .i64, 1, 8, [.int .i64 0]⟩),
  (22, ⟨.slice 2, 1, 24, [.slice .none 0 0]⟩),
  (23, ⟨.slice 22, 1, 24, [.slice .none 0 0]⟩),
  (25, ⟨.struct #[⟨"Objects", 2, 0, false, "", "", 0⟩, ⟨"From", 22, 1, false, "", "", 8⟩, ⟨"To", 22, 2, false, "", "", 32⟩, ⟨"Identity", 22, 3, false, "", "", 56⟩, ⟨"Composites", 23, 4, false, "", "", 80⟩], 5, 104, [.int .i64 0, .slice .none 0 0, .slice .none 0 0, .slice .none 0 0, .slice .none 0 0]⟩),
  (27, ⟨.struct #[⟨"Source", 25, 0, false, "", "", 0⟩, ⟨"Target", 25, 5, false, "", "", 104⟩, ⟨"Objects", 22, 10, false, "", "", 208⟩, ⟨"Arrows", 22, 11, false, "", "", 232⟩], 12, 256, [.int .i64 0, .slice .none 0 0, .slice .none 0 0, .slice .none 0 0, .slice .none 0 0, .int .i64 0, .slice .none 0 0, .slice .none 0 0, .slice .none 0 0, .slice .none 0 0, .slice .none 0 0, .slice .none 0 0]⟩),
  (29, ⟨.struct #[⟨"On", 27, 0, false, "", "", 0⟩, ⟨"Unit", 22, 12, false, "", "", 256⟩, ⟨"Join", 22, 13, false, "", "", 280⟩], 14, 304, [.int .i64 0, .slice .none 0 0, .slice .none 0 0, .slice .none 0 0, .slice .none 0 0, .int .i64 0, .slice .none 0 0, .slice .none 0 0, .slice .none 0 0, .slice .none 0 0, .slice .none 0 0, .slice .none 0 0, .slice .none 0 0, .slice .none 0 0]⟩),
  (32, ⟨.struct #[⟨"Objects", 2, 0, false, "", "", 0⟩, ⟨"From", 22, 1, false, "", "", 8⟩, ⟨"To", 22, 2, false, "", "", 32⟩, ⟨"Identity", 22, 3, false, "", "", 56⟩, ⟨"Composites", 23, 4, false, "", "", 80⟩], 5, 104, [.int .i64 0, .slice .none 0 0, .slice .none 0 0, .slice .none 0 0, .slice .none 0 0]⟩),
  (34, ⟨.struct #[⟨"Source", 32, 0, false, "", "", 0⟩, ⟨"Target", 32, 5, false, "", "", 104⟩, ⟨"Objects", 22, 10, false, "", "", 208⟩, ⟨"Arrows", 22, 11, false, "", "", 232⟩], 12, 256, [.int .i64 0, .slice .none 0 0, .slice .none 0 0, .slice .none 0 0, .slice .none 0 0, .int .i64 0, .slice .none 0 0, .slice .none 0 0, .slice .none 0 0, .slice .none 0 0, .slice .none 0 0, .slice .none 0 0]⟩),
  (36, ⟨.struct #[⟨"On", 34, 0, false, "", "", 0⟩, ⟨"Unit", 22, 12, false, "", "", 256⟩, ⟨"Join", 22, 13, false, "", "", 280⟩], 14, 304, [.int .i64 0, .slice .none 0 0, .slice .none 0 0, .slice .none 0 0, .slice .none 0 0, .int .i64 0, .slice .none 0 0, .slice .none 0 0, .slice .none 0 0, .slice .none 0 0, .slice .none 0 0, .slice .none 0 0, .slice .none 0 0, .slice .none 0 0]⟩),
  (84, ⟨.struct #[⟨"from", 2, 0, false, "", "loop.example/g01083/impl", 0⟩, ⟨"to", 2, 1, false, "", "loop.example/g01083/impl", 8⟩], 2, 16, [.int .i64 0, .int .i64 0]⟩)]
theorem hT : TabOk Try.prog T := ⟨tiok (by kernel_rfl) (by kernel_rfl), tiok (by kernel_rfl) (by kernel_rfl), tiok (by kernel_rfl) (by kernel_rfl), tiok (by kernel_rfl) (by kernel_rfl), tiok (by kernel_rfl) (by kernel_rfl), tiok (by kernel_rfl) (by kernel_rfl), tiok (by kernel_rfl) (by kernel_rfl), tiok (by kernel_rfl) (by kernel_rfl), tiok (by kernel_rfl) (by kernel_rfl), tiok (by kernel_rfl) (by kernel_rfl), tiok (by kernel_rfl) (by kernel_rfl), trivial⟩
theorem hm : Try.prog.follows .mixedOrders = true := by kernel_rfl

theorem ok31 : CallOk Try.prog 31 := callOk_of Try.func31 (by kernel_rfl) (by kernel_rfl)
theorem spec_FreeExtension_c (a0 : XMonad) (a1 : Int) (a2 : Int) (a3 : Int) (a4 : Int) (r : Int × Int) (hM : M.spec_FreeExtension a0 a1 a2 a3 a4 = some r) :
    FnC Try.prog 31 [] [.agg (eXMonad.b a0), iv a1, iv a2, iv a3, iv a4] [] (.tup [iv r.1, iv r.2]) := by
  refine fnc_startG (N := 62) (np := 500) hT Try.func31 rfl rfl (by kernel_rfl) ?_
  unfold M.spec_FreeExtension at hM
  refine tr_start (ks := [0, 2, 4, 6, 8]) (st' := [(0, .d (.agg (eXMonad.b a0))), (2, .d (iv a1)), (4, .d (iv a2)), (6, .d (iv a3)), (8, .d (iv a4))]) (by kernel_rfl) ?_
  refine tr_sr hT hm [] [2, 4, 6, 8, 10, 2011] [(2, .d (iv a1)), (4, .d (iv a2)), (6, .d (iv a3)), (8, .d (iv a4)), (10, .d (.rp 1005 0)), bxB 2011 (eXMonad.b a0)] .nil (by kernel_rfl) (by kernel_rfl) ?_
  obtain ⟨v1, hv1, hM⟩ := bind_some' hM
  refine tr_sr hT hm [(3, .call [] [] [.agg (eXMonad.b a0), iv a1, iv a4] [] (iv v1))] [2, 4, 6, 8, 10, 24, 2011] [(2, .d (iv a1)), (4, .d (iv a2)), (6, .d (iv a3)), (8, .d (iv a4)), (10, .d (.rp 1005 0)), (24, .d (iv v1)), bxB 2011 (eXMonad.b a0)] (cc0 ok65 (spec_l17Pair_c a0 a1 a4 _ hv1) (by kernel_rfl) .nil) (by kernel_rfl) (by kernel_rfl) ?_
  refine tr_joinM (fun (s2 : Int) => [(2, .d (iv a1)), (4, .d (iv a2)), (6, .d (iv a3)), (8, .d (iv a4)), (10, .d (.rp 1005 0)), (24, .d (iv s2)), bxB 2011 (eXMonad.b a0)]) hM ?_ ?_
  · intro s2 hM
    refine tr_seq ?_
    refine tr_sr hT hm [] [2, 4, 6, 8, 10, 24, 50, 2011] [(2, .d (iv a1)), (4, .d (iv a2)), (6, .d (iv a3)), (8, .d (iv a4)), (10, .d (.rp 1005 0)), (24, .d (iv s2)), (50, .d (bv (s2 != 0))), bxB 2011 (eXMonad.b a0)] .nil (by kernel_rfl) (by kernel_rfl) ?_
    rcases Bool.eq_false_or_eq_true (s2 != 0) with h5 | h5
    · have hM := ite_true' hM h5
      refine tr_condTe (e := s2 != 0) h5 (by kernel_rfl) ?_
      refine tr_sr hT hm [] [20, 22] [(20, .d (iv 0)), (22, .d (iv s2))] .nil (by kernel_rfl) (by kernel_rfl) ?_
      refine tr_ret (q_r (rg_r ?_))
      obtain rfl := Option.some.inj hM
      exact retg (names := []) .nil (by kernel_rfl)
    · have hM := ite_false' hM h5
      refine tr_condFe (e := s2 != 0) h5 (by kernel_rfl) ?_
      refine tr_skip (q_n ?_)
      refine tr_sr hT hm [] [2, 4, 6, 8, 10, 26, 2011, 2027] [(2, .d (iv a1)), (4, .d (iv a2)), (6, .d (iv a3)), (8, .d (iv a4)), (10, .d (.rp 1005 0)), (26, .d (.rp 1013 0)), bxB 2011 (eXMonad.b a0), bxB 2027 (eXCategory.b a0.On.Source)] (.cons (Nat.le_of_ble_eq_true (n := 5) (m := 5) rfl) .nil) (by kernel_rfl) (by kernel_rfl) ?_
      refine tr_seq ?_
      obtain ⟨v6, hv6, hM⟩ := bind_some' hM
      rcases Bool.eq_false_or_eq_true v6 with h7 | h7
      · have hM := ite_true' hM h7
        obtain ⟨y8, hy8, hM⟩ := bind_some' hM
        have hy8' := idx_some hy8
        rcases Bool.eq_false_or_eq_true (y8 != a1) with h9 | h9
        · have hM := ite_true' hM h9
          refine tr_sr hT hm [(3, .call [] [] [.agg (eXMonad.b a0), iv a2, iv a3] [] (bv v6)), (5, .val (bv false)), (10, .val (iv y8)), (14, .val (bv true))] [6, 8, 10, 26, 104, 2011, 2027] [(6, .d (iv a3)), (8, .d (iv a4)), (10, .d (.rp 1005 0)), (26, .d (.rp 1013 0)), (104, .d (bv true)), bxB 2011 (eXMonad.b a0), bxB 2027 (eXCategory.b a0.On.Source)] (cc0 ok66 (spec_l17Is_c a0 a2 a3 _ hv6) (by kernel_rfl) (.cons (congrArg (fun b => bv b) (congrArg not h7)) (.cons hy8'.1 (.cons hy8'.2.1 (.cons (at_b0 eI_ok hy8'.2.2 (d := iv y8) (by kernel_rfl)) (.cons (congrArg (fun b => bv b) h9) .nil)))))) (by kernel_rfl) (by kernel_rfl) ?_
          refine tr_condT (by kernel_rfl) ?_
          refine tr_sr hT hm [] [20, 22] [(20, .d (iv 0)), (22, .d (iv 5))] .nil (by kernel_rfl) (by kernel_rfl) ?_
          refine tr_ret (q_r (rg_r ?_))
          obtain rfl := Option.some.inj hM
          exact retg (names := []) .nil (by kernel_rfl)
        · have hM := ite_false' hM h9
          obtain ⟨y10, hy10, hM⟩ := bind_some' hM
          have hy10' := idx_some hy10
          refine tr_sr hT hm [(3, .call [] [] [.agg (eXMonad.b a0), iv a2, iv a3] [] (bv v6)), (5, .val (bv false)), (10, .val (iv y8)), (14, .val (bv false)), (19, .val (iv y10))] [6, 8, 10, 26, 104, 2011, 2027] [(6, .d (iv a3)), (8, .d (iv a4)), (10, .d (.rp 1005 0)), (26, .d (.rp 1013 0)), (104, .d (bv (y10 != a2))), bxB 2011 (eXMonad.b a0), bxB 2027 (eXCategory.b a0.On.Source)] (cc0 ok66 (spec_l17Is_c a0 a2 a3 _ hv6) (by kernel_rfl) (.cons (congrArg (fun b => bv b) (congrArg not h7)) (.cons hy8'.1 (.cons hy8'.2.1 (.cons (at_b0 eI_ok hy8'.2.2 (d := iv y8) (by kernel_rfl)) (.cons (congrArg (fun b => bv b) h9) (.cons hy10'.1 (.cons hy10'.2.1 (.cons (at_b0 eI_ok hy10'.2.2 (d := iv y10) (by kernel_rfl)) .nil))))))))) (by kernel_rfl) (by kernel_rfl) ?_
          rcases Bool.eq_false_or_eq_true (y10 != a2) with h11 | h11
          · have hM := ite_true' hM h11
            refine tr_condTe (e := y10 != a2) h11 (by kernel_rfl) ?_
            refine tr_sr hT hm [] [20, 22] [(20, .d (iv 0)), (22, .d (iv 5))] .nil (by kernel_rfl) (by kernel_rfl) ?_
            refine tr_ret (q_r (rg_r ?_))
            obtain rfl := Option.some.inj hM
            exact retg (names := []) .nil (by kernel_rfl)
          · have hM := ite_false' hM h11
            refine tr_condFe (e := y10 != a2) h11 (by kernel_rfl) ?_
            refine tr_skip (q_n ?_)
            obtain ⟨y12, hy12, hM⟩ := bind_some' hM
            have hy12' := idx_some hy12
            obtain ⟨v13, hv13, hM⟩ := bind_some' hM
            refine tr_sr hT hm [(6, .val (iv y12)), (8, .call [] [] [.agg (eXCategory.b a0.On.Source), iv y12, iv a3] [] (iv v13))] [20, 22] [(20, .d (iv v13)), (22, .d (iv 0))] (.cons hy12'.1 (.cons hy12'.2.1 (.cons (at_b0 eI_ok hy12'.2.2 (d := iv y12) (by kernel_rfl)) (cc0 ok68 (spec_l02Then_c a0.On.Source y12 a3 _ hv13) (by kernel_rfl) .nil)))) (by kernel_rfl) (by kernel_rfl) ?_
            refine tr_ret (rg_r ?_)
            obtain rfl := Option.some.inj hM
            exact retg (names := []) .nil (by kernel_rfl)
      · have hM := ite_false' hM h7
        refine tr_sr hT hm [(3, .call [] [] [.agg (eXMonad.b a0), iv a2, iv a3] [] (bv v6)), (5, .val (bv true))] [6, 8, 10, 26, 104, 2011, 2027] [(6, .d (iv a3)), (8, .d (iv a4)), (10, .d (.rp 1005 0)), (26, .d (.rp 1013 0)), (104, .d (bv true)), bxB 2011 (eXMonad.b a0), bxB 2027 (eXCategory.b a0.On.Source)] (cc0 ok66 (spec_l17Is_c a0 a2 a3 _ hv6) (by kernel_rfl) (.cons (congrArg (fun b => bv b) (congrArg not h7)) .nil)) (by kernel_rfl) (by kernel_rfl) ?_
        refine tr_condT (by kernel_rfl) ?_
        refine tr_sr hT hm [] [20, 22] [(20, .d (iv 0)), (22, .d (iv 5))] .nil (by kernel_rfl) (by kernel_rfl) ?_
        refine tr_ret (q_r (rg_r ?_))
        obtain rfl := Option.some.inj hM
        exact retg (names := []) .nil (by kernel_rfl)
  · intro k3 K4 hM
    refine tr_sr hT hm [] [2, 4, 6, 8, 10, 24, 38, 2011] [(2, .d (iv a1)), (4, .d (iv a2)), (6, .d (iv a3)), (8, .d (iv a4)), (10, .d (.rp 1005 0)), (24, .d (iv v1)), (38, .d (bv (v1 == 0))), bxB 2011 (eXMonad.b a0)] .nil (by kernel_rfl) (by kernel_rfl) ?_
    rcases Bool.eq_false_or_eq_true (v1 == 0) with h14 | h14
    · have hM := ite_true' hM h14
      refine tr_condTe (e := v1 == 0) h14 (by kernel_rfl) ?_
      obtain ⟨v15, hv15, hM⟩ := bind_some' hM
      refine tr_r hT hm [(3, .call [] [] [.agg (eXMonad.b a0), iv a2, iv a3] [] (iv v15))] [2, 4, 6, 8, 10, 24, 2011] [(2, .d (iv a1)), (4, .d (iv a2)), (6, .d (iv a3)), (8, .d (iv a4)), (10, .d (.rp 1005 0)), (24, .d (iv v15)), bxB 2011 (eXMonad.b a0)] (cc0 ok65 (spec_l17Pair_c a0 a2 a3 _ hv15) (by kernel_rfl) .nil) (by kernel_rfl) (by kernel_rfl) (q_n ?_)
      exact tr_start (ks := [2, 4, 6, 8, 10, 24, 2011]) (by kernel_rfl) (K4 v15 hM)
    · have hM := ite_false' hM h14
      refine tr_condFe (e := v1 == 0) h14 (by kernel_rfl) ?_
      refine tr_skip (q_n ?_)
      exact tr_start (ks := [2, 4, 6, 8, 10, 24, 2011]) (by kernel_rfl) (K4 v1 hM)

theorem ok32 : CallOk Try.prog 32 := callOk_of Try.func32 (by kernel_rfl) (by kernel_rfl)
theorem impl_FreeExtension_c (a0 : XMonad) (a1 : Int) (a2 : Int) (a3 : Int) (a4 : Int) (r : Int × Int) (hM : M.impl_FreeExtension a0 a1 a2 a3 a4 = some r) :
    FnC Try.prog 32 [] [.agg (eXMonad.b a0), iv a1, iv a2, iv a3, iv a4] [] (.tup [iv r.1, iv r.2]) := by
  refine fnc_startG (N := 44) (np := 500) hT Try.func32 rfl rfl (by kernel_rfl) ?_
  unfold M.impl_FreeExtension at hM
  refine tr_start (ks := [0, 2, 4, 6, 8]) (st' := [(0, .d (.agg (eXMonad.b a0))), (2, .d (iv a1)), (4, .d (iv a2)), (6, .d (iv a3)), (8, .d (iv a4))]) (by kernel_rfl) ?_
  refine tr_sr hT hm [] [2, 4, 6, 8, 10, 2011] [(2, .d (iv a1)), (4, .d (iv a2)), (6, .d (iv a3)), (8, .d (iv a4)), (10, .d (.rp 1005 0)), bxB 2011 (eXMonad.b a0)] .nil (by kernel_rfl) (by kernel_rfl) ?_
  refine tr_seq ?_
  obtain ⟨v1, hv1, hM⟩ := bind_some' hM
  refine tr_sr hT hm [(6, .call [1005, 1016, 1019] [] [.pt (eXMonad.b a0) 0, .sl ([a1, a2] : List Int).length 0 (([a1, a2] : List Int).flatMap eI.b), .sl ([a3, a4] : List Int).length 0 (([a3, a4] : List Int).flatMap eI.b)] [] (iv v1))] [2, 4, 6, 8, 10, 24, 2011] [(2, .d (iv a1)), (4, .d (iv a2)), (6, .d (iv a3)), (8, .d (iv a4)), (10, .d (.rp 1005 0)), (24, .d (iv v1)), bxB 2011 (eXMonad.b a0)] (cc (B := [1005, 1016, 1019]) (ρ := []) (rB := [(1005, .arr 1 [iv a0.On.Source.Objects, .sl a0.On.Source.From.length 0 (a0.On.Source.From.flatMap eI.b), .sl a0.On.Source.To.length 0 (a0.On.Source.To.flatMap eI.b), .sl a0.On.Source.Identity.length 0 (a0.On.Source.Identity.flatMap eI.b), .sl a0.On.Source.Composites.length 0 (a0.On.Source.Composites.flatMap (eS eI).b), iv a0.On.Target.Objects, .sl a0.On.Target.From.length 0 (a0.On.Target.From.flatMap eI.b), .sl a0.On.Target.To.length 0 (a0.On.Target.To.flatMap eI.b), .sl a0.On.Target.Identity.length 0 (a0.On.Target.Identity.flatMap eI.b), .sl a0.On.Target.Composites.length 0 (a0.On.Target.Composites.flatMap (eS eI).b), .sl a0.On.Objects.length 0 (a0.On.Objects.flatMap eI.b), .sl a0.On.Arrows.length 0 (a0.On.Arrows.flatMap eI.b), .sl a0.Unit.length 0 (a0.Unit.flatMap eI.b), .sl a0.Join.length 0 (a0.Join.flatMap eI.b)] []), (1016, .arr 1 (([a1, a2] : List Int).flatMap eI.o) []), (1019, .arr 1 (([a3, a4] : List Int).flatMap eI.o) [])]) ok56 (impl_pairCode_c a0 ([a1, a2] : List Int) ([a3, a4] : List Int) _ hv1) (.cons (.of1 (.rp (r := 1005) (sz := 1) (cells := [iv a0.On.Source.Objects, .sl a0.On.Source.From.length 0 (a0.On.Source.From.flatMap eI.b), .sl a0.On.Source.To.length 0 (a0.On.Source.To.flatMap eI.b), .sl a0.On.Source.Identity.length 0 (a0.On.Source.Identity.flatMap eI.b), .sl a0.On.Source.Composites.length 0 (a0.On.Source.Composites.flatMap (eS eI).b), iv a0.On.Target.Objects, .sl a0.On.Target.From.length 0 (a0.On.Target.From.flatMap eI.b), .sl a0.On.Target.To.length 0 (a0.On.Target.To.flatMap eI.b), .sl a0.On.Target.Identity.length 0 (a0.On.Target.Identity.flatMap eI.b), .sl a0.On.Target.Composites.length 0 (a0.On.Target.Composites.flatMap (eS eI).b), .sl a0.On.Objects.length 0 (a0.On.Objects.flatMap eI.b), .sl a0.On.Arrows.length 0 (a0.On.Arrows.flatMap eI.b), .sl a0.Unit.length 0 (a0.Unit.flatMap eI.b), .sl a0.Join.length 0 (a0.Join.flatMap eI.b)]) (refs := []) (memB (by kernel_rfl)) (by kernel_rfl) (.cons .v (.cons (.same rfl rfl) (.cons (.same rfl rfl) (.cons (.same rfl rfl) (.cons (.same rfl rfl) (.cons .v (.cons (.same rfl rfl) (.cons (.same rfl rfl) (.cons (.same rfl rfl) (.cons (.same rfl rfl) (.cons (.same rfl rfl) (.cons (.same rfl rfl) (.cons (.same rfl rfl) (.cons (.same rfl rfl) .nil)))))))))))))))) (.cons (.of1 (.rs (r := 1016) (sz := 1) (refs := []) (memB (by kernel_rfl)) (by kernel_rfl) (bor_flat eI_ok _ _ _))) (.cons (.of1 (.rs (r := 1019) (sz := 1) (refs := []) (memB (by kernel_rfl)) (by kernel_rfl) (bor_flat eI_ok _ _ _))) .nil))) (.inr ⟨.v, trivial⟩) .nil) (by kernel_rfl) (by kernel_rfl) ?_
  refine tr_sr hT hm [] [2, 4, 6, 8, 10, 24, 44, 2011] [(2, .d (iv a1)), (4, .d (iv a2)), (6, .d (iv a3)), (8, .d (iv a4)), (10, .d (.rp 1005 0)), (24, .d (iv v1)), (44, .d (bv (v1 != 0))), bxB 2011 (eXMonad.b a0)] .nil (by kernel_rfl) (by kernel_rfl) ?_
  rcases Bool.eq_false_or_eq_true (v1 != 0) with h2 | h2
  · have hM := ite_true' hM h2
    refine tr_condTe (e := v1 != 0) h2 (by kernel_rfl) ?_
    refine tr_sr hT hm [] [20, 22] [(20, .d (iv 0)), (22, .d (iv v1))] .nil (by kernel_rfl) (by kernel_rfl) ?_
    refine tr_ret (q_r (rg_r ?_))
    obtain rfl := Option.some.inj hM
    exact retg (names := []) .nil (by kernel_rfl)
  · have hM := ite_false' hM h2
    refine tr_condFe (e := v1 != 0) h2 (by kernel_rfl) ?_
    refine tr_skip (q_n ?_)
    refine tr_sr hT hm [] [2, 4, 6, 8, 10, 26, 2011] [(2, .d (iv a1)), (4, .d (iv a2)), (6, .d (iv a3)), (8, .d (iv a4)), (10, .d (.rp 1005 0)), (26, .d (.rp 1005 0)), bxB 2011 (eXMonad.b a0)] .nil (by kernel_rfl) (by kernel_rfl) ?_
    refine tr_seq ?_
    obtain ⟨v3, hv3, hM⟩ := bind_some' hM
    rcases Bool.eq_false_or_eq_true v3 with h4 | h4
    · have hM := ite_true' hM h4
      obtain ⟨v5, hv5, hM⟩ := bind_some' hM
      refine tr_sr hT hm [(2, .call [1005] [] [.pt (eXMonad.b a0) 0, iv a2, iv a3] [] (bv v3)), (4, .val (bv false)), (7, .call [1005] [] [.pt (eXCategory.b a0.On.Source) 0, iv a4] [] (.agg (eXends.o v5)))] [6, 8, 10, 26, 76, 2011] [(6, .d (iv a3)), (8, .d (iv a4)), (10, .d (.rp 1005 0)), (26, .d (.rp 1005 0)), (76, .d (bv (((v5.from_ == a1) && (v5.to_ == a2)) == false))), bxB 2011 (eXMonad.b a0)] (cc (B := [1005]) (ρ := []) (rB := [(1005, .arr 1 [iv a0.On.Source.Objects, .sl a0.On.Source.From.length 0 (a0.On.Source.From.flatMap eI.b), .sl a0.On.Source.To.length 0 (a0.On.Source.To.flatMap eI.b), .sl a0.On.Source.Identity.length 0 (a0.On.Source.Identity.flatMap eI.b), .sl a0.On.Source.Composites.length 0 (a0.On.Source.Composites.flatMap (eS eI).b), iv a0.On.Target.Objects, .sl a0.On.Target.From.length 0 (a0.On.Target.From.flatMap eI.b), .sl a0.On.Target.To.length 0 (a0.On.Target.To.flatMap eI.b), .sl a0.On.Target.Identity.length 0 (a0.On.Target.Identity.flatMap eI.b), .sl a0.On.Target.Composites.length 0 (a0.On.Target.Composites.flatMap (eS eI).b), .sl a0.On.Objects.length 0 (a0.On.Objects.flatMap eI.b), .sl a0.On.Arrows.length 0 (a0.On.Arrows.flatMap eI.b), .sl a0.Unit.length 0 (a0.Unit.flatMap eI.b), .sl a0.Join.length 0 (a0.Join.flatMap eI.b)] [])]) ok67 (impl_Monad_isAlgebra_c a0 a2 a3 _ hv3) (.cons (.of1 (.rp (r := 1005) (sz := 1) (cells := [iv a0.On.Source.Objects, .sl a0.On.Source.From.length 0 (a0.On.Source.From.flatMap eI.b), .sl a0.On.Source.To.length 0 (a0.On.Source.To.flatMap eI.b), .sl a0.On.Source.Identity.length 0 (a0.On.Source.Identity.flatMap eI.b), .sl a0.On.Source.Composites.length 0 (a0.On.Source.Composites.flatMap (eS eI).b), iv a0.On.Target.Objects, .sl a0.On.Target.From.length 0 (a0.On.Target.From.flatMap eI.b), .sl a0.On.Target.To.length 0 (a0.On.Target.To.flatMap eI.b), .sl a0.On.Target.Identity.length 0 (a0.On.Target.Identity.flatMap eI.b), .sl a0.On.Target.Composites.length 0 (a0.On.Target.Composites.flatMap (eS eI).b), .sl a0.On.Objects.length 0 (a0.On.Objects.flatMap eI.b), .sl a0.On.Arrows.length 0 (a0.On.Arrows.flatMap eI.b), .sl a0.Unit.length 0 (a0.Unit.flatMap eI.b), .sl a0.Join.length 0 (a0.Join.flatMap eI.b)]) (refs := []) (memB (by kernel_rfl)) (by kernel_rfl) (.cons .v (.cons (.same rfl rfl) (.cons (.same rfl rfl) (.cons (.same rfl rfl) (.cons (.same rfl rfl) (.cons .v (.cons (.same rfl rfl) (.cons (.same rfl rfl) (.cons (.same rfl rfl) (.cons (.same rfl rfl) (.cons (.same rfl rfl) (.cons (.same rfl rfl) (.cons (.same rfl rfl) (.cons (.same rfl rfl) .nil)))))))))))))))) (.cons (.same rfl) (.cons (.same rfl) .nil))) (.inr ⟨.v, trivial⟩) (.cons (congrArg (fun b => bv b) (congrArg not h4)) (cc (B := [1005]) (ρ := []) (rB := [(1005, .arr 1 [iv a0.On.Source.Objects, .sl a0.On.Source.From.length 0 (a0.On.Source.From.flatMap eI.b), .sl a0.On.Source.To.length 0 (a0.On.Source.To.flatMap eI.b), .sl a0.On.Source.Identity.length 0 (a0.On.Source.Identity.flatMap eI.b), .sl a0.On.Source.Composites.length 0 (a0.On.Source.Composites.flatMap (eS eI).b), iv a0.On.Target.Objects, .sl a0.On.Target.From.length 0 (a0.On.Target.From.flatMap eI.b), .sl a0.On.Target.To.length 0 (a0.On.Target.To.flatMap eI.b), .sl a0.On.Target.Identity.length 0 (a0.On.Target.Identity.flatMap eI.b), .sl a0.On.Target.Composites.length 0 (a0.On.Target.Composites.flatMap (eS eI).b), .sl a0.On.Objects.length 0 (a0.On.Objects.flatMap eI.b), .sl a0.On.Arrows.length 0 (a0.On.Arrows.flatMap eI.b), .sl a0.Unit.length 0 (a0.Unit.flatMap eI.b), .sl a0.Join.length 0 (a0.Join.flatMap eI.b)] [])]) ok63 (impl_Category_ends_c a0.On.Source a4 _ hv5) (.cons (.rpSub (r := 1005) (off := 0) (n := 5) (sz := 1) (cells := [iv a0.On.Source.Objects, .sl a0.On.Source.From.length 0 (a0.On.Source.From.flatMap eI.b), .sl a0.On.Source.To.length 0 (a0.On.Source.To.flatMap eI.b), .sl a0.On.Source.Identity.length 0 (a0.On.Source.Identity.flatMap eI.b), .sl a0.On.Source.Composites.length 0 (a0.On.Source.Composites.flatMap (eS eI).b), iv a0.On.Target.Objects, .sl a0.On.Target.From.length 0 (a0.On.Target.From.flatMap eI.b), .sl a0.On.Target.To.length 0 (a0.On.Target.To.flatMap eI.b), .sl a0.On.Target.Identity.length 0 (a0.On.Target.Identity.flatMap eI.b), .sl a0.On.Target.Composites.length 0 (a0.On.Target.Composites.flatMap (eS eI).b), .sl a0.On.Objects.length 0 (a0.On.Objects.flatMap eI.b), .sl a0.On.Arrows.length 0 (a0.On.Arrows.flatMap eI.b), .sl a0.Unit.length 0 (a0.Unit.flatMap eI.b), .sl a0.Join.length 0 (a0.Join.flatMap eI.b)]) (refs := []) (ds' := eXCategory.b a0.On.Source) (by kernel_rfl) (by kernel_rfl) (.cons .v (.cons (.same rfl rfl) (.cons (.same rfl rfl) (.cons (.same rfl rfl) (.cons (.same rfl rfl) (.cons .v (.cons (.same rfl rfl) (.cons (.same rfl rfl) (.cons (.same rfl rfl) (.cons (.same rfl rfl) (.cons (.same rfl rfl) (.cons (.same rfl rfl) (.cons (.same rfl rfl) (.cons (.same rfl rfl) .nil)))))))))))))) (Nat.le_of_ble_eq_true rfl) (by kernel_rfl) (by kernel_rfl)) (.cons (.same rfl) .nil)) (.inr ⟨(.agg (eXends_nb _)), trivial⟩) (.cons (by kernel_rfl : Try.prog.stoodInHeld 84 = false) (.cons (by kernel_rfl : Try.prog.eqGuardType Try.prog.depth 84 = false) .nil))))) (by kernel_rfl) (by kernel_rfl) ?_
      rcases Bool.eq_false_or_eq_true (((v5.from_ == a1) && (v5.to_ == a2)) == false) with h6 | h6
      · have hM := ite_true' hM h6
        refine tr_condTe (e := ((v5.from_ == a1) && (v5.to_ == a2)) == false) h6 (by kernel_rfl) ?_
        refine tr_sr hT hm [] [20, 22] [(20, .d (iv 0)), (22, .d (iv 5))] .nil (by kernel_rfl) (by kernel_rfl) ?_
        refine tr_ret (q_r (rg_r ?_))
        obtain rfl := Option.some.inj hM
        exact retg (names := []) .nil (by kernel_rfl)
      · have hM := ite_false' hM h6
        refine tr_condFe (e := ((v5.from_ == a1) && (v5.to_ == a2)) == false) h6 (by kernel_rfl) ?_
        refine tr_skip (q_n ?_)
        obtain ⟨v7, hv7, hM⟩ := bind_some' hM
        obtain ⟨v8, hv8, hM⟩ := bind_some' hM
        refine tr_sr hT hm [(2, .call [1005] [] [.pt (eXMonad.b a0) 0, iv a4] [] (iv v7)), (4, .call [1005] [] [.pt (eXCategory.b a0.On.Source) 0, iv v7, iv a3] [] (iv v8))] [20, 22] [(20, .d (iv v8)), (22, .d (iv 0))] (cc (B := [1005]) (ρ := []) (rB := [(1005, .arr 1 [iv a0.On.Source.Objects, .sl a0.On.Source.From.length 0 (a0.On.Source.From.flatMap eI.b), .sl a0.On.Source.To.length 0 (a0.On.Source.To.flatMap eI.b), .sl a0.On.Source.Identity.length 0 (a0.On.Source.Identity.flatMap eI.b), .sl a0.On.Source.Composites.length 0 (a0.On.Source.Composites.flatMap (eS eI).b), iv a0.On.Target.Objects, .sl a0.On.Target.From.length 0 (a0.On.Target.From.flatMap eI.b), .sl a0.On.Target.To.length 0 (a0.On.Target.To.flatMap eI.b), .sl a0.On.Target.Identity.length 0 (a0.On.Target.Identity.flatMap eI.b), .sl a0.On.Target.Composites.length 0 (a0.On.Target.Composites.flatMap (eS eI).b), .sl a0.On.Objects.length 0 (a0.On.Objects.flatMap eI.b), .sl a0.On.Arrows.length 0 (a0.On.Arrows.flatMap eI.b), .sl a0.Unit.length 0 (a0.Unit.flatMap eI.b), .sl a0.Join.length 0 (a0.Join.flatMap eI.b)] [])]) ok70 (impl_Monad_arrow_c a0 a4 _ hv7) (.cons (.of1 (.rp (r := 1005) (sz := 1) (cells := [iv a0.On.Source.Objects, .sl a0.On.Source.From.length 0 (a0.On.Source.From.flatMap eI.b), .sl a0.On.Source.To.length 0 (a0.On.Source.To.flatMap eI.b), .sl a0.On.Source.Identity.length 0 (a0.On.Source.Identity.flatMap eI.b), .sl a0.On.Source.Composites.length 0 (a0.On.Source.Composites.flatMap (eS eI).b), iv a0.On.Target.Objects, .sl a0.On.Target.From.length 0 (a0.On.Target.From.flatMap eI.b), .sl a0.On.Target.To.length 0 (a0.On.Target.To.flatMap eI.b), .sl a0.On.Target.Identity.length 0 (a0.On.Target.Identity.flatMap eI.b), .sl a0.On.Target.Composites.length 0 (a0.On.Target.Composites.flatMap (eS eI).b), .sl a0.On.Objects.length 0 (a0.On.Objects.flatMap eI.b), .sl a0.On.Arrows.length 0 (a0.On.Arrows.flatMap eI.b), .sl a0.Unit.length 0 (a0.Unit.flatMap eI.b), .sl a0.Join.length 0 (a0.Join.flatMap eI.b)]) (refs := []) (memB (by kernel_rfl)) (by kernel_rfl) (.cons .v (.cons (.same rfl rfl) (.cons (.same rfl rfl) (.cons (.same rfl rfl) (.cons (.same rfl rfl) (.cons .v (.cons (.same rfl rfl) (.cons (.same rfl rfl) (.cons (.same rfl rfl) (.cons (.same rfl rfl) (.cons (.same rfl rfl) (.cons (.same rfl rfl) (.cons (.same rfl rfl) (.cons (.same rfl rfl) .nil)))))))))))))))) (.cons (.same rfl) .nil)) (.inr ⟨.v, trivial⟩) (cc (B := [1005]) (ρ := []) (rB := [(1005, .arr 1 [iv a0.On.Source.Objects, .sl a0.On.Source.From.length 0 (a0.On.Source.From.flatMap eI.b), .sl a0.On.Source.To.length 0 (a0.On.Source.To.flatMap eI.b), .sl a0.On.Source.Identity.length 0 (a0.On.Source.Identity.flatMap eI.b), .sl a0.On.Source.Composites.length 0 (a0.On.Source.Composites.flatMap (eS eI).b), iv a0.On.Target.Objects, .sl a0.On.Target.From.length 0 (a0.On.Target.From.flatMap eI.b), .sl a0.On.Target.To.length 0 (a0.On.Target.To.flatMap eI.b), .sl a0.On.Target.Identity.length 0 (a0.On.Target.Identity.flatMap eI.b), .sl a0.On.Target.Composites.length 0 (a0.On.Target.Composites.flatMap (eS eI).b), .sl a0.On.Objects.length 0 (a0.On.Objects.flatMap eI.b), .sl a0.On.Arrows.length 0 (a0.On.Arrows.flatMap eI.b), .sl a0.Unit.length 0 (a0.Unit.flatMap eI.b), .sl a0.Join.length 0 (a0.Join.flatMap eI.b)] [])]) ok69 (impl_Category_then_c a0.On.Source v7 a3 _ hv8) (.cons (.rpSub (r := 1005) (off := 0) (n := 5) (sz := 1) (cells := [iv a0.On.Source.Objects, .sl a0.On.Source.From.length 0 (a0.On.Source.From.flatMap eI.b), .sl a0.On.Source.To.length 0 (a0.On.Source.To.flatMap eI.b), .sl a0.On.Source.Identity.length 0 (a0.On.Source.Identity.flatMap eI.b), .sl a0.On.Source.Composites.length 0 (a0.On.Source.Composites.flatMap (eS eI).b), iv a0.On.Target.Objects, .sl a0.On.Target.From.length 0 (a0.On.Target.From.flatMap eI.b), .sl a0.On.Target.To.length 0 (a0.On.Target.To.flatMap eI.b), .sl a0.On.Target.Identity.length 0 (a0.On.Target.Identity.flatMap eI.b), .sl a0.On.Target.Composites.length 0 (a0.On.Target.Composites.flatMap (eS eI).b), .sl a0.On.Objects.length 0 (a0.On.Objects.flatMap eI.b), .sl a0.On.Arrows.length 0 (a0.On.Arrows.flatMap eI.b), .sl a0.Unit.length 0 (a0.Unit.flatMap eI.b), .sl a0.Join.length 0 (a0.Join.flatMap eI.b)]) (refs := []) (ds' := eXCategory.b a0.On.Source) (by kernel_rfl) (by kernel_rfl) (.cons .v (.cons (.same rfl rfl) (.cons (.same rfl rfl) (.cons (.same rfl rfl) (.cons (.same rfl rfl) (.cons .v (.cons (.same rfl rfl) (.cons (.same rfl rfl) (.cons (.same rfl rfl) (.cons (.same rfl rfl) (.cons (.same rfl rfl) (.cons (.same rfl rfl) (.cons (.same rfl rfl) (.cons (.same rfl rfl) .nil)))))))))))))) (Nat.le_of_ble_eq_true rfl) (by kernel_rfl) (by kernel_rfl)) (.cons (.same rfl) (.cons (.same rfl) .nil))) (.inr ⟨.v, trivial⟩) .nil)) (by kernel_rfl) (by kernel_rfl) ?_
        refine tr_ret (rg_r ?_)
        obtain rfl := Option.some.inj hM
        exact retg (names := []) .nil (by kernel_rfl)
    · have hM := ite_false' hM h4
      refine tr_sr hT hm [(2, .call [1005] [] [.pt (eXMonad.b a0) 0, iv a2, iv a3] [] (bv v3)), (4, .val (bv true))] [6, 8, 10, 26, 76, 2011] [(6, .d (iv a3)), (8, .d (iv a4)), (10, .d (.rp 1005 0)), (26, .d (.rp 1005 0)), (76, .d (bv true)), bxB 2011 (eXMonad.b a0)] (cc (B := [1005]) (ρ := []) (rB := [(1005, .arr 1 [iv a0.On.Source.Objects, .sl a0.On.Source.From.length 0 (a0.On.Source.From.flatMap eI.b), .sl a0.On.Source.To.length 0 (a0.On.Source.To.flatMap eI.b), .sl a0.On.Source.Identity.length 0 (a0.On.Source.Identity.flatMap eI.b), .sl a0.On.Source.Composites.length 0 (a0.On.Source.Composites.flatMap (eS eI).b), iv a0.On.Target.Objects, .sl a0.On.Target.From.length 0 (a0.On.Target.From.flatMap eI.b), .sl a0.On.Target.To.length 0 (a0.On.Target.To.flatMap eI.b), .sl a0.On.Target.Identity.length 0 (a0.On.Target.Identity.flatMap eI.b), .sl a0.On.Target.Composites.length 0 (a0.On.Target.Composites.flatMap (eS eI).b), .sl a0.On.Objects.length 0 (a0.On.Objects.flatMap eI.b), .sl a0.On.Arrows.length 0 (a0.On.Arrows.flatMap eI.b), .sl a0.Unit.length 0 (a0.Unit.flatMap eI.b), .sl a0.Join.length 0 (a0.Join.flatMap eI.b)] [])]) ok67 (impl_Monad_isAlgebra_c a0 a2 a3 _ hv3) (.cons (.of1 (.rp (r := 1005) (sz := 1) (cells := [iv a0.On.Source.Objects, .sl a0.On.Source.From.length 0 (a0.On.Source.From.flatMap eI.b), .sl a0.On.Source.To.length 0 (a0.On.Source.To.flatMap eI.b), .sl a0.On.Source.Identity.length 0 (a0.On.Source.Identity.flatMap eI.b), .sl a0.On.Source.Composites.length 0 (a0.On.Source.Composites.flatMap (eS eI).b), iv a0.On.Target.Objects, .sl a0.On.Target.From.length 0 (a0.On.Target.From.flatMap eI.b), .sl a0.On.Target.To.length 0 (a0.On.Target.To.flatMap eI.b), .sl a0.On.Target.Identity.length 0 (a0.On.Target.Identity.flatMap eI.b), .sl a0.On.Target.Composites.length 0 (a0.On.Target.Composites.flatMap (eS eI).b), .sl a0.On.Objects.length 0 (a0.On.Objects.flatMap eI.b), .sl a0.On.Arrows.length 0 (a0.On.Arrows.flatMap eI.b), .sl a0.Unit.length 0 (a0.Unit.flatMap eI.b), .sl a0.Join.length 0 (a0.Join.flatMap eI.b)]) (refs := []) (memB (by kernel_rfl)) (by kernel_rfl) (.cons .v (.cons (.same rfl rfl) (.cons (.same rfl rfl) (.cons (.same rfl rfl) (.cons (.same rfl rfl) (.cons .v (.cons (.same rfl rfl) (.cons (.same rfl rfl) (.cons (.same rfl rfl) (.cons (.same rfl rfl) (.cons (.same rfl rfl) (.cons (.same rfl rfl) (.cons (.same rfl rfl) (.cons (.same rfl rfl) .nil)))))))))))))))) (.cons (.same rfl) (.cons (.same rfl) .nil))) (.inr ⟨.v, trivial⟩) (.cons (congrArg (fun b => bv b) (congrArg not h4)) .nil)) (by kernel_rfl) (by kernel_rfl) ?_
      refine tr_condT (by kernel_rfl) ?_
      refine tr_sr hT hm [] [20, 22] [(20, .d (iv 0)), (22, .d (iv 5))] .nil (by kernel_rfl) (by kernel_rfl) ?_
      refine tr_ret (q_r (rg_r ?_))
      obtain rfl := Option.some.inj hM
      exact retg (names := []) .nil (by kernel_rfl)

theorem ok8 : CallOk Try.prog 8 := callOk_of Try.func8 (by kernel_rfl) (by kernel_rfl)
theorem laws_FnExactFreeExtension_c (a0 : XMonad) (a1 : Int) (a2 : Int) (a3 : Int) (a4 : Int) (r : Bool) (hM : M.laws_FnExactFreeExtension a0 a1 a2 a3 a4 = some r) :
    FnC Try.prog 8 [] [.agg (eXMonad.b a0), iv a1, iv a2, iv a3, iv a4] [] (bv r) := by
  refine fnc_startG (N := 56) (np := 500) hT Try.func8 rfl rfl (by kernel_rfl) ?_
  unfold M.laws_FnExactFreeExtension at hM
  refine tr_start (ks := [0, 2, 4, 6, 8]) (st' := [(0, .d (.agg (eXMonad.b a0))), (2, .d (iv a1)), (4, .d (iv a2)), (6, .d (iv a3)), (8, .d (iv a4))]) (by kernel_rfl) ?_
  refine tr_sr hT hm [] [2, 4, 6, 8, 10, 2011] [(2, .d (iv a1)), (4, .d (iv a2)), (6, .d (iv a3)), (8, .d (iv a4)), (10, .d (.rp 1005 0)), bxB 2011 (eXMonad.b a0)] .nil (by kernel_rfl) (by kernel_rfl) ?_
  refine tr_sr hT hm [] [2, 4, 6, 8, 10, 22, 2011] [(2, .d (iv a1)), (4, .d (iv a2)), (6, .d (iv a3)), (8, .d (iv a4)), (10, .d (.rp 1005 0)), (22, .d (iv 1048576)), bxB 2011 (eXMonad.b a0)] .nil (by kernel_rfl) (by kernel_rfl) ?_
  obtain ⟨v1, hv1, hM⟩ := bind_some' hM
  refine tr_sr hT hm [(2, .call [] [] [.agg (eXMonad.b a0), iv 1048576] [] (iv v1))] [2, 4, 6, 8, 10, 22, 2011] [(2, .d (iv a1)), (4, .d (iv a2)), (6, .d (iv a3)), (8, .d (iv a4)), (10, .d (.rp 1005 0)), (22, .d (iv v1)), bxB 2011 (eXMonad.b a0)] (cc0 ok15 (laws_szMonad_c a0 1048576 _ hv1) (by kernel_rfl) .nil) (by kernel_rfl) (by kernel_rfl) ?_
  refine tr_seq ?_
  refine tr_sr hT hm [] [2, 4, 6, 8, 10, 42, 2011] [(2, .d (iv a1)), (4, .d (iv a2)), (6, .d (iv a3)), (8, .d (iv a4)), (10, .d (.rp 1005 0)), (42, .d (bv (decide (v1 < 0)))), bxB 2011 (eXMonad.b a0)] .nil (by kernel_rfl) (by kernel_rfl) ?_
  rcases Bool.eq_false_or_eq_true (decide (v1 < 0)) with h2 | h2
  · have hM := ite_true' hM h2
    refine tr_condTe (e := decide (v1 < 0)) h2 (by kernel_rfl) ?_
    refine tr_sr hT hm [] [20] [(20, .d (bv true))] .nil (by kernel_rfl) (by kernel_rfl) ?_
    refine tr_ret (q_r (rg_r ?_))
    obtain rfl := Option.some.inj hM
    exact retg (names := []) .nil (by kernel_rfl)
  · have hM := ite_false' hM h2
    refine tr_condFe (e := decide (v1 < 0)) h2 (by kernel_rfl) ?_
    refine tr_skip (q_n ?_)
    obtain ⟨v3, hv3, hM⟩ := bind_some' hM
    obtain ⟨v4, hv4, hM⟩ := bind_some' hM
    refine tr_sr hT hm [(1, .call [] [] [.agg (eXMonad.b a0)] [] (.agg (eXMonad.o v3))), (6, .call (rsR 26000 (eXMonad.o v3)) [] [.agg (eXMonad.b v3), iv a1, iv a2, iv a3, iv a4] [] (.tup [iv v4.1, iv v4.2]))] [2, 4, 6, 8, 10, 24, 26, 2011] [(2, .d (iv a1)), (4, .d (iv a2)), (6, .d (iv a3)), (8, .d (iv a4)), (10, .d (.rp 1005 0)), (24, .d (iv v4.1)), (26, .d (iv v4.2)), bxB 2011 (eXMonad.b a0)] (cc0 ok17 (laws_toMonad_c a0 _ hv3) (by kernel_rfl) (cc (B := (rsR 26000 (eXMonad.o v3))) (ρ := []) (rB := (rsP 26000 (eXMonad.o v3))) ok31 (spec_FreeExtension_c v3 a1 a2 a3 a4 _ hv4) (.cons (bor_rs eXMonad_r (q := 26000) (x := v3) (by kernel_rfl) (by kernel_rfl)) (.cons (.same rfl) (.cons (.same rfl) (.cons (.same rfl) (.cons (.same rfl) .nil))))) (.inr ⟨(nobor_tup (.cons .v (.cons .v .nil))), trivial⟩) .nil)) (by kernel_rfl) (by kernel_rfl) ?_
    refine tr_sr hT hm [(1, .call [] [] [.agg (eXMonad.b a0)] [] (.agg (eXMonad.o v3)))] [2, 4, 6, 8, 10, 24, 26, 28, 2011, 2029, 70003, 70005, 70007, 70009, 70013, 70015, 70017, 70019, 70021, 70023, 70025, 70027] ([(2, .d (iv a1)), (4, .d (iv a2)), (6, .d (iv a3)), (8, .d (iv a4)), (10, .d (.rp 1005 0)), (24, .d (iv v4.1)), (26, .d (iv v4.2)), (28, .d (.rp 1014 0)), bxB 2011 (eXMonad.b a0), bxO 2029 35000 (eXMonad.o v3)] ++ rsS 35000 (eXMonad.o v3)) (cc0 ok17 (laws_toMonad_c a0 _ hv3) (by kernel_rfl) (.cons (Nat.le_of_ble_eq_true (n := 14) (m := 14) rfl) .nil)) (by kernel_rfl) (by kernel_rfl) ?_
    obtain ⟨v5, hv5, hM⟩ := bind_some' hM
    refine tr_sr hT hm [(5, .call (rsR 35000 (eXMonad.o v3)) [] [.agg (eXMonad.b v3), iv a1, iv a2, iv a3, iv a4] [] (.tup [iv v5.1, iv v5.2]))] [10, 24, 26, 28, 30, 32, 2011, 2029, 70003, 70005, 70007, 70009, 70013, 70015, 70017, 70019, 70021, 70023, 70025, 70027] ([(10, .d (.rp 1005 0)), (24, .d (iv v4.1)), (26, .d (iv v4.2)), (28, .d (.rp 1014 0)), (30, .d (iv v5.1)), (32, .d (iv v5.2)), bxB 2011 (eXMonad.b a0), bxO 2029 35000 (eXMonad.o v3)] ++ rsS 35000 (eXMonad.o v3)) (cc (B := (rsR 35000 (eXMonad.o v3))) (ρ := []) (rB := (rsP 35000 (eXMonad.o v3))) ok32 (impl_FreeExtension_c v3 a1 a2 a3 a4 _ hv5) (.cons (bor_rs eXMonad_r (q := 35000) (x := v3) (by kernel_rfl) (by kernel_rfl)) (.cons (.same rfl) (.cons (.same rfl) (.cons (.same rfl) (.cons (.same rfl) .nil))))) (.inr ⟨(nobor_tup (.cons .v (.cons .v .nil))), trivial⟩) .nil) (by kernel_rfl) (by kernel_rfl) ?_
    refine tr_seq ?_
    rcases Bool.eq_false_or_eq_true (v5.1 != v4.1) with h6 | h6
    · have hM := ite_true' hM h6
      refine tr_sr hT hm [(3, .val (bv true))] [10, 28, 100, 2011, 2029, 70003, 70005, 70007, 70009, 70013, 70015, 70017, 70019, 70021, 70023, 70025, 70027] ([(10, .d (.rp 1005 0)), (28, .d (.rp 1014 0)), (100, .d (bv true)), bxB 2011 (eXMonad.b a0), bxO 2029 35000 (eXMonad.o v3)] ++ rsS 35000 (eXMonad.o v3)) (.cons (congrArg (fun b => bv b) h6) .nil) (by kernel_rfl) (by kernel_rfl) ?_
      refine tr_condT (by kernel_rfl) ?_
      refine tr_sr hT hm [] [20] [(20, .d (bv false))] .nil (by kernel_rfl) (by kernel_rfl) ?_
      refine tr_ret (q_r (rg_r ?_))
      obtain rfl := Option.some.inj hM
      exact retg (names := []) .nil (by kernel_rfl)
    · have hM := ite_false' hM h6
      refine tr_sr hT hm [(3, .val (bv false))] [10, 28, 100, 2011, 2029, 70003, 70005, 70007, 70009, 70013, 70015, 70017, 70019, 70021, 70023, 70025, 70027] ([(10, .d (.rp 1005 0)), (28, .d (.rp 1014 0)), (100, .d (bv (v5.2 != v4.2))), bxB 2011 (eXMonad.b a0), bxO 2029 35000 (eXMonad.o v3)] ++ rsS 35000 (eXMonad.o v3)) (.cons (congrArg (fun b => bv b) h6) .nil) (by kernel_rfl) (by kernel_rfl) ?_
      rcases Bool.eq_false_or_eq_true (v5.2 != v4.2) with h7 | h7
      · have hM := ite_true' hM h7
        refine tr_condTe (e := v5.2 != v4.2) h7 (by kernel_rfl) ?_
        refine tr_sr hT hm [] [20] [(20, .d (bv false))] .nil (by kernel_rfl) (by kernel_rfl) ?_
        refine tr_ret (q_r (rg_r ?_))
        obtain rfl := Option.some.inj hM
        exact retg (names := []) .nil (by kernel_rfl)
      · have hM := ite_false' hM h7
        refine tr_condFe (e := v5.2 != v4.2) h7 (by kernel_rfl) ?_
        refine tr_skip (q_n ?_)
        refine tr_seq ?_
        obtain ⟨v8, hv8, hM⟩ := bind_some' hM
        refine tr_sr hT hm [(2, .call [] [] [.agg (eXMonad.b a0)] [] (.agg (eXMonad.o v3))), (3, .call (rsR 35000 (eXMonad.o v3) ++ rsR 55000 (eXMonad.o v3)) [] [.agg (eXMonad.b v3), .agg (eXMonad.b v3)] [] (bv v8))] [110] [(110, .d (bv (!v8)))] (cc0 ok17 (laws_toMonad_c a0 _ hv3) (by kernel_rfl) (cc (B := (rsR 35000 (eXMonad.o v3) ++ rsR 55000 (eXMonad.o v3))) (ρ := []) (rB := (rsP 35000 (eXMonad.o v3) ++ rsP 55000 (eXMonad.o v3))) ok19 (laws_eqMonad_c v3 v3 _ hv8) (.cons (bor_rs eXMonad_r (q := 35000) (x := v3) (by kernel_rfl) (by kernel_rfl)) (.cons (bor_rs eXMonad_r (q := 55000) (x := v3) (by kernel_rfl) (by kernel_rfl)) .nil)) (.inr ⟨.v, trivial⟩) .nil)) (by kernel_rfl) (by kernel_rfl) ?_
        rcases Bool.eq_false_or_eq_true v8 with h9 | h9
        · have hM := ite_true' hM h9
          refine tr_condFe (e := !v8) (congrArg not h9) (by kernel_rfl) ?_
          refine tr_skip (q_n ?_)
          refine tr_sr hT hm [] [20] [(20, .d (bv true))] .nil (by kernel_rfl) (by kernel_rfl) ?_
          refine tr_ret (rg_r ?_)
          obtain rfl := Option.some.inj hM
          exact retg (names := []) .nil (by kernel_rfl)
        · have hM := ite_false' hM h9
          refine tr_condTe (e := !v8) (congrArg not h9) (by kernel_rfl) ?_
          refine tr_sr hT hm [] [20] [(20, .d (bv false))] .nil (by kernel_rfl) (by kernel_rfl) ?_
          refine tr_ret (q_r (rg_r ?_))
          obtain rfl := Option.some.inj hM
          exact retg (names := []) .nil (by kernel_rfl)

end Go.Proofs.Ytpfdieaiogfihaa.Ww39
