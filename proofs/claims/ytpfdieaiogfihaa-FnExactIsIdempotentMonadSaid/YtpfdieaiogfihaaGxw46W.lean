/- Walks. Printed by wip/gen. -/
import Derived.Test.YtpfdieaiogfihaaGxw46M
import Derived.Test.YtpfdieaiogfihaaGxwMW
import Derived.Test.YtpfdieaiogfihaaGxwVW
import Derived.KernelRfl
namespace Go.Proofs.Ytpfdieaiogfihaa.Ww46
open Go.Gx Go.Proofs.Ytpfdieaiogfihaa.WvB Go.Proofs.Ytpfdieaiogfihaa.WwN Go.Proofs.Ytpfdieaiogfihaa.WvS Go.Proofs.Ytpfdieaiogfihaa.WvF Go.Proofs.Ytpfdieaiogfihaa.WwT Go.Proofs.Ytpfdieaiogfihaa.WwU Go.Proofs.Ytpfdieaiogfihaa.WvH Go.Proofs.Ytpfdieaiogfihaa.WvI Go.Proofs.Ytpfdieaiogfihaa.WwM Go.Proofs.Ytpfdieaiogfihaa.WwV

theorem eXCategory_r : EncR eXCategory := (eA_r (eC_r eI_r _) (eA_r (eC_r (eS_r eI_ok) _) (eA_r (eC_r (eS_r eI_ok) _) (eA_r (eC_r (eS_r eI_ok) _) (eC_r (eS_r (eS_ok eI_ok)) _)))))
theorem eXFunctor_r : EncR eXFunctor := (eA_r (eC_r eXCategory_r _) (eA_r (eC_r eXCategory_r _) (eA_r (eC_r (eS_r eI_ok) _) (eC_r (eS_r eI_ok) _))))
theorem eXends_r : EncR eXends := (eA_r (eC_r eI_r _) (eC_r eI_r _))
theorem eXTransformation_r : EncR eXTransformation := (eA_r (eC_r eXFunctor_r _) (eA_r (eC_r eXFunctor_r _) (eC_r (eS_r eI_ok) _)))
theorem eXMonad_r : EncR eXMonad := (eA_r (eC_r eXFunctor_r _) (eA_r (eC_r (eS_r eI_ok) _) (eC_r (eS_r eI_ok) _)))
def T : Tab := [(2, ⟨.int .i64, 1, 8, [.int .i64 0]⟩),
  (3, ⟨.int .i64, 1, 8, [.int .i64 0]⟩),
  (4, ⟨.bool, 1, 1, [.bool false]⟩),
  (22, ⟨.slice 2, 1, 24, [.slice .none 0 0]⟩),
  (23, ⟨.slice 22, 1, 24, [.slice .none 0 0]⟩),
  (25, ⟨.struct #[⟨"Objects", 2, 0, false, "", "", 0⟩, ⟨"From", 22, 1, false, "", "", 8⟩, ⟨"To", 22, 2, false, "", "", 32⟩, ⟨"Identity", 22, 3, false, "", "", 56⟩, ⟨"Composites", 23, 4, false, "", "", 80⟩], 5, 104, [.int .i64 0, .slice .none 0 0, .slice .none 0 0, .slice .none 0 0, .slice .none 0 0]⟩),
  (27, ⟨.struct #[⟨"Source", 25, 0, false, "", "", 0⟩, ⟨"Target", 25, 5, false, "", "", 104⟩, ⟨"Objects", 22, 10, false, "", "", 208⟩, ⟨"Arrows", 22, 11, false, "", "", 232⟩], 12, 256, [.int .i64 0, .slice .none 0 0, .slice .none 0 0, .slice .none 0 0, .slice .none 0 0, .int .i64 0, .slice .none 0 0, .slice .none 0 0, .slice .none 0 0, .slice .none 0 0, .slice .none 0 0, .slice .none 0 0]⟩),
  (29, ⟨.struct #[⟨"On", 27, 0, false, "", "", 0⟩, ⟨"Unit", 22, 12, false, "", "", 256⟩, ⟨"Join", 22, 13, false, "", "", 280⟩], 14, 304, [.int .i64 0, .slice .none 0 0, .slice .none 0 0, .slice .none 0 0, .slice .none 0 0, .int .i64 0, .slice .none 0 0, .slice .none 0 0, .slice .none 0 0, .slice .none 0 0, .slice .none 0 0, .slice .none 0 0, .slice .none 0 0, .slice .none 0 0]⟩),
  (32, ⟨.struct #[⟨"Objects", 2, 0, false, "", "", 0⟩, ⟨"From", 22, 1, false, "", "", 8⟩, ⟨"To", 22, 2, false, "", "", 32⟩, ⟨"Identity", 22, 3, false, "", "", 56⟩, ⟨"Composites", 23, 4, false, "", "", 80⟩], 5, 104, [.int .i64 0, .slice .none 0 0, .slice .none 0 0, .slice .none 0 0, .slice .none 0 0]⟩),
  (34, ⟨.struct #[⟨"Source", 32, 0, false, "", "", 0⟩, ⟨"Target", 32, 5, false, "", "", 104⟩, ⟨"Objects", 22, 10, false, "", "", 208⟩, ⟨"Arrows", 22, 11, false, "", "", 232⟩], 12, 256, [.int .i64 0, .slice .none 0 0, .slice .none 0 0, .slice .none 0 0, .slice .none 0 0, .int .i64 0, .slice .none 0 0, .slice .none 0 0, .slice .none 0 0, .slice .none 0 0, .slice .none 0 0, .slice .none 0 0]⟩),
  (36, ⟨.struct #[⟨"On", 34, 0, false, "", "", 0⟩, ⟨"Unit", 22, 12, false, "", "", 256⟩, ⟨"Join", 22, 13, false, "", "", 280⟩], 14, 304, [.int .i64 0, .slice .none 0 0, .slice .none 0 0, .slice .none 0 0, .slice .none 0 0, .int .i64 0, .slice .none 0 0, .slice .none 0 0, .slice .none 0 0, .slice .none 0 0, .slice .none 0 0, .slice .none 0 0, .slice .none 0 0, .slice .none 0 0]⟩)]
theorem hT : TabOk Try.prog T := ⟨tiok (by kernel_rfl) (by kernel_rfl), tiok (by kernel_rfl) (by kernel_rfl), tiok (by kernel_rfl) (by kernel_rfl), tiok (by kernel_rfl) (by kernel_rfl), tiok (by kernel_rfl) (by kernel_rfl), tiok (by kernel_rfl) (by kernel_rfl), tiok (by kernel_rfl) (by kernel_rfl), tiok (by kernel_rfl) (by kernel_rfl), tiok (by kernel_rfl) (by kernel_rfl), tiok (by kernel_rfl) (by kernel_rfl), tiok (by kernel_rfl) (by kernel_rfl), trivial⟩
theorem hm : Try.prog.follows .mixedOrders = true := by kernel_rfl

theorem ok41 : CallOk Try.prog 41 := callOk_of Try.func41 (by kernel_rfl) (by kernel_rfl)
theorem spec_IsIdempotentMonad_c (a0 : XMonad) (r : Bool × Int) (hM : M.spec_IsIdempotentMonad a0 = some r) :
    FnC Try.prog 41 [] [.agg (eXMonad.b a0)] [] (.tup [bv r.1, iv r.2]) := by
  refine fnc_startG (N := 18) (np := 500) hT Try.func41 rfl rfl (by kernel_rfl) ?_
  unfold M.spec_IsIdempotentMonad at hM
  refine tr_start (ks := [0]) (st' := [(0, .d (.agg (eXMonad.b a0)))]) (by kernel_rfl) ?_
  refine tr_sr hT hm [] [2, 2003] [(2, .d (.rp 1001 0)), bxB 2003 (eXMonad.b a0)] .nil (by kernel_rfl) (by kernel_rfl) ?_
  refine tr_seq ?_
  obtain ⟨v1, hv1, hM⟩ := bind_some' hM
  refine tr_sr hT hm [(1, .call [] [] [.agg (eXMonad.b a0)] [] (bv v1))] [2, 12, 2003] [(2, .d (.rp 1001 0)), (12, .d (bv (!v1))), bxB 2003 (eXMonad.b a0)] (cc0 ok49 (spec_l16Is_c a0 _ hv1) (by kernel_rfl) .nil) (by kernel_rfl) (by kernel_rfl) ?_
  rcases Bool.eq_false_or_eq_true v1 with h2 | h2
  · have hM := ite_true' hM h2
    refine tr_condFe (e := !v1) (congrArg not h2) (by kernel_rfl) ?_
    refine tr_skip (q_n ?_)
    obtain ⟨v3, hv3, hM⟩ := bind_some' hM
    refine tr_sr hT hm [(5, .call [] [] [.agg (eXCategory.b a0.On.Source), .sl a0.Join.length 0 (a0.Join.flatMap eI.b)] [] (.fr 1 v3.length (v3.flatMap eI.o)))] [4, 6] [(4, .d (bv ((v3.length : Int) == (a0.Join.length : Int)))), (6, .d (iv 0))] (cc0 ok82 (spec_l15Isos_c a0.On.Source a0.Join _ hv3) (by kernel_rfl) .nil) (by kernel_rfl) (by kernel_rfl) ?_
    refine tr_ret (rg_r ?_)
    obtain rfl := Option.some.inj hM
    exact retg (names := []) .nil (by kernel_rfl)
  · have hM := ite_false' hM h2
    refine tr_condTe (e := !v1) (congrArg not h2) (by kernel_rfl) ?_
    refine tr_sr hT hm [] [4, 6] [(4, .d (bv false)), (6, .d (iv 1))] .nil (by kernel_rfl) (by kernel_rfl) ?_
    refine tr_ret (q_r (rg_r ?_))
    obtain rfl := Option.some.inj hM
    exact retg (names := []) .nil (by kernel_rfl)

theorem ok42 : CallOk Try.prog 42 := callOk_of Try.func42 (by kernel_rfl) (by kernel_rfl)
theorem impl_IsIdempotentMonad_c (a0 : XMonad) (r : Bool × Int) (hM : M.impl_IsIdempotentMonad a0 = some r) :
    FnC Try.prog 42 [] [.agg (eXMonad.b a0)] [] (.tup [bv r.1, iv r.2]) := by
  refine fnc_startG (N := 16) (np := 500) hT Try.func42 rfl rfl (by kernel_rfl) ?_
  unfold M.impl_IsIdempotentMonad at hM
  refine tr_start (ks := [0]) (st' := [(0, .d (.agg (eXMonad.b a0)))]) (by kernel_rfl) ?_
  refine tr_sr hT hm [] [2, 2003] [(2, .d (.rp 1001 0)), bxB 2003 (eXMonad.b a0)] .nil (by kernel_rfl) (by kernel_rfl) ?_
  refine tr_seq ?_
  obtain ⟨v1, hv1, hM⟩ := bind_some' hM
  refine tr_sr hT hm [(0, .call [1001] [] [.pt (eXMonad.b a0) 0] [] (bv v1))] [2, 10, 2003] [(2, .d (.rp 1001 0)), (10, .d (bv (!v1))), bxB 2003 (eXMonad.b a0)] (cc (B := [1001]) (ρ := []) (rB := [(1001, .arr 1 [iv a0.On.Source.Objects, .sl a0.On.Source.From.length 0 (a0.On.Source.From.flatMap eI.b), .sl a0.On.Source.To.length 0 (a0.On.Source.To.flatMap eI.b), .sl a0.On.Source.Identity.length 0 (a0.On.Source.Identity.flatMap eI.b), .sl a0.On.Source.Composites.length 0 (a0.On.Source.Composites.flatMap (eS eI).b), iv a0.On.Target.Objects, .sl a0.On.Target.From.length 0 (a0.On.Target.From.flatMap eI.b), .sl a0.On.Target.To.length 0 (a0.On.Target.To.flatMap eI.b), .sl a0.On.Target.Identity.length 0 (a0.On.Target.Identity.flatMap eI.b), .sl a0.On.Target.Composites.length 0 (a0.On.Target.Composites.flatMap (eS eI).b), .sl a0.On.Objects.length 0 (a0.On.Objects.flatMap eI.b), .sl a0.On.Arrows.length 0 (a0.On.Arrows.flatMap eI.b), .sl a0.Unit.length 0 (a0.Unit.flatMap eI.b), .sl a0.Join.length 0 (a0.Join.flatMap eI.b)] [])]) ok51 (impl_Monad_isMonad_c a0 _ hv1) (.cons (.of1 (.rp (r := 1001) (sz := 1) (cells := [iv a0.On.Source.Objects, .sl a0.On.Source.From.length 0 (a0.On.Source.From.flatMap eI.b), .sl a0.On.Source.To.length 0 (a0.On.Source.To.flatMap eI.b), .sl a0.On.Source.Identity.length 0 (a0.On.Source.Identity.flatMap eI.b), .sl a0.On.Source.Composites.length 0 (a0.On.Source.Composites.flatMap (eS eI).b), iv a0.On.Target.Objects, .sl a0.On.Target.From.length 0 (a0.On.Target.From.flatMap eI.b), .sl a0.On.Target.To.length 0 (a0.On.Target.To.flatMap eI.b), .sl a0.On.Target.Identity.length 0 (a0.On.Target.Identity.flatMap eI.b), .sl a0.On.Target.Composites.length 0 (a0.On.Target.Composites.flatMap (eS eI).b), .sl a0.On.Objects.length 0 (a0.On.Objects.flatMap eI.b), .sl a0.On.Arrows.length 0 (a0.On.Arrows.flatMap eI.b), .sl a0.Unit.length 0 (a0.Unit.flatMap eI.b), .sl a0.Join.length 0 (a0.Join.flatMap eI.b)]) (refs := []) (memB (by kernel_rfl)) (by kernel_rfl) (.cons .v (.cons (.same rfl rfl) (.cons (.same rfl rfl) (.cons (.same rfl rfl) (.cons (.same rfl rfl) (.cons .v (.cons (.same rfl rfl) (.cons (.same rfl rfl) (.cons (.same rfl rfl) (.cons (.same rfl rfl) (.cons (.same rfl rfl) (.cons (.same rfl rfl) (.cons (.same rfl rfl) (.cons (.same rfl rfl) .nil)))))))))))))))) .nil) (.inr ⟨.v, trivial⟩) .nil) (by kernel_rfl) (by kernel_rfl) ?_
  rcases Bool.eq_false_or_eq_true v1 with h2 | h2
  · have hM := ite_true' hM h2
    refine tr_condFe (e := !v1) (congrArg not h2) (by kernel_rfl) ?_
    refine tr_skip (q_n ?_)
    obtain ⟨v3, hv3, hM⟩ := bind_some' hM
    refine tr_sr hT hm [(4, .call [1001] [] [.pt (eXCategory.b a0.On.Source) 0, .sl a0.Join.length 0 (a0.Join.flatMap eI.b)] [] (.fr 1 v3.length (v3.flatMap eI.o)))] [4, 6] [(4, .d (bv ((v3.length : Int) == (a0.Join.length : Int)))), (6, .d (iv 0))] (cc (B := [1001]) (ρ := []) (rB := [(1001, .arr 1 [iv a0.On.Source.Objects, .sl a0.On.Source.From.length 0 (a0.On.Source.From.flatMap eI.b), .sl a0.On.Source.To.length 0 (a0.On.Source.To.flatMap eI.b), .sl a0.On.Source.Identity.length 0 (a0.On.Source.Identity.flatMap eI.b), .sl a0.On.Source.Composites.length 0 (a0.On.Source.Composites.flatMap (eS eI).b), iv a0.On.Target.Objects, .sl a0.On.Target.From.length 0 (a0.On.Target.From.flatMap eI.b), .sl a0.On.Target.To.length 0 (a0.On.Target.To.flatMap eI.b), .sl a0.On.Target.Identity.length 0 (a0.On.Target.Identity.flatMap eI.b), .sl a0.On.Target.Composites.length 0 (a0.On.Target.Composites.flatMap (eS eI).b), .sl a0.On.Objects.length 0 (a0.On.Objects.flatMap eI.b), .sl a0.On.Arrows.length 0 (a0.On.Arrows.flatMap eI.b), .sl a0.Unit.length 0 (a0.Unit.flatMap eI.b), .sl a0.Join.length 0 (a0.Join.flatMap eI.b)] [])]) ok83 (impl_Category_isos_c a0.On.Source a0.Join _ hv3) (.cons (.rpSub (r := 1001) (off := 0) (n := 5) (sz := 1) (cells := [iv a0.On.Source.Objects, .sl a0.On.Source.From.length 0 (a0.On.Source.From.flatMap eI.b), .sl a0.On.Source.To.length 0 (a0.On.Source.To.flatMap eI.b), .sl a0.On.Source.Identity.length 0 (a0.On.Source.Identity.flatMap eI.b), .sl a0.On.Source.Composites.length 0 (a0.On.Source.Composites.flatMap (eS eI).b), iv a0.On.Target.Objects, .sl a0.On.Target.From.length 0 (a0.On.Target.From.flatMap eI.b), .sl a0.On.Target.To.length 0 (a0.On.Target.To.flatMap eI.b), .sl a0.On.Target.Identity.length 0 (a0.On.Target.Identity.flatMap eI.b), .sl a0.On.Target.Composites.length 0 (a0.On.Target.Composites.flatMap (eS eI).b), .sl a0.On.Objects.length 0 (a0.On.Objects.flatMap eI.b), .sl a0.On.Arrows.length 0 (a0.On.Arrows.flatMap eI.b), .sl a0.Unit.length 0 (a0.Unit.flatMap eI.b), .sl a0.Join.length 0 (a0.Join.flatMap eI.b)]) (refs := []) (ds' := eXCategory.b a0.On.Source) (by kernel_rfl) (by kernel_rfl) (.cons .v (.cons (.same rfl rfl) (.cons (.same rfl rfl) (.cons (.same rfl rfl) (.cons (.same rfl rfl) (.cons .v (.cons (.same rfl rfl) (.cons (.same rfl rfl) (.cons (.same rfl rfl) (.cons (.same rfl rfl) (.cons (.same rfl rfl) (.cons (.same rfl rfl) (.cons (.same rfl rfl) (.cons (.same rfl rfl) .nil)))))))))))))) (Nat.le_of_ble_eq_true rfl) (by kernel_rfl) (by kernel_rfl)) (.cons (.same rfl) .nil)) (.inr ⟨(.fr (nb_flat eI_nb _)), trivial⟩) .nil) (by kernel_rfl) (by kernel_rfl) ?_
    refine tr_ret (rg_r ?_)
    obtain rfl := Option.some.inj hM
    exact retg (names := []) .nil (by kernel_rfl)
  · have hM := ite_false' hM h2
    refine tr_condTe (e := !v1) (congrArg not h2) (by kernel_rfl) ?_
    refine tr_sr hT hm [] [4, 6] [(4, .d (bv false)), (6, .d (iv 1))] .nil (by kernel_rfl) (by kernel_rfl) ?_
    refine tr_ret (q_r (rg_r ?_))
    obtain rfl := Option.some.inj hM
    exact retg (names := []) .nil (by kernel_rfl)

theorem ok12 : CallOk Try.prog 12 := callOk_of Try.func12 (by kernel_rfl) (by kernel_rfl)
theorem laws_FnExactIsIdempotentMonad_c (a0 : XMonad) (r : Bool) (hM : M.laws_FnExactIsIdempotentMonad a0 = some r) :
    FnC Try.prog 12 [] [.agg (eXMonad.b a0)] [] (bv r) := by
  refine fnc_startG (N := 40) (np := 500) hT Try.func12 rfl rfl (by kernel_rfl) ?_
  unfold M.laws_FnExactIsIdempotentMonad at hM
  refine tr_start (ks := [0]) (st' := [(0, .d (.agg (eXMonad.b a0)))]) (by kernel_rfl) ?_
  refine tr_sr hT hm [] [2, 2003] [(2, .d (.rp 1001 0)), bxB 2003 (eXMonad.b a0)] .nil (by kernel_rfl) (by kernel_rfl) ?_
  refine tr_sr hT hm [] [2, 6, 2003] [(2, .d (.rp 1001 0)), (6, .d (iv 1048576)), bxB 2003 (eXMonad.b a0)] .nil (by kernel_rfl) (by kernel_rfl) ?_
  obtain ⟨v1, hv1, hM⟩ := bind_some' hM
  refine tr_sr hT hm [(2, .call [] [] [.agg (eXMonad.b a0), iv 1048576] [] (iv v1))] [2, 6, 2003] [(2, .d (.rp 1001 0)), (6, .d (iv v1)), bxB 2003 (eXMonad.b a0)] (cc0 ok15 (laws_szMonad_c a0 1048576 _ hv1) (by kernel_rfl) .nil) (by kernel_rfl) (by kernel_rfl) ?_
  refine tr_seq ?_
  refine tr_sr hT hm [] [2, 26, 2003] [(2, .d (.rp 1001 0)), (26, .d (bv (decide (v1 < 0)))), bxB 2003 (eXMonad.b a0)] .nil (by kernel_rfl) (by kernel_rfl) ?_
  rcases Bool.eq_false_or_eq_true (decide (v1 < 0)) with h2 | h2
  · have hM := ite_true' hM h2
    refine tr_condTe (e := decide (v1 < 0)) h2 (by kernel_rfl) ?_
    refine tr_sr hT hm [] [4] [(4, .d (bv true))] .nil (by kernel_rfl) (by kernel_rfl) ?_
    refine tr_ret (q_r (rg_r ?_))
    obtain rfl := Option.some.inj hM
    exact retg (names := []) .nil (by kernel_rfl)
  · have hM := ite_false' hM h2
    refine tr_condFe (e := decide (v1 < 0)) h2 (by kernel_rfl) ?_
    refine tr_skip (q_n ?_)
    obtain ⟨v3, hv3, hM⟩ := bind_some' hM
    obtain ⟨v4, hv4, hM⟩ := bind_some' hM
    refine tr_sr hT hm [(1, .call [] [] [.agg (eXMonad.b a0)] [] (.agg (eXMonad.o v3))), (2, .call (rsR 18000 (eXMonad.o v3)) [] [.agg (eXMonad.b v3)] [] (.tup [bv v4.1, iv v4.2]))] [2, 8, 10, 2003] [(2, .d (.rp 1001 0)), (8, .d (bv v4.1)), (10, .d (iv v4.2)), bxB 2003 (eXMonad.b a0)] (cc0 ok17 (laws_toMonad_c a0 _ hv3) (by kernel_rfl) (cc (B := (rsR 18000 (eXMonad.o v3))) (ρ := []) (rB := (rsP 18000 (eXMonad.o v3))) ok41 (spec_IsIdempotentMonad_c v3 _ hv4) (.cons (bor_rs eXMonad_r (q := 18000) (x := v3) (by kernel_rfl) (by kernel_rfl)) .nil) (.inr ⟨(nobor_tup (.cons .v (.cons .v .nil))), trivial⟩) .nil)) (by kernel_rfl) (by kernel_rfl) ?_
    refine tr_sr hT hm [(1, .call [] [] [.agg (eXMonad.b a0)] [] (.agg (eXMonad.o v3)))] [2, 8, 10, 12, 2003, 2013, 46003, 46005, 46007, 46009, 46013, 46015, 46017, 46019, 46021, 46023, 46025, 46027] ([(2, .d (.rp 1001 0)), (8, .d (bv v4.1)), (10, .d (iv v4.2)), (12, .d (.rp 1006 0)), bxB 2003 (eXMonad.b a0), bxO 2013 23000 (eXMonad.o v3)] ++ rsS 23000 (eXMonad.o v3)) (cc0 ok17 (laws_toMonad_c a0 _ hv3) (by kernel_rfl) (.cons (Nat.le_of_ble_eq_true (n := 14) (m := 14) rfl) .nil)) (by kernel_rfl) (by kernel_rfl) ?_
    obtain ⟨v5, hv5, hM⟩ := bind_some' hM
    refine tr_sr hT hm [(1, .call (rsR 23000 (eXMonad.o v3)) [] [.agg (eXMonad.b v3)] [] (.tup [bv v5.1, iv v5.2]))] [2, 8, 10, 12, 14, 16, 2003, 2013, 46003, 46005, 46007, 46009, 46013, 46015, 46017, 46019, 46021, 46023, 46025, 46027] ([(2, .d (.rp 1001 0)), (8, .d (bv v4.1)), (10, .d (iv v4.2)), (12, .d (.rp 1006 0)), (14, .d (bv v5.1)), (16, .d (iv v5.2)), bxB 2003 (eXMonad.b a0), bxO 2013 23000 (eXMonad.o v3)] ++ rsS 23000 (eXMonad.o v3)) (cc (B := (rsR 23000 (eXMonad.o v3))) (ρ := []) (rB := (rsP 23000 (eXMonad.o v3))) ok42 (impl_IsIdempotentMonad_c v3 _ hv5) (.cons (bor_rs eXMonad_r (q := 23000) (x := v3) (by kernel_rfl) (by kernel_rfl)) .nil) (.inr ⟨(nobor_tup (.cons .v (.cons .v .nil))), trivial⟩) .nil) (by kernel_rfl) (by kernel_rfl) ?_
    refine tr_seq ?_
    rcases Bool.eq_false_or_eq_true ((v5.1 == v4.1) == false) with h6 | h6
    · have hM := ite_true' hM h6
      refine tr_sr hT hm [(3, .val (bv true))] [2, 12, 68, 2003, 2013, 46003, 46005, 46007, 46009, 46013, 46015, 46017, 46019, 46021, 46023, 46025, 46027] ([(2, .d (.rp 1001 0)), (12, .d (.rp 1006 0)), (68, .d (bv true)), bxB 2003 (eXMonad.b a0), bxO 2013 23000 (eXMonad.o v3)] ++ rsS 23000 (eXMonad.o v3)) (.cons (congrArg (fun b => bv b) h6) .nil) (by kernel_rfl) (by kernel_rfl) ?_
      refine tr_condT (by kernel_rfl) ?_
      refine tr_sr hT hm [] [4] [(4, .d (bv false))] .nil (by kernel_rfl) (by kernel_rfl) ?_
      refine tr_ret (q_r (rg_r ?_))
      obtain rfl := Option.some.inj hM
      exact retg (names := []) .nil (by kernel_rfl)
    · have hM := ite_false' hM h6
      refine tr_sr hT hm [(3, .val (bv false))] [2, 12, 68, 2003, 2013, 46003, 46005, 46007, 46009, 46013, 46015, 46017, 46019, 46021, 46023, 46025, 46027] ([(2, .d (.rp 1001 0)), (12, .d (.rp 1006 0)), (68, .d (bv (v5.2 != v4.2))), bxB 2003 (eXMonad.b a0), bxO 2013 23000 (eXMonad.o v3)] ++ rsS 23000 (eXMonad.o v3)) (.cons (congrArg (fun b => bv b) h6) .nil) (by kernel_rfl) (by kernel_rfl) ?_
      rcases Bool.eq_false_or_eq_true (v5.2 != v4.2) with h7 | h7
      · have hM := ite_true' hM h7
        refine tr_condTe (e := v5.2 != v4.2) h7 (by kernel_rfl) ?_
        refine tr_sr hT hm [] [4] [(4, .d (bv false))] .nil (by kernel_rfl) (by kernel_rfl) ?_
        refine tr_ret (q_r (rg_r ?_))
        obtain rfl := Option.some.inj hM
        exact retg (names := []) .nil (by kernel_rfl)
      · have hM := ite_false' hM h7
        refine tr_condFe (e := v5.2 != v4.2) h7 (by kernel_rfl) ?_
        refine tr_skip (q_n ?_)
        refine tr_seq ?_
        obtain ⟨v8, hv8, hM⟩ := bind_some' hM
        refine tr_sr hT hm [(2, .call [] [] [.agg (eXMonad.b a0)] [] (.agg (eXMonad.o v3))), (3, .call (rsR 23000 (eXMonad.o v3) ++ rsR 39000 (eXMonad.o v3)) [] [.agg (eXMonad.b v3), .agg (eXMonad.b v3)] [] (bv v8))] [78] [(78, .d (bv (!v8)))] (cc0 ok17 (laws_toMonad_c a0 _ hv3) (by kernel_rfl) (cc (B := (rsR 23000 (eXMonad.o v3) ++ rsR 39000 (eXMonad.o v3))) (ρ := []) (rB := (rsP 23000 (eXMonad.o v3) ++ rsP 39000 (eXMonad.o v3))) ok19 (laws_eqMonad_c v3 v3 _ hv8) (.cons (bor_rs eXMonad_r (q := 23000) (x := v3) (by kernel_rfl) (by kernel_rfl)) (.cons (bor_rs eXMonad_r (q := 39000) (x := v3) (by kernel_rfl) (by kernel_rfl)) .nil)) (.inr ⟨.v, trivial⟩) .nil)) (by kernel_rfl) (by kernel_rfl) ?_
        rcases Bool.eq_false_or_eq_true v8 with h9 | h9
        · have hM := ite_true' hM h9
          refine tr_condFe (e := !v8) (congrArg not h9) (by kernel_rfl) ?_
          refine tr_skip (q_n ?_)
          refine tr_sr hT hm [] [4] [(4, .d (bv true))] .nil (by kernel_rfl) (by kernel_rfl) ?_
          refine tr_ret (rg_r ?_)
          obtain rfl := Option.some.inj hM
          exact retg (names := []) .nil (by kernel_rfl)
        · have hM := ite_false' hM h9
          refine tr_condTe (e := !v8) (congrArg not h9) (by kernel_rfl) ?_
          refine tr_sr hT hm [] [4] [(4, .d (bv false))] .nil (by kernel_rfl) (by kernel_rfl) ?_
          refine tr_ret (q_r (rg_r ?_))
          obtain rfl := Option.some.inj hM
          exact retg (names := []) .nil (by kernel_rfl)

end Go.Proofs.Ytpfdieaiogfihaa.Ww46
