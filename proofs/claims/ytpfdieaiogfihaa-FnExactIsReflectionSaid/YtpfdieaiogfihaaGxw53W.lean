/- Walks. Printed by wip/gen. -/
import Derived.Test.YtpfdieaiogfihaaGxw53M
import Derived.Test.YtpfdieaiogfihaaGxwAW
import Derived.Test.YtpfdieaiogfihaaGxwVW
import Derived.KernelRfl
namespace Go.Proofs.Ytpfdieaiogfihaa.Ww53
open Go.Gx Go.Proofs.Ytpfdieaiogfihaa.WvB Go.Proofs.Ytpfdieaiogfihaa.WwN Go.Proofs.Ytpfdieaiogfihaa.WvS Go.Proofs.Ytpfdieaiogfihaa.WvF Go.Proofs.Ytpfdieaiogfihaa.WwT Go.Proofs.Ytpfdieaiogfihaa.WwU Go.Proofs.Ytpfdieaiogfihaa.WvH Go.Proofs.Ytpfdieaiogfihaa.WvI Go.Proofs.Ytpfdieaiogfihaa.WwA Go.Proofs.Ytpfdieaiogfihaa.WwV

theorem eXCategory_r : EncR eXCategory := (eA_r (eC_r eI_r _) (eA_r (eC_r (eS_r eI_ok) _) (eA_r (eC_r (eS_r eI_ok) _) (eA_r (eC_r (eS_r eI_ok) _) (eC_r (eS_r (eS_ok eI_ok)) _)))))
theorem eXFunctor_r : EncR eXFunctor := (eA_r (eC_r eXCategory_r _) (eA_r (eC_r eXCategory_r _) (eA_r (eC_r (eS_r eI_ok) _) (eC_r (eS_r eI_ok) _))))
theorem eXends_r : EncR eXends := (eA_r (eC_r eI_r _) (eC_r eI_r _))
theorem eXTransformation_r : EncR eXTransformation := (eA_r (eC_r eXFunctor_r _) (eA_r (eC_r eXFunctor_r _) (eC_r (eS_r eI_ok) _)))
theorem eXAdjunction_r : EncR eXAdjunction := (eA_r (eC_r eXFunctor_r _) (eA_r (eC_r eXFunctor_r _) (eA_r (eC_r (eS_r eI_ok) _) (eC_r (eS_r eI_ok) _))))
def T : Tab := [(2, ⟨.int .i64, 1, 8, [.int .i64 0]⟩),
  (3, ⟨.int .i64, 1, 8, [.int .i64 0]⟩),
  (4, ⟨.bool, 1, 1, [.bool false]⟩),
  (22, ⟨.slice 2, 1, 24, [.slice .none 0 0]⟩),
  (23, ⟨.slice 22, 1, 24, [.slice .none 0 0]⟩),
  (25, ⟨.struct #[⟨"Objects", 2, 0, false, "", "", 0⟩, ⟨"From", 22, 1, false, "", "", 8⟩, ⟨"To", 22, 2, false, "", "", 32⟩, ⟨"Identity", 22, 3, false, "", "", 56⟩, ⟨"Composites", 23, 4, false, "", "", 80⟩], 5, 104, [.int .i64 0, .slice .none 0 0, .slice .none 0 0, .slice .none 0 0, .slice .none 0 0]⟩),
  (27, ⟨.struct #[⟨"Source", 25, 0, false, "", "", 0⟩, ⟨"Target", 25, 5, false, "", "", 104⟩, ⟨"Objects", 22, 10, false, "", "", 208⟩, ⟨"Arrows", 22, 11, false, "", "", 232⟩], 12, 256, [.int .i64 0, .slice .none 0 0, .slice .none 0 0, .slice .none 0 0, .slice .none 0 0, .int .i64 0, .slice .none 0 0, .slice .none 0 0, .slice .none 0 0, .slice .none 0 0, .slice .none 0 0, .slice .none 0 0]⟩),
  (32, ⟨.struct #[⟨"Objects", 2, 0, false, "", "", 0⟩, ⟨"From", 22, 1, false, "", "", 8⟩, ⟨"To", 22, 2, false, "", "", 32⟩, ⟨"Identity", 22, 3, false, "", "", 56⟩, ⟨"Composites", 23, 4, false, "", "", 80⟩], 5, 104, [.int .i64 0, .slice .none 0 0, .slice .none 0 0, .slice .none 0 0, .slice .none 0 0]⟩),
  (34, ⟨.struct #[⟨"Source", 32, 0, false, "", "", 0⟩, ⟨"Target", 32, 5, false, "", "", 104⟩, ⟨"Objects", 22, 10, false, "", "", 208⟩, ⟨"Arrows", 22, 11, false, "", "", 232⟩], 12, 256, [.int .i64 0, .slice .none 0 0, .slice .none 0 0, .slice .none 0 0, .slice .none 0 0, .int .i64 0, .slice .none 0 0, .slice .none 0 0, .slice .none 0 0, .slice .none 0 0, .slice .none 0 0, .slice .none 0 0]⟩),
  (41, ⟨.struct #[⟨"Left", 27, 0, false, "", "", 0⟩, ⟨"Right", 27, 12, false, "", "", 256⟩, ⟨"Unit", 22, 24, false, "", "", 512⟩, ⟨"Counit", 22, 25, false, "", "", 536⟩], 26, 560, [.int .i64 0, .slice .none 0 0, .slice .none 0 0, .slice .none 0 0, .slice .none 0 0, .int .i64 0, .slice .none 0 0, .slice .none 0 0, .slice .none 0 0, .slice .none 0 0, .slice .none 0 0, .slice .none 0 0, .int .i64 0, .slice .none 0 0, .slice .none 0 0, .slice .none 0 0, .slice .none 0 0, .int .i64 0, .slice .none 0 0, .slice .none 0 0, .slice .none 0 0, .slice .none 0 0, .slice .none 0 0, .slice .none 0 0, .slice .none 0 0, .slice .none 0 0]⟩),
  (45, ⟨.struct #[⟨"Left", 34, 0, false, "", "", 0⟩, ⟨"Right", 34, 12, false, "", "", 256⟩, ⟨"Unit", 22, 24, false, "", "", 512⟩, ⟨"Counit", 22, 25, false, "", "", 536⟩], 26, 560, [.int .i64 0, .slice .none 0 0, .slice .none 0 0, .slice .none 0 0, .slice .none 0 0, .int .i64 0, .slice .none 0 0, .slice .none 0 0, .slice .none 0 0, .slice .none 0 0, .slice .none 0 0, .slice .none 0 0, .int .i64 0, .slice .none 0 0, .slice .none 0 0, .slice .none 0 0, .slice .none 0 0, .int .i64 0, .slice .none 0 0, .slice .none 0 0, .slice .none 0 0, .slice .none 0 0, .slice .none 0 0, .slice .none 0 0, .slice .none 0 0, .slice .none 0 0]⟩)]
theorem hT : TabOk Try.prog T := ⟨tiok (by kernel_rfl) (by kernel_rfl), tiok (by kernel_rfl) (by kernel_rfl), tiok (by kernel_rfl) (by kernel_rfl), tiok (by kernel_rfl) (by kernel_rfl), tiok (by kernel_rfl) (by kernel_rfl), tiok (by kernel_rfl) (by kernel_rfl), tiok (by kernel_rfl) (by kernel_rfl), tiok (by kernel_rfl) (by kernel_rfl), tiok (by kernel_rfl) (by kernel_rfl), tiok (by kernel_rfl) (by kernel_rfl), tiok (by kernel_rfl) (by kernel_rfl), trivial⟩
theorem hm : Try.prog.follows .mixedOrders = true := by kernel_rfl

theorem ok45 : CallOk Try.prog 45 := callOk_of Try.func45 (by kernel_rfl) (by kernel_rfl)
theorem spec_IsReflection_c (a0 : XAdjunction) (r : Bool × Int) (hM : M.spec_IsReflection a0 = some r) :
    FnC Try.prog 45 [] [.agg (eXAdjunction.b a0)] [] (.tup [bv r.1, iv r.2]) := by
  refine fnc_startG (N := 18) (np := 500) hT Try.func45 rfl rfl (by kernel_rfl) ?_
  unfold M.spec_IsReflection at hM
  refine tr_start (ks := [0]) (st' := [(0, .d (.agg (eXAdjunction.b a0)))]) (by kernel_rfl) ?_
  refine tr_sr hT hm [] [2, 2003] [(2, .d (.rp 1001 0)), bxB 2003 (eXAdjunction.b a0)] .nil (by kernel_rfl) (by kernel_rfl) ?_
  refine tr_seq ?_
  obtain ⟨v1, hv1, hM⟩ := bind_some' hM
  refine tr_sr hT hm [(1, .call [] [] [.agg (eXAdjunction.b a0)] [] (bv v1))] [2, 12, 2003] [(2, .d (.rp 1001 0)), (12, .d (bv (!v1))), bxB 2003 (eXAdjunction.b a0)] (cc0 ok53 (spec_l15Is_c a0 _ hv1) (by kernel_rfl) .nil) (by kernel_rfl) (by kernel_rfl) ?_
  rcases Bool.eq_false_or_eq_true v1 with h2 | h2
  · have hM := ite_true' hM h2
    refine tr_condFe (e := !v1) (congrArg not h2) (by kernel_rfl) ?_
    refine tr_skip (q_n ?_)
    obtain ⟨v3, hv3, hM⟩ := bind_some' hM
    refine tr_sr hT hm [(5, .call [] [] [.agg (eXCategory.b a0.Left.Target), .sl a0.Counit.length 0 (a0.Counit.flatMap eI.b)] [] (.fr 1 v3.length (v3.flatMap eI.o)))] [4, 6] [(4, .d (bv ((v3.length : Int) == (a0.Counit.length : Int)))), (6, .d (iv 0))] (cc0 ok82 (spec_l15Isos_c a0.Left.Target a0.Counit _ hv3) (by kernel_rfl) .nil) (by kernel_rfl) (by kernel_rfl) ?_
    refine tr_ret (rg_r ?_)
    obtain rfl := Option.some.inj hM
    exact retg (names := []) .nil (by kernel_rfl)
  · have hM := ite_false' hM h2
    refine tr_condTe (e := !v1) (congrArg not h2) (by kernel_rfl) ?_
    refine tr_sr hT hm [] [4, 6] [(4, .d (bv false)), (6, .d (iv 1))] .nil (by kernel_rfl) (by kernel_rfl) ?_
    refine tr_ret (q_r (rg_r ?_))
    obtain rfl := Option.some.inj hM
    exact retg (names := []) .nil (by kernel_rfl)

theorem ok46 : CallOk Try.prog 46 := callOk_of Try.func46 (by kernel_rfl) (by kernel_rfl)
theorem impl_IsReflection_c (a0 : XAdjunction) (r : Bool × Int) (hM : M.impl_IsReflection a0 = some r) :
    FnC Try.prog 46 [] [.agg (eXAdjunction.b a0)] [] (.tup [bv r.1, iv r.2]) := by
  refine fnc_startG (N := 16) (np := 500) hT Try.func46 rfl rfl (by kernel_rfl) ?_
  unfold M.impl_IsReflection at hM
  refine tr_start (ks := [0]) (st' := [(0, .d (.agg (eXAdjunction.b a0)))]) (by kernel_rfl) ?_
  refine tr_sr hT hm [] [2, 2003] [(2, .d (.rp 1001 0)), bxB 2003 (eXAdjunction.b a0)] .nil (by kernel_rfl) (by kernel_rfl) ?_
  refine tr_seq ?_
  obtain ⟨v1, hv1, hM⟩ := bind_some' hM
  refine tr_sr hT hm [(0, .call [1001] [] [.pt (eXAdjunction.b a0) 0] [] (bv v1))] [2, 10, 2003] [(2, .d (.rp 1001 0)), (10, .d (bv (!v1))), bxB 2003 (eXAdjunction.b a0)] (cc (B := [1001]) (ρ := []) (rB := [(1001, .arr 1 [iv a0.Left.Source.Objects, .sl a0.Left.Source.From.length 0 (a0.Left.Source.From.flatMap eI.b), .sl a0.Left.Source.To.length 0 (a0.Left.Source.To.flatMap eI.b), .sl a0.Left.Source.Identity.length 0 (a0.Left.Source.Identity.flatMap eI.b), .sl a0.Left.Source.Composites.length 0 (a0.Left.Source.Composites.flatMap (eS eI).b), iv a0.Left.Target.Objects, .sl a0.Left.Target.From.length 0 (a0.Left.Target.From.flatMap eI.b), .sl a0.Left.Target.To.length 0 (a0.Left.Target.To.flatMap eI.b), .sl a0.Left.Target.Identity.length 0 (a0.Left.Target.Identity.flatMap eI.b), .sl a0.Left.Target.Composites.length 0 (a0.Left.Target.Composites.flatMap (eS eI).b), .sl a0.Left.Objects.length 0 (a0.Left.Objects.flatMap eI.b), .sl a0.Left.Arrows.length 0 (a0.Left.Arrows.flatMap eI.b), iv a0.Right.Source.Objects, .sl a0.Right.Source.From.length 0 (a0.Right.Source.From.flatMap eI.b), .sl a0.Right.Source.To.length 0 (a0.Right.Source.To.flatMap eI.b), .sl a0.Right.Source.Identity.length 0 (a0.Right.Source.Identity.flatMap eI.b), .sl a0.Right.Source.Composites.length 0 (a0.Right.Source.Composites.flatMap (eS eI).b), iv a0.Right.Target.Objects, .sl a0.Right.Target.From.length 0 (a0.Right.Target.From.flatMap eI.b), .sl a0.Right.Target.To.length 0 (a0.Right.Target.To.flatMap eI.b), .sl a0.Right.Target.Identity.length 0 (a0.Right.Target.Identity.flatMap eI.b), .sl a0.Right.Target.Composites.length 0 (a0.Right.Target.Composites.flatMap (eS eI).b), .sl a0.Right.Objects.length 0 (a0.Right.Objects.flatMap eI.b), .sl a0.Right.Arrows.length 0 (a0.Right.Arrows.flatMap eI.b), .sl a0.Unit.length 0 (a0.Unit.flatMap eI.b), .sl a0.Counit.length 0 (a0.Counit.flatMap eI.b)] [])]) ok54 (impl_Adjunction_isAdjunction_c a0 _ hv1) (.cons (.of1 (.rp (r := 1001) (sz := 1) (cells := [iv a0.Left.Source.Objects, .sl a0.Left.Source.From.length 0 (a0.Left.Source.From.flatMap eI.b), .sl a0.Left.Source.To.length 0 (a0.Left.Source.To.flatMap eI.b), .sl a0.Left.Source.Identity.length 0 (a0.Left.Source.Identity.flatMap eI.b), .sl a0.Left.Source.Composites.length 0 (a0.Left.Source.Composites.flatMap (eS eI).b), iv a0.Left.Target.Objects, .sl a0.Left.Target.From.length 0 (a0.Left.Target.From.flatMap eI.b), .sl a0.Left.Target.To.length 0 (a0.Left.Target.To.flatMap eI.b), .sl a0.Left.Target.Identity.length 0 (a0.Left.Target.Identity.flatMap eI.b), .sl a0.Left.Target.Composites.length 0 (a0.Left.Target.Composites.flatMap (eS eI).b), .sl a0.Left.Objects.length 0 (a0.Left.Objects.flatMap eI.b), .sl a0.Left.Arrows.length 0 (a0.Left.Arrows.flatMap eI.b), iv a0.Right.Source.Objects, .sl a0.Right.Source.From.length 0 (a0.Right.Source.From.flatMap eI.b), .sl a0.Right.Source.To.length 0 (a0.Right.Source.To.flatMap eI.b), .sl a0.Right.Source.Identity.length 0 (a0.Right.Source.Identity.flatMap eI.b), .sl a0.Right.Source.Composites.length 0 (a0.Right.Source.Composites.flatMap (eS eI).b), iv a0.Right.Target.Objects, .sl a0.Right.Target.From.length 0 (a0.Right.Target.From.flatMap eI.b), .sl a0.Right.Target.To.length 0 (a0.Right.Target.To.flatMap eI.b), .sl a0.Right.Target.Identity.length 0 (a0.Right.Target.Identity.flatMap eI.b), .sl a0.Right.Target.Composites.length 0 (a0.Right.Target.Composites.flatMap (eS eI).b), .sl a0.Right.Objects.length 0 (a0.Right.Objects.flatMap eI.b), .sl a0.Right.Arrows.length 0 (a0.Right.Arrows.flatMap eI.b), .sl a0.Unit.length 0 (a0.Unit.flatMap eI.b), .sl a0.Counit.length 0 (a0.Counit.flatMap eI.b)]) (refs := []) (memB (by kernel_rfl)) (by kernel_rfl) (.cons .v (.cons (.same rfl rfl) (.cons (.same rfl rfl) (.cons (.same rfl rfl) (.cons (.same rfl rfl) (.cons .v (.cons (.same rfl rfl) (.cons (.same rfl rfl) (.cons (.same rfl rfl) (.cons (.same rfl rfl) (.cons (.same rfl rfl) (.cons (.same rfl rfl) (.cons .v (.cons (.same rfl rfl) (.cons (.same rfl rfl) (.cons (.same rfl rfl) (.cons (.same rfl rfl) (.cons .v (.cons (.same rfl rfl) (.cons (.same rfl rfl) (.cons (.same rfl rfl) (.cons (.same rfl rfl) (.cons (.same rfl rfl) (.cons (.same rfl rfl) (.cons (.same rfl rfl) (.cons (.same rfl rfl) .nil)))))))))))))))))))))))))))) .nil) (.inr ⟨.v, trivial⟩) .nil) (by kernel_rfl) (by kernel_rfl) ?_
  rcases Bool.eq_false_or_eq_true v1 with h2 | h2
  · have hM := ite_true' hM h2
    refine tr_condFe (e := !v1) (congrArg not h2) (by kernel_rfl) ?_
    refine tr_skip (q_n ?_)
    obtain ⟨v3, hv3, hM⟩ := bind_some' hM
    refine tr_sr hT hm [(4, .call [1001] [] [.pt (eXCategory.b a0.Left.Target) 0, .sl a0.Counit.length 0 (a0.Counit.flatMap eI.b)] [] (.fr 1 v3.length (v3.flatMap eI.o)))] [4, 6] [(4, .d (bv ((v3.length : Int) == (a0.Counit.length : Int)))), (6, .d (iv 0))] (cc (B := [1001]) (ρ := []) (rB := [(1001, .arr 1 [iv a0.Left.Source.Objects, .sl a0.Left.Source.From.length 0 (a0.Left.Source.From.flatMap eI.b), .sl a0.Left.Source.To.length 0 (a0.Left.Source.To.flatMap eI.b), .sl a0.Left.Source.Identity.length 0 (a0.Left.Source.Identity.flatMap eI.b), .sl a0.Left.Source.Composites.length 0 (a0.Left.Source.Composites.flatMap (eS eI).b), iv a0.Left.Target.Objects, .sl a0.Left.Target.From.length 0 (a0.Left.Target.From.flatMap eI.b), .sl a0.Left.Target.To.length 0 (a0.Left.Target.To.flatMap eI.b), .sl a0.Left.Target.Identity.length 0 (a0.Left.Target.Identity.flatMap eI.b), .sl a0.Left.Target.Composites.length 0 (a0.Left.Target.Composites.flatMap (eS eI).b), .sl a0.Left.Objects.length 0 (a0.Left.Objects.flatMap eI.b), .sl a0.Left.Arrows.length 0 (a0.Left.Arrows.flatMap eI.b), iv a0.Right.Source.Objects, .sl a0.Right.Source.From.length 0 (a0.Right.Source.From.flatMap eI.b), .sl a0.Right.Source.To.length 0 (a0.Right.Source.To.flatMap eI.b), .sl a0.Right.Source.Identity.length 0 (a0.Right.Source.Identity.flatMap eI.b), .sl a0.Right.Source.Composites.length 0 (a0.Right.Source.Composites.flatMap (eS eI).b), iv a0.Right.Target.Objects, .sl a0.Right.Target.From.length 0 (a0.Right.Target.From.flatMap eI.b), .sl a0.Right.Target.To.length 0 (a0.Right.Target.To.flatMap eI.b), .sl a0.Right.Target.Identity.length 0 (a0.Right.Target.Identity.flatMap eI.b), .sl a0.Right.Target.Composites.length 0 (a0.Right.Target.Composites.flatMap (eS eI).b), .sl a0.Right.Objects.length 0 (a0.Right.Objects.flatMap eI.b), .sl a0.Right.Arrows.length 0 (a0.Right.Arrows.flatMap eI.b), .sl a0.Unit.length 0 (a0.Unit.flatMap eI.b), .sl a0.Counit.length 0 (a0.Counit.flatMap eI.b)] [])]) ok83 (impl_Category_isos_c a0.Left.Target a0.Counit _ hv3) (.cons (.rpSub (r := 1001) (off := 5) (n := 5) (sz := 1) (cells := [iv a0.Left.Source.Objects, .sl a0.Left.Source.From.length 0 (a0.Left.Source.From.flatMap eI.b), .sl a0.Left.Source.To.length 0 (a0.Left.Source.To.flatMap eI.b), .sl a0.Left.Source.Identity.length 0 (a0.Left.Source.Identity.flatMap eI.b), .sl a0.Left.Source.Composites.length 0 (a0.Left.Source.Composites.flatMap (eS eI).b), iv a0.Left.Target.Objects, .sl a0.Left.Target.From.length 0 (a0.Left.Target.From.flatMap eI.b), .sl a0.Left.Target.To.length 0 (a0.Left.Target.To.flatMap eI.b), .sl a0.Left.Target.Identity.length 0 (a0.Left.Target.Identity.flatMap eI.b), .sl a0.Left.Target.Composites.length 0 (a0.Left.Target.Composites.flatMap (eS eI).b), .sl a0.Left.Objects.length 0 (a0.Left.Objects.flatMap eI.b), .sl a0.Left.Arrows.length 0 (a0.Left.Arrows.flatMap eI.b), iv a0.Right.Source.Objects, .sl a0.Right.Source.From.length 0 (a0.Right.Source.From.flatMap eI.b), .sl a0.Right.Source.To.length 0 (a0.Right.Source.To.flatMap eI.b), .sl a0.Right.Source.Identity.length 0 (a0.Right.Source.Identity.flatMap eI.b), .sl a0.Right.Source.Composites.length 0 (a0.Right.Source.Composites.flatMap (eS eI).b), iv a0.Right.Target.Objects, .sl a0.Right.Target.From.length 0 (a0.Right.Target.From.flatMap eI.b), .sl a0.Right.Target.To.length 0 (a0.Right.Target.To.flatMap eI.b), .sl a0.Right.Target.Identity.length 0 (a0.Right.Target.Identity.flatMap eI.b), .sl a0.Right.Target.Composites.length 0 (a0.Right.Target.Composites.flatMap (eS eI).b), .sl a0.Right.Objects.length 0 (a0.Right.Objects.flatMap eI.b), .sl a0.Right.Arrows.length 0 (a0.Right.Arrows.flatMap eI.b), .sl a0.Unit.length 0 (a0.Unit.flatMap eI.b), .sl a0.Counit.length 0 (a0.Counit.flatMap eI.b)]) (refs := []) (ds' := eXCategory.b a0.Left.Target) (by kernel_rfl) (by kernel_rfl) (.cons .v (.cons (.same rfl rfl) (.cons (.same rfl rfl) (.cons (.same rfl rfl) (.cons (.same rfl rfl) (.cons .v (.cons (.same rfl rfl) (.cons (.same rfl rfl) (.cons (.same rfl rfl) (.cons (.same rfl rfl) (.cons (.same rfl rfl) (.cons (.same rfl rfl) (.cons .v (.cons (.same rfl rfl) (.cons (.same rfl rfl) (.cons (.same rfl rfl) (.cons (.same rfl rfl) (.cons .v (.cons (.same rfl rfl) (.cons (.same rfl rfl) (.cons (.same rfl rfl) (.cons (.same rfl rfl) (.cons (.same rfl rfl) (.cons (.same rfl rfl) (.cons (.same rfl rfl) (.cons (.same rfl rfl) .nil)))))))))))))))))))))))))) (Nat.le_of_ble_eq_true rfl) (by kernel_rfl) (by kernel_rfl)) (.cons (.same rfl) .nil)) (.inr ⟨(.fr (nb_flat eI_nb _)), trivial⟩) .nil) (by kernel_rfl) (by kernel_rfl) ?_
    refine tr_ret (rg_r ?_)
    obtain rfl := Option.some.inj hM
    exact retg (names := []) .nil (by kernel_rfl)
  · have hM := ite_false' hM h2
    refine tr_condTe (e := !v1) (congrArg not h2) (by kernel_rfl) ?_
    refine tr_sr hT hm [] [4, 6] [(4, .d (bv false)), (6, .d (iv 1))] .nil (by kernel_rfl) (by kernel_rfl) ?_
    refine tr_ret (q_r (rg_r ?_))
    obtain rfl := Option.some.inj hM
    exact retg (names := []) .nil (by kernel_rfl)

theorem ok14 : CallOk Try.prog 14 := callOk_of Try.func14 (by kernel_rfl) (by kernel_rfl)
theorem laws_FnExactIsReflection_c (a0 : XAdjunction) (r : Bool) (hM : M.laws_FnExactIsReflection a0 = some r) :
    FnC Try.prog 14 [] [.agg (eXAdjunction.b a0)] [] (bv r) := by
  refine fnc_startG (N := 40) (np := 500) hT Try.func14 rfl rfl (by kernel_rfl) ?_
  unfold M.laws_FnExactIsReflection at hM
  refine tr_start (ks := [0]) (st' := [(0, .d (.agg (eXAdjunction.b a0)))]) (by kernel_rfl) ?_
  refine tr_sr hT hm [] [2, 2003] [(2, .d (.rp 1001 0)), bxB 2003 (eXAdjunction.b a0)] .nil (by kernel_rfl) (by kernel_rfl) ?_
  refine tr_sr hT hm [] [2, 6, 2003] [(2, .d (.rp 1001 0)), (6, .d (iv 1048576)), bxB 2003 (eXAdjunction.b a0)] .nil (by kernel_rfl) (by kernel_rfl) ?_
  obtain ⟨v1, hv1, hM⟩ := bind_some' hM
  refine tr_sr hT hm [(2, .call [] [] [.agg (eXAdjunction.b a0), iv 1048576] [] (iv v1))] [2, 6, 2003] [(2, .d (.rp 1001 0)), (6, .d (iv v1)), bxB 2003 (eXAdjunction.b a0)] (cc0 ok20 (laws_szAdjunction_c a0 1048576 _ hv1) (by kernel_rfl) .nil) (by kernel_rfl) (by kernel_rfl) ?_
  refine tr_seq ?_
  refine tr_sr hT hm [] [2, 26, 2003] [(2, .d (.rp 1001 0)), (26, .d (bv (decide (v1 < 0)))), bxB 2003 (eXAdjunction.b a0)] .nil (by kernel_rfl) (by kernel_rfl) ?_
  rcases Bool.eq_false_or_eq_true (decide (v1 < 0)) with h2 | h2
  · have hM := ite_true' hM h2
    refine tr_condTe (e := decide (v1 < 0)) h2 (by kernel_rfl) ?_
    refine tr_sr hT hm [] [4] [(4, .d (bv true))] .nil (by kernel_rfl) (by kernel_rfl) ?_
    refine tr_ret (q_r (rg_r ?_))
    obtain rfl := Option.some.inj hM
    exact retg (names := []) .nil (by kernel_rfl)
  · have hM := ite_false' hM h2
    refine tr_condFe (e := decide (v1 < 0)) h2 (by kernel_rfl) ?_
    refine tr_skip (q_n ?_)
    obtain ⟨v3, hv3, hM⟩ := bind_some' hM
    obtain ⟨v4, hv4, hM⟩ := bind_some' hM
    refine tr_sr hT hm [(1, .call [] [] [.agg (eXAdjunction.b a0)] [] (.agg (eXAdjunction.o v3))), (2, .call (rsR 18000 (eXAdjunction.o v3)) [] [.agg (eXAdjunction.b v3)] [] (.tup [bv v4.1, iv v4.2]))] [2, 8, 10, 2003] [(2, .d (.rp 1001 0)), (8, .d (bv v4.1)), (10, .d (iv v4.2)), bxB 2003 (eXAdjunction.b a0)] (cc0 ok22 (laws_toAdjunction_c a0 _ hv3) (by kernel_rfl) (cc (B := (rsR 18000 (eXAdjunction.o v3))) (ρ := []) (rB := (rsP 18000 (eXAdjunction.o v3))) ok45 (spec_IsReflection_c v3 _ hv4) (.cons (bor_rs eXAdjunction_r (q := 18000) (x := v3) (by kernel_rfl) (by kernel_rfl)) .nil) (.inr ⟨(nobor_tup (.cons .v (.cons .v .nil))), trivial⟩) .nil)) (by kernel_rfl) (by kernel_rfl) ?_
    refine tr_sr hT hm [(1, .call [] [] [.agg (eXAdjunction.b a0)] [] (.agg (eXAdjunction.o v3)))] [2, 8, 10, 12, 2003, 2013, 46003, 46005, 46007, 46009, 46013, 46015, 46017, 46019, 46021, 46023, 46027, 46029, 46031, 46033, 46037, 46039, 46041, 46043, 46045, 46047, 46049, 46051] ([(2, .d (.rp 1001 0)), (8, .d (bv v4.1)), (10, .d (iv v4.2)), (12, .d (.rp 1006 0)), bxB 2003 (eXAdjunction.b a0), bxO 2013 23000 (eXAdjunction.o v3)] ++ rsS 23000 (eXAdjunction.o v3)) (cc0 ok22 (laws_toAdjunction_c a0 _ hv3) (by kernel_rfl) (.cons (Nat.le_of_ble_eq_true (n := 26) (m := 26) rfl) .nil)) (by kernel_rfl) (by kernel_rfl) ?_
    obtain ⟨v5, hv5, hM⟩ := bind_some' hM
    refine tr_sr hT hm [(1, .call (rsR 23000 (eXAdjunction.o v3)) [] [.agg (eXAdjunction.b v3)] [] (.tup [bv v5.1, iv v5.2]))] [2, 8, 10, 12, 14, 16, 2003, 2013, 46003, 46005, 46007, 46009, 46013, 46015, 46017, 46019, 46021, 46023, 46027, 46029, 46031, 46033, 46037, 46039, 46041, 46043, 46045, 46047, 46049, 46051] ([(2, .d (.rp 1001 0)), (8, .d (bv v4.1)), (10, .d (iv v4.2)), (12, .d (.rp 1006 0)), (14, .d (bv v5.1)), (16, .d (iv v5.2)), bxB 2003 (eXAdjunction.b a0), bxO 2013 23000 (eXAdjunction.o v3)] ++ rsS 23000 (eXAdjunction.o v3)) (cc (B := (rsR 23000 (eXAdjunction.o v3))) (ρ := []) (rB := (rsP 23000 (eXAdjunction.o v3))) ok46 (impl_IsReflection_c v3 _ hv5) (.cons (bor_rs eXAdjunction_r (q := 23000) (x := v3) (by kernel_rfl) (by kernel_rfl)) .nil) (.inr ⟨(nobor_tup (.cons .v (.cons .v .nil))), trivial⟩) .nil) (by kernel_rfl) (by kernel_rfl) ?_
    refine tr_seq ?_
    rcases Bool.eq_false_or_eq_true ((v5.1 == v4.1) == false) with h6 | h6
    · have hM := ite_true' hM h6
      refine tr_sr hT hm [(3, .val (bv true))] [2, 12, 68, 2003, 2013, 46003, 46005, 46007, 46009, 46013, 46015, 46017, 46019, 46021, 46023, 46027, 46029, 46031, 46033, 46037, 46039, 46041, 46043, 46045, 46047, 46049, 46051] ([(2, .d (.rp 1001 0)), (12, .d (.rp 1006 0)), (68, .d (bv true)), bxB 2003 (eXAdjunction.b a0), bxO 2013 23000 (eXAdjunction.o v3)] ++ rsS 23000 (eXAdjunction.o v3)) (.cons (congrArg (fun b => bv b) h6) .nil) (by kernel_rfl) (by kernel_rfl) ?_
      refine tr_condT (by kernel_rfl) ?_
      refine tr_sr hT hm [] [4] [(4, .d (bv false))] .nil (by kernel_rfl) (by kernel_rfl) ?_
      refine tr_ret (q_r (rg_r ?_))
      obtain rfl := Option.some.inj hM
      exact retg (names := []) .nil (by kernel_rfl)
    · have hM := ite_false' hM h6
      refine tr_sr hT hm [(3, .val (bv false))] [2, 12, 68, 2003, 2013, 46003, 46005, 46007, 46009, 46013, 46015, 46017, 46019, 46021, 46023, 46027, 46029, 46031, 46033, 46037, 46039, 46041, 46043, 46045, 46047, 46049, 46051] ([(2, .d (.rp 1001 0)), (12, .d (.rp 1006 0)), (68, .d (bv (v5.2 != v4.2))), bxB 2003 (eXAdjunction.b a0), bxO 2013 23000 (eXAdjunction.o v3)] ++ rsS 23000 (eXAdjunction.o v3)) (.cons (congrArg (fun b => bv b) h6) .nil) (by kernel_rfl) (by kernel_rfl) ?_
      rcases Bool.eq_false_or_eq_true (v5.2 != v4.2) with h7 | h7
      · have hM := ite_true' hM h7
        refine tr_condTe (e := v5.2 != v4.2) h7 (by kernel_rfl) ?_
        refine tr_sr hT hm [] [4] [(4, .d (bv false))] .nil (by kernel_rfl) (by kernel_rfl) ?_
        refine tr_ret (q_r (rg_r ?_))
        obtain rfl := Option.some.inj hM
        exact retg (names := []) .nil (by kernel_rfl)
      · have hM := ite_false' hM h7
        refine tr_condFe (e := v5.2 != v4.2) h7 (by kernel_rfl) ?_
        refine tr_skip (q_n ?_)
        refine tr_seq ?_
        obtain ⟨v8, hv8, hM⟩ := bind_some' hM
        refine tr_sr hT hm [(2, .call [] [] [.agg (eXAdjunction.b a0)] [] (.agg (eXAdjunction.o v3))), (3, .call (rsR 23000 (eXAdjunction.o v3) ++ rsR 39000 (eXAdjunction.o v3)) [] [.agg (eXAdjunction.b v3), .agg (eXAdjunction.b v3)] [] (bv v8))] [78] [(78, .d (bv (!v8)))] (cc0 ok22 (laws_toAdjunction_c a0 _ hv3) (by kernel_rfl) (cc (B := (rsR 23000 (eXAdjunction.o v3) ++ rsR 39000 (eXAdjunction.o v3))) (ρ := []) (rB := (rsP 23000 (eXAdjunction.o v3) ++ rsP 39000 (eXAdjunction.o v3))) ok24 (laws_eqAdjunction_c v3 v3 _ hv8) (.cons (bor_rs eXAdjunction_r (q := 23000) (x := v3) (by kernel_rfl) (by kernel_rfl)) (.cons (bor_rs eXAdjunction_r (q := 39000) (x := v3) (by kernel_rfl) (by kernel_rfl)) .nil)) (.inr ⟨.v, trivial⟩) .nil)) (by kernel_rfl) (by kernel_rfl) ?_
        rcases Bool.eq_false_or_eq_true v8 with h9 | h9
        · have hM := ite_true' hM h9
          refine tr_condFe (e := !v8) (congrArg not h9) (by kernel_rfl) ?_
          refine tr_skip (q_n ?_)
          refine tr_sr hT hm [] [4] [(4, .d (bv true))] .nil (by kernel_rfl) (by kernel_rfl) ?_
          refine tr_ret (rg_r ?_)
          obtain rfl := Option.some.inj hM
          exact retg (names := []) .nil (by kernel_rfl)
        · have hM := ite_false' hM h9
          refine tr_condTe (e := !v8) (congrArg not h9) (by kernel_rfl) ?_
          refine tr_sr hT hm [] [4] [(4, .d (bv false))] .nil (by kernel_rfl) (by kernel_rfl) ?_
          refine tr_ret (q_r (rg_r ?_))
          obtain rfl := Option.some.inj hM
          exact retg (names := []) .nil (by kernel_rfl)

end Go.Proofs.Ytpfdieaiogfihaa.Ww53
