/- Walks. Printed by wip/gen. -/
import Derived.Test.YtjmjhhhglbeacaaGxEM1
import Derived.Test.YtjmjhhhglbeacaaGxEO0
import Derived.Test.YtjmjhhhglbeacaaGxyCW
import Derived.Test.YtjmjhhhglbeacaaGxyUW
import Derived.KernelRfl
namespace Go.Proofs.Ytjmjhhhglbeacaa.Wy19
open Go.Gx Go.Proofs.Ytjmjhhhglbeacaa.WvB Go.Proofs.Ytjmjhhhglbeacaa.WyO Go.Proofs.Ytjmjhhhglbeacaa.WyN Go.Proofs.Ytjmjhhhglbeacaa.WyM Go.Proofs.Ytjmjhhhglbeacaa.WyC Go.Proofs.Ytjmjhhhglbeacaa.WyU

theorem eXCategory_r : EncR eXCategory := (eA_r (eC_r eI_r _) (eA_r (eC_r (eS_r eI_ok) _) (eA_r (eC_r (eS_r eI_ok) _) (eA_r (eC_r (eS_r eI_ok) _) (eC_r (eS_r (eS_ok eI_ok)) _)))))
theorem eXFunctor_r : EncR eXFunctor := (eA_r (eC_r eXCategory_r _) (eA_r (eC_r eXCategory_r _) (eA_r (eC_r (eS_r eI_ok) _) (eC_r (eS_r eI_ok) _))))
theorem eXMonoidal_r : EncR eXMonoidal := (eA_r (eC_r eXCategory_r _) (eA_r (eC_r eI_r _) (eA_r (eC_r (eS_r (eS_ok eI_ok)) _) (eC_r (eS_r (eS_ok eI_ok)) _))))
def T : Tab := [(2, ⟨.int .i64, 1, 8, [.int .i64 0]⟩),
  (3, ⟨.int .i64, 1, 8, [.int .i64 0]⟩),
  (22, ⟨.slice 2, 1, 24, [.slice .none 0 0]⟩),
  (23, ⟨.slice 22, 1, 24, [.slice .none 0 0]⟩),
  (25, ⟨.struct #[⟨"Objects", 2, 0, false, "", "", 0⟩, ⟨"From", 22, 1, false, "", "", 8⟩, ⟨"To", 22, 2, false, "", "", 32⟩, ⟨"Identity", 22, 3, false, "", "", 56⟩, ⟨"Composites", 23, 4, false, "", "", 80⟩], 5, 104, [.int .i64 0, .slice .none 0 0, .slice .none 0 0, .slice .none 0 0, .slice .none 0 0]⟩),
  (27, ⟨.struct #[⟨"On", 25, 0, false, "", "", 0⟩, ⟨"Unit", 2, 5, false, "", "", 104⟩, ⟨"Objects", 23, 6, false, "", "", 112⟩, ⟨"Arrows", 23, 7, false, "", "", 136⟩], 8, 160, [.int .i64 0, .slice .none 0 0, .slice .none 0 0, .slice .none 0 0, .slice .none 0 0, .int .i64 0, .slice .none 0 0, .slice .none 0 0]⟩),
  (31, ⟨.struct #[⟨"Objects", 2, 0, false, "", "", 0⟩, ⟨"From", 22, 1, false, "", "", 8⟩, ⟨"To", 22, 2, false, "", "", 32⟩, ⟨"Identity", 22, 3, false, "", "", 56⟩, ⟨"Composites", 23, 4, false, "", "", 80⟩], 5, 104, [.int .i64 0, .slice .none 0 0, .slice .none 0 0, .slice .none 0 0, .slice .none 0 0]⟩),
  (33, ⟨.struct #[⟨"On", 31, 0, false, "", "", 0⟩, ⟨"Unit", 2, 5, false, "", "", 104⟩, ⟨"Objects", 23, 6, false, "", "", 112⟩, ⟨"Arrows", 23, 7, false, "", "", 136⟩], 8, 160, [.int .i64 0, .slice .none 0 0, .slice .none 0 0, .slice .none 0 0, .slice .none 0 0, .int .i64 0, .slice .none 0 0, .slice .none 0 0]⟩),
  (48, ⟨.struct #[⟨"Source", 31, 0, false, "", "", 0⟩, ⟨"Target", 31, 5, false, "", "", 104⟩, ⟨"Objects", 22, 10, false, "", "", 208⟩, ⟨"Arrows", 22, 11, false, "", "", 232⟩], 12, 256, [.int .i64 0, .slice .none 0 0, .slice .none 0 0, .slice .none 0 0, .slice .none 0 0, .int .i64 0, .slice .none 0 0, .slice .none 0 0, .slice .none 0 0, .slice .none 0 0, .slice .none 0 0, .slice .none 0 0]⟩)]
theorem hT : TabOk Try.prog T := ⟨tiok (by kernel_rfl) (by kernel_rfl), tiok (by kernel_rfl) (by kernel_rfl), tiok (by kernel_rfl) (by kernel_rfl), tiok (by kernel_rfl) (by kernel_rfl), tiok (by kernel_rfl) (by kernel_rfl), tiok (by kernel_rfl) (by kernel_rfl), tiok (by kernel_rfl) (by kernel_rfl), tiok (by kernel_rfl) (by kernel_rfl), tiok (by kernel_rfl) (by kernel_rfl), trivial⟩
theorem hm : Try.prog.follows .mixedOrders = true := by kernel_rfl

theorem ok20 : CallOk Try.prog 20 := callOk_of Try.func20 (by kernel_rfl) (by kernel_rfl)
theorem spec_InternalHom_c (a0 : XMonoidal) (a1 : Int) (a2 : Int) (r : Int × Int × Int) (hM : M.spec_InternalHom a0 a1 a2 = some r) :
    FnC Try.prog 20 [] [.agg (eXMonoidal.b a0), iv a1, iv a2] [] (.tup [iv r.1, iv r.2.1, iv r.2.2]) := by
  refine fnc_startG (N := 34) (np := 500) hT Try.func20 rfl rfl (by kernel_rfl) ?_
  unfold M.spec_InternalHom at hM
  refine tr_start (ks := [0, 2, 4]) (st' := [(0, .d (.agg (eXMonoidal.b a0))), (2, .d (iv a1)), (4, .d (iv a2))]) (by kernel_rfl) ?_
  refine tr_sr hT hm [] [2, 4, 6, 2007] [(2, .d (iv a1)), (4, .d (iv a2)), (6, .d (.rp 1003 0)), bxB 2007 (eXMonoidal.b a0)] .nil (by kernel_rfl) (by kernel_rfl) ?_
  refine tr_seq ?_
  obtain ⟨v1, hv1, hM⟩ := bind_some' hM
  refine tr_sr hT hm [(4, .call [1016] [] [.agg (eXMonoidal.b a0), .sl ([a1, a2] : List Int).length 0 (([a1, a2] : List Int).flatMap eI.b)] [] (iv v1))] [2, 4, 6, 18, 2007] [(2, .d (iv a1)), (4, .d (iv a2)), (6, .d (.rp 1003 0)), (18, .d (iv v1)), bxB 2007 (eXMonoidal.b a0)] (cc (B := [1016]) (ρ := []) (rB := [(1016, .arr 1 (([a1, a2] : List Int).flatMap eI.o) [])]) ok75 (spec_l35Objects_c a0 ([a1, a2] : List Int) _ hv1) (.cons (.same rfl) (.cons (.of1 (.rs (r := 1016) (sz := 1) (refs := []) (memB (by kernel_rfl)) (by kernel_rfl) (bor_flat eI_ok _ _ _))) .nil)) (.inr ⟨.v, trivial⟩) .nil) (by kernel_rfl) (by kernel_rfl) ?_
  refine tr_sr hT hm [] [2, 4, 6, 18, 38, 2007] [(2, .d (iv a1)), (4, .d (iv a2)), (6, .d (.rp 1003 0)), (18, .d (iv v1)), (38, .d (bv (v1 != 0))), bxB 2007 (eXMonoidal.b a0)] .nil (by kernel_rfl) (by kernel_rfl) ?_
  rcases Bool.eq_false_or_eq_true (v1 != 0) with h2 | h2
  · have hM := ite_true' hM h2
    refine tr_condTe (e := v1 != 0) h2 (by kernel_rfl) ?_
    refine tr_sr hT hm [] [12, 14, 16] [(12, .d (iv 0)), (14, .d (iv 0)), (16, .d (iv v1))] .nil (by kernel_rfl) (by kernel_rfl) ?_
    refine tr_ret (q_r (rg_r ?_))
    obtain rfl := Option.some.inj hM
    exact retg (names := []) .nil (by kernel_rfl)
  · have hM := ite_false' hM h2
    refine tr_condFe (e := v1 != 0) h2 (by kernel_rfl) ?_
    refine tr_skip (q_n ?_)
    obtain ⟨v3, hv3, hM⟩ := bind_some' hM
    obtain ⟨v4, hv4, hM⟩ := bind_some' hM
    refine tr_sr hT hm [(2, .call [] [] [.agg (eXMonoidal.b a0), iv a1] [] (.agg (eXFunctor.o v3))), (4, .call (rsR 26000 (eXFunctor.o v3)) [] [.agg (eXFunctor.b v3), iv a2] [] (.tup [iv v4.1, iv v4.2.1, bv v4.2.2]))] [20, 22, 24] [(20, .d (iv v4.1)), (22, .d (iv v4.2.1)), (24, .d (bv v4.2.2))] (cc0 ok68 (spec_l35Behind_c a0 a1 _ hv3) (by kernel_rfl) (cc (B := (rsR 26000 (eXFunctor.o v3))) (ρ := []) (rB := (rsP 26000 (eXFunctor.o v3))) ok69 (spec_l15Find_c v3 a2 _ hv4) (.cons (bor_rs eXFunctor_r (q := 26000) (x := v3) (by kernel_rfl) (by kernel_rfl)) (.cons (.same rfl) .nil)) (.inr ⟨(nobor_tup (.cons .v (.cons .v (.cons .v .nil)))), trivial⟩) .nil)) (by kernel_rfl) (by kernel_rfl) ?_
    refine tr_seq ?_
    refine tr_sr hT hm [] [20, 22, 62] [(20, .d (iv v4.1)), (22, .d (iv v4.2.1)), (62, .d (bv (!v4.2.2)))] .nil (by kernel_rfl) (by kernel_rfl) ?_
    rcases Bool.eq_false_or_eq_true v4.2.2 with h5 | h5
    · have hM := ite_true' hM h5
      refine tr_condFe (e := !v4.2.2) (congrArg not h5) (by kernel_rfl) ?_
      refine tr_skip (q_n ?_)
      refine tr_sr hT hm [] [12, 14, 16] [(12, .d (iv v4.1)), (14, .d (iv v4.2.1)), (16, .d (iv 0))] .nil (by kernel_rfl) (by kernel_rfl) ?_
      refine tr_ret (rg_r ?_)
      obtain rfl := Option.some.inj hM
      exact retg (names := []) .nil (by kernel_rfl)
    · have hM := ite_false' hM h5
      refine tr_condTe (e := !v4.2.2) (congrArg not h5) (by kernel_rfl) ?_
      refine tr_sr hT hm [] [12, 14, 16] [(12, .d (iv 0)), (14, .d (iv 0)), (16, .d (iv 4))] .nil (by kernel_rfl) (by kernel_rfl) ?_
      refine tr_ret (q_r (rg_r ?_))
      obtain rfl := Option.some.inj hM
      exact retg (names := []) .nil (by kernel_rfl)

theorem ok21 : CallOk Try.prog 21 := callOk_of Try.func21 (by kernel_rfl) (by kernel_rfl)
theorem impl_InternalHom_c (a0 : XMonoidal) (a1 : Int) (a2 : Int) (r : Int × Int × Int) (hM : M.impl_InternalHom a0 a1 a2 = some r) :
    FnC Try.prog 21 [] [.agg (eXMonoidal.b a0), iv a1, iv a2] [] (.tup [iv r.1, iv r.2.1, iv r.2.2]) := by
  refine fnc_startG (N := 33) (np := 500) hT Try.func21 rfl rfl (by kernel_rfl) ?_
  unfold M.impl_InternalHom at hM
  refine tr_start (ks := [0, 2, 4]) (st' := [(0, .d (.agg (eXMonoidal.b a0))), (2, .d (iv a1)), (4, .d (iv a2))]) (by kernel_rfl) ?_
  refine tr_sr hT hm [] [2, 4, 6, 2007] [(2, .d (iv a1)), (4, .d (iv a2)), (6, .d (.rp 1003 0)), bxB 2007 (eXMonoidal.b a0)] .nil (by kernel_rfl) (by kernel_rfl) ?_
  refine tr_seq ?_
  obtain ⟨v1, hv1, hM⟩ := bind_some' hM
  refine tr_sr hT hm [(3, .call [1003, 1016] [] [.pt (eXMonoidal.b a0) 0, .sl ([a1, a2] : List Int).length 0 (([a1, a2] : List Int).flatMap eI.b)] [] (iv v1))] [2, 4, 6, 18, 2007] [(2, .d (iv a1)), (4, .d (iv a2)), (6, .d (.rp 1003 0)), (18, .d (iv v1)), bxB 2007 (eXMonoidal.b a0)] (cc (B := [1003, 1016]) (ρ := []) (rB := [(1003, .arr 1 [iv a0.On.Objects, .sl a0.On.From.length 0 (a0.On.From.flatMap eI.b), .sl a0.On.To.length 0 (a0.On.To.flatMap eI.b), .sl a0.On.Identity.length 0 (a0.On.Identity.flatMap eI.b), .sl a0.On.Composites.length 0 (a0.On.Composites.flatMap (eS eI).b), iv a0.Unit, .sl a0.Objects.length 0 (a0.Objects.flatMap (eS eI).b), .sl a0.Arrows.length 0 (a0.Arrows.flatMap (eS eI).b)] []), (1016, .arr 1 (([a1, a2] : List Int).flatMap eI.o) [])]) ok76 (impl_monoidalCode_c a0 ([a1, a2] : List Int) _ hv1) (.cons (.of1 (.rp (r := 1003) (sz := 1) (cells := [iv a0.On.Objects, .sl a0.On.From.length 0 (a0.On.From.flatMap eI.b), .sl a0.On.To.length 0 (a0.On.To.flatMap eI.b), .sl a0.On.Identity.length 0 (a0.On.Identity.flatMap eI.b), .sl a0.On.Composites.length 0 (a0.On.Composites.flatMap (eS eI).b), iv a0.Unit, .sl a0.Objects.length 0 (a0.Objects.flatMap (eS eI).b), .sl a0.Arrows.length 0 (a0.Arrows.flatMap (eS eI).b)]) (refs := []) (memB (by kernel_rfl)) (by kernel_rfl) (.cons .v (.cons (.same rfl rfl) (.cons (.same rfl rfl) (.cons (.same rfl rfl) (.cons (.same rfl rfl) (.cons .v (.cons (.same rfl rfl) (.cons (.same rfl rfl) .nil)))))))))) (.cons (.of1 (.rs (r := 1016) (sz := 1) (refs := []) (memB (by kernel_rfl)) (by kernel_rfl) (bor_flat eI_ok _ _ _))) .nil)) (.inr ⟨.v, trivial⟩) .nil) (by kernel_rfl) (by kernel_rfl) ?_
  refine tr_sr hT hm [] [2, 4, 6, 18, 38, 2007] [(2, .d (iv a1)), (4, .d (iv a2)), (6, .d (.rp 1003 0)), (18, .d (iv v1)), (38, .d (bv (v1 != 0))), bxB 2007 (eXMonoidal.b a0)] .nil (by kernel_rfl) (by kernel_rfl) ?_
  rcases Bool.eq_false_or_eq_true (v1 != 0) with h2 | h2
  · have hM := ite_true' hM h2
    refine tr_condTe (e := v1 != 0) h2 (by kernel_rfl) ?_
    refine tr_sr hT hm [] [12, 14, 16] [(12, .d (iv 0)), (14, .d (iv 0)), (16, .d (iv v1))] .nil (by kernel_rfl) (by kernel_rfl) ?_
    refine tr_ret (q_r (rg_r ?_))
    obtain rfl := Option.some.inj hM
    exact retg (names := []) .nil (by kernel_rfl)
  · have hM := ite_false' hM h2
    refine tr_condFe (e := v1 != 0) h2 (by kernel_rfl) ?_
    refine tr_skip (q_n ?_)
    obtain ⟨v3, hv3, hM⟩ := bind_some' hM
    refine tr_sr hT hm [(1, .call [1003] [] [.pt (eXMonoidal.b a0) 0, iv a1] [] (.agg (eXFunctor.o v3)))] [4, 20, 2021, 48003, 48005, 48007, 48009, 48013, 48015, 48017, 48019, 48021, 48023] ([(4, .d (iv a2)), (20, .d (.rp 1010 0)), bxO 2021 24000 (eXFunctor.o v3)] ++ rsS 24000 (eXFunctor.o v3)) (cc (B := [1003]) (ρ := []) (rB := [(1003, .arr 1 [iv a0.On.Objects, .sl a0.On.From.length 0 (a0.On.From.flatMap eI.b), .sl a0.On.To.length 0 (a0.On.To.flatMap eI.b), .sl a0.On.Identity.length 0 (a0.On.Identity.flatMap eI.b), .sl a0.On.Composites.length 0 (a0.On.Composites.flatMap (eS eI).b), iv a0.Unit, .sl a0.Objects.length 0 (a0.Objects.flatMap (eS eI).b), .sl a0.Arrows.length 0 (a0.Arrows.flatMap (eS eI).b)] [])]) ok72 (impl_Monoidal_behind_c a0 a1 _ hv3) (.cons (.of1 (.rp (r := 1003) (sz := 1) (cells := [iv a0.On.Objects, .sl a0.On.From.length 0 (a0.On.From.flatMap eI.b), .sl a0.On.To.length 0 (a0.On.To.flatMap eI.b), .sl a0.On.Identity.length 0 (a0.On.Identity.flatMap eI.b), .sl a0.On.Composites.length 0 (a0.On.Composites.flatMap (eS eI).b), iv a0.Unit, .sl a0.Objects.length 0 (a0.Objects.flatMap (eS eI).b), .sl a0.Arrows.length 0 (a0.Arrows.flatMap (eS eI).b)]) (refs := []) (memB (by kernel_rfl)) (by kernel_rfl) (.cons .v (.cons (.same rfl rfl) (.cons (.same rfl rfl) (.cons (.same rfl rfl) (.cons (.same rfl rfl) (.cons .v (.cons (.same rfl rfl) (.cons (.same rfl rfl) .nil)))))))))) (.cons (.same rfl) .nil)) (.inr ⟨(.agg (eXFunctor_nb _)), trivial⟩) (.cons (Nat.le_of_ble_eq_true (n := 12) (m := 12) rfl) .nil)) (by kernel_rfl) (by kernel_rfl) ?_
    obtain ⟨v4, hv4, hM⟩ := bind_some' hM
    refine tr_sr hT hm [(1, .call ([1010] ++ rsR 24000 (eXFunctor.o v3)) [] [.pt (eXFunctor.b v3) 0, iv a2] [] (.tup [iv v4.1, iv v4.2.1, bv v4.2.2]))] [22, 24, 26] [(22, .d (iv v4.1)), (24, .d (iv v4.2.1)), (26, .d (bv v4.2.2))] (cc (B := ([1010] ++ rsR 24000 (eXFunctor.o v3))) (ρ := []) (rB := ([(1010, .arr 1 [iv v3.Source.Objects, .rs 24001 0 v3.Source.From.length, .rs 24002 0 v3.Source.To.length, .rs 24003 0 v3.Source.Identity.length, .rs 24004 0 v3.Source.Composites.length, iv v3.Target.Objects, .rs 24006 0 v3.Target.From.length, .rs 24007 0 v3.Target.To.length, .rs 24008 0 v3.Target.Identity.length, .rs 24009 0 v3.Target.Composites.length, .rs 24010 0 v3.Objects.length, .rs 24011 0 v3.Arrows.length] [24001, 24002, 24003, 24004, 24006, 24007, 24008, 24009, 24010, 24011])] ++ rsP 24000 (eXFunctor.o v3))) ok73 (impl_Functor_universalArrow_c v3 a2 _ hv4) (.cons (.of1 (.rp (r := 1010) (sz := 1) (cells := [iv v3.Source.Objects, .rs 24001 0 v3.Source.From.length, .rs 24002 0 v3.Source.To.length, .rs 24003 0 v3.Source.Identity.length, .rs 24004 0 v3.Source.Composites.length, iv v3.Target.Objects, .rs 24006 0 v3.Target.From.length, .rs 24007 0 v3.Target.To.length, .rs 24008 0 v3.Target.Identity.length, .rs 24009 0 v3.Target.Composites.length, .rs 24010 0 v3.Objects.length, .rs 24011 0 v3.Arrows.length]) (refs := [24001, 24002, 24003, 24004, 24006, 24007, 24008, 24009, 24010, 24011]) (memB (by kernel_rfl)) (by kernel_rfl) (.cons .v (.cons (.rs (r := 24001) (sz := 1) (refs := []) (memB (by kernel_rfl)) (by kernel_rfl) (bor_flat eI_ok _ _ _)) (.cons (.rs (r := 24002) (sz := 1) (refs := []) (memB (by kernel_rfl)) (by kernel_rfl) (bor_flat eI_ok _ _ _)) (.cons (.rs (r := 24003) (sz := 1) (refs := []) (memB (by kernel_rfl)) (by kernel_rfl) (bor_flat eI_ok _ _ _)) (.cons (.rs (r := 24004) (sz := 1) (refs := []) (memB (by kernel_rfl)) (by kernel_rfl) (bor_flat (eS_ok eI_ok) _ _ _)) (.cons .v (.cons (.rs (r := 24006) (sz := 1) (refs := []) (memB (by kernel_rfl)) (by kernel_rfl) (bor_flat eI_ok _ _ _)) (.cons (.rs (r := 24007) (sz := 1) (refs := []) (memB (by kernel_rfl)) (by kernel_rfl) (bor_flat eI_ok _ _ _)) (.cons (.rs (r := 24008) (sz := 1) (refs := []) (memB (by kernel_rfl)) (by kernel_rfl) (bor_flat eI_ok _ _ _)) (.cons (.rs (r := 24009) (sz := 1) (refs := []) (memB (by kernel_rfl)) (by kernel_rfl) (bor_flat (eS_ok eI_ok) _ _ _)) (.cons (.rs (r := 24010) (sz := 1) (refs := []) (memB (by kernel_rfl)) (by kernel_rfl) (bor_flat eI_ok _ _ _)) (.cons (.rs (r := 24011) (sz := 1) (refs := []) (memB (by kernel_rfl)) (by kernel_rfl) (bor_flat eI_ok _ _ _)) .nil)))))))))))))) (.cons (.same rfl) .nil)) (.inr ⟨(nobor_tup (.cons .v (.cons .v (.cons .v .nil)))), trivial⟩) .nil) (by kernel_rfl) (by kernel_rfl) ?_
    refine tr_seq ?_
    refine tr_sr hT hm [] [22, 24, 60] [(22, .d (iv v4.1)), (24, .d (iv v4.2.1)), (60, .d (bv (!v4.2.2)))] .nil (by kernel_rfl) (by kernel_rfl) ?_
    rcases Bool.eq_false_or_eq_true v4.2.2 with h5 | h5
    · have hM := ite_true' hM h5
      refine tr_condFe (e := !v4.2.2) (congrArg not h5) (by kernel_rfl) ?_
      refine tr_skip (q_n ?_)
      refine tr_sr hT hm [] [12, 14, 16] [(12, .d (iv v4.1)), (14, .d (iv v4.2.1)), (16, .d (iv 0))] .nil (by kernel_rfl) (by kernel_rfl) ?_
      refine tr_ret (rg_r ?_)
      obtain rfl := Option.some.inj hM
      exact retg (names := []) .nil (by kernel_rfl)
    · have hM := ite_false' hM h5
      refine tr_condTe (e := !v4.2.2) (congrArg not h5) (by kernel_rfl) ?_
      refine tr_sr hT hm [] [12, 14, 16] [(12, .d (iv 0)), (14, .d (iv 0)), (16, .d (iv 4))] .nil (by kernel_rfl) (by kernel_rfl) ?_
      refine tr_ret (q_r (rg_r ?_))
      obtain rfl := Option.some.inj hM
      exact retg (names := []) .nil (by kernel_rfl)

theorem laws_FnExactInternalHom_c (a0 : XMonoidal) (a1 : Int) (a2 : Int) (r : Bool) (hM : M.laws_FnExactInternalHom a0 a1 a2 = some r) :
    FnC Try.prog 4 [] [.agg (eXMonoidal.b a0), iv a1, iv a2] [] (bv r) := by
  refine fnc_startG (N := 57) (np := 500) hT Try.func4 rfl rfl (by kernel_rfl) ?_
  unfold M.laws_FnExactInternalHom at hM
  refine tr_start (ks := [0, 2, 4]) (st' := [(0, .d (.agg (eXMonoidal.b a0))), (2, .d (iv a1)), (4, .d (iv a2))]) (by kernel_rfl) ?_
  refine tr_sr hT hm [] [2, 4, 6, 2007] [(2, .d (iv a1)), (4, .d (iv a2)), (6, .d (.rp 1003 0)), bxB 2007 (eXMonoidal.b a0)] .nil (by kernel_rfl) (by kernel_rfl) ?_
  refine tr_sr hT hm [] [2, 4, 6, 14, 2007] [(2, .d (iv a1)), (4, .d (iv a2)), (6, .d (.rp 1003 0)), (14, .d (iv 1048576)), bxB 2007 (eXMonoidal.b a0)] .nil (by kernel_rfl) (by kernel_rfl) ?_
  obtain ⟨v1, hv1, hM⟩ := bind_some' hM
  refine tr_sr hT hm [(2, .call [] [] [.agg (eXMonoidal.b a0), iv 1048576] [] (iv v1))] [2, 4, 6, 14, 2007] [(2, .d (iv a1)), (4, .d (iv a2)), (6, .d (.rp 1003 0)), (14, .d (iv v1)), bxB 2007 (eXMonoidal.b a0)] (cc0 ok15 (laws_szMonoidal_c a0 1048576 _ hv1) (by kernel_rfl) .nil) (by kernel_rfl) (by kernel_rfl) ?_
  refine tr_seq ?_
  refine tr_sr hT hm [] [2, 4, 6, 38, 2007] [(2, .d (iv a1)), (4, .d (iv a2)), (6, .d (.rp 1003 0)), (38, .d (bv (decide (v1 < 0)))), bxB 2007 (eXMonoidal.b a0)] .nil (by kernel_rfl) (by kernel_rfl) ?_
  rcases Bool.eq_false_or_eq_true (decide (v1 < 0)) with h2 | h2
  · have hM := ite_true' hM h2
    refine tr_condTe (e := decide (v1 < 0)) h2 (by kernel_rfl) ?_
    refine tr_sr hT hm [] [12] [(12, .d (bv true))] .nil (by kernel_rfl) (by kernel_rfl) ?_
    refine tr_ret (q_r (rg_r ?_))
    obtain rfl := Option.some.inj hM
    exact retg (names := []) .nil (by kernel_rfl)
  · have hM := ite_false' hM h2
    refine tr_condFe (e := decide (v1 < 0)) h2 (by kernel_rfl) ?_
    refine tr_skip (q_n ?_)
    obtain ⟨v3, hv3, hM⟩ := bind_some' hM
    obtain ⟨v4, hv4, hM⟩ := bind_some' hM
    refine tr_sr hT hm [(1, .call [] [] [.agg (eXMonoidal.b a0)] [] (.agg (eXMonoidal.o v3))), (4, .call (rsR 24000 (eXMonoidal.o v3)) [] [.agg (eXMonoidal.b v3), iv a1, iv a2] [] (.tup [iv v4.1, iv v4.2.1, iv v4.2.2]))] [2, 4, 6, 16, 18, 20, 2007] [(2, .d (iv a1)), (4, .d (iv a2)), (6, .d (.rp 1003 0)), (16, .d (iv v4.1)), (18, .d (iv v4.2.1)), (20, .d (iv v4.2.2)), bxB 2007 (eXMonoidal.b a0)] (cc0 ok17 (laws_toMonoidal_c a0 _ hv3) (by kernel_rfl) (cc (B := (rsR 24000 (eXMonoidal.o v3))) (ρ := []) (rB := (rsP 24000 (eXMonoidal.o v3))) ok20 (spec_InternalHom_c v3 a1 a2 _ hv4) (.cons (bor_rs eXMonoidal_r (q := 24000) (x := v3) (by kernel_rfl) (by kernel_rfl)) (.cons (.same rfl) (.cons (.same rfl) .nil))) (.inr ⟨(nobor_tup (.cons .v (.cons .v (.cons .v .nil)))), trivial⟩) .nil)) (by kernel_rfl) (by kernel_rfl) ?_
    refine tr_sr hT hm [(1, .call [] [] [.agg (eXMonoidal.b a0)] [] (.agg (eXMonoidal.o v3)))] [2, 4, 6, 16, 18, 20, 22, 2007, 2023, 64003, 64005, 64007, 64009, 64013, 64015] ([(2, .d (iv a1)), (4, .d (iv a2)), (6, .d (.rp 1003 0)), (16, .d (iv v4.1)), (18, .d (iv v4.2.1)), (20, .d (iv v4.2.2)), (22, .d (.rp 1011 0)), bxB 2007 (eXMonoidal.b a0), bxO 2023 32000 (eXMonoidal.o v3)] ++ rsS 32000 (eXMonoidal.o v3)) (cc0 ok17 (laws_toMonoidal_c a0 _ hv3) (by kernel_rfl) (.cons (Nat.le_of_ble_eq_true (n := 8) (m := 8) rfl) .nil)) (by kernel_rfl) (by kernel_rfl) ?_
    obtain ⟨v5, hv5, hM⟩ := bind_some' hM
    refine tr_sr hT hm [(3, .call (rsR 32000 (eXMonoidal.o v3)) [] [.agg (eXMonoidal.b v3), iv a1, iv a2] [] (.tup [iv v5.1, iv v5.2.1, iv v5.2.2]))] [6, 16, 18, 20, 22, 24, 26, 28, 2007, 2023, 64003, 64005, 64007, 64009, 64013, 64015] ([(6, .d (.rp 1003 0)), (16, .d (iv v4.1)), (18, .d (iv v4.2.1)), (20, .d (iv v4.2.2)), (22, .d (.rp 1011 0)), (24, .d (iv v5.1)), (26, .d (iv v5.2.1)), (28, .d (iv v5.2.2)), bxB 2007 (eXMonoidal.b a0), bxO 2023 32000 (eXMonoidal.o v3)] ++ rsS 32000 (eXMonoidal.o v3)) (cc (B := (rsR 32000 (eXMonoidal.o v3))) (ρ := []) (rB := (rsP 32000 (eXMonoidal.o v3))) ok21 (impl_InternalHom_c v3 a1 a2 _ hv5) (.cons (bor_rs eXMonoidal_r (q := 32000) (x := v3) (by kernel_rfl) (by kernel_rfl)) (.cons (.same rfl) (.cons (.same rfl) .nil))) (.inr ⟨(nobor_tup (.cons .v (.cons .v (.cons .v .nil)))), trivial⟩) .nil) (by kernel_rfl) (by kernel_rfl) ?_
    refine tr_seq ?_
    rcases Bool.eq_false_or_eq_true (v5.1 != v4.1) with h6 | h6
    · have hM := ite_true' hM h6
      refine tr_sr hT hm [(3, .val (bv true))] [6, 22, 102, 2007, 2023, 64003, 64005, 64007, 64009, 64013, 64015] ([(6, .d (.rp 1003 0)), (22, .d (.rp 1011 0)), (102, .d (bv true)), bxB 2007 (eXMonoidal.b a0), bxO 2023 32000 (eXMonoidal.o v3)] ++ rsS 32000 (eXMonoidal.o v3)) (.cons (congrArg (fun b => bv b) h6) .nil) (by kernel_rfl) (by kernel_rfl) ?_
      refine tr_condT (by kernel_rfl) ?_
      refine tr_sr hT hm [] [12] [(12, .d (bv false))] .nil (by kernel_rfl) (by kernel_rfl) ?_
      refine tr_ret (q_r (rg_r ?_))
      obtain rfl := Option.some.inj hM
      exact retg (names := []) .nil (by kernel_rfl)
    · have hM := ite_false' hM h6
      rcases Bool.eq_false_or_eq_true (v5.2.1 != v4.2.1) with h7 | h7
      · have hM := ite_true' hM h7
        refine tr_sr hT hm [(3, .val (bv false)), (8, .val (bv true))] [6, 22, 102, 2007, 2023, 64003, 64005, 64007, 64009, 64013, 64015] ([(6, .d (.rp 1003 0)), (22, .d (.rp 1011 0)), (102, .d (bv true)), bxB 2007 (eXMonoidal.b a0), bxO 2023 32000 (eXMonoidal.o v3)] ++ rsS 32000 (eXMonoidal.o v3)) (.cons (congrArg (fun b => bv b) h6) (.cons (congrArg (fun b => bv b) h7) .nil)) (by kernel_rfl) (by kernel_rfl) ?_
        refine tr_condT (by kernel_rfl) ?_
        refine tr_sr hT hm [] [12] [(12, .d (bv false))] .nil (by kernel_rfl) (by kernel_rfl) ?_
        refine tr_ret (q_r (rg_r ?_))
        obtain rfl := Option.some.inj hM
        exact retg (names := []) .nil (by kernel_rfl)
      · have hM := ite_false' hM h7
        refine tr_sr hT hm [(3, .val (bv false)), (8, .val (bv false))] [6, 22, 102, 2007, 2023, 64003, 64005, 64007, 64009, 64013, 64015] ([(6, .d (.rp 1003 0)), (22, .d (.rp 1011 0)), (102, .d (bv (v5.2.2 != v4.2.2))), bxB 2007 (eXMonoidal.b a0), bxO 2023 32000 (eXMonoidal.o v3)] ++ rsS 32000 (eXMonoidal.o v3)) (.cons (congrArg (fun b => bv b) h6) (.cons (congrArg (fun b => bv b) h7) .nil)) (by kernel_rfl) (by kernel_rfl) ?_
        rcases Bool.eq_false_or_eq_true (v5.2.2 != v4.2.2) with h8 | h8
        · have hM := ite_true' hM h8
          refine tr_condTe (e := v5.2.2 != v4.2.2) h8 (by kernel_rfl) ?_
          refine tr_sr hT hm [] [12] [(12, .d (bv false))] .nil (by kernel_rfl) (by kernel_rfl) ?_
          refine tr_ret (q_r (rg_r ?_))
          obtain rfl := Option.some.inj hM
          exact retg (names := []) .nil (by kernel_rfl)
        · have hM := ite_false' hM h8
          refine tr_condFe (e := v5.2.2 != v4.2.2) h8 (by kernel_rfl) ?_
          refine tr_skip (q_n ?_)
          refine tr_seq ?_
          obtain ⟨v9, hv9, hM⟩ := bind_some' hM
          refine tr_sr hT hm [(2, .call [] [] [.agg (eXMonoidal.b a0)] [] (.agg (eXMonoidal.o v3))), (3, .call (rsR 32000 (eXMonoidal.o v3) ++ rsR 56000 (eXMonoidal.o v3)) [] [.agg (eXMonoidal.b v3), .agg (eXMonoidal.b v3)] [] (bv v9))] [112] [(112, .d (bv (!v9)))] (cc0 ok17 (laws_toMonoidal_c a0 _ hv3) (by kernel_rfl) (cc (B := (rsR 32000 (eXMonoidal.o v3) ++ rsR 56000 (eXMonoidal.o v3))) (ρ := []) (rB := (rsP 32000 (eXMonoidal.o v3) ++ rsP 56000 (eXMonoidal.o v3))) ok19 (laws_eqMonoidal_c v3 v3 _ hv9) (.cons (bor_rs eXMonoidal_r (q := 32000) (x := v3) (by kernel_rfl) (by kernel_rfl)) (.cons (bor_rs eXMonoidal_r (q := 56000) (x := v3) (by kernel_rfl) (by kernel_rfl)) .nil)) (.inr ⟨.v, trivial⟩) .nil)) (by kernel_rfl) (by kernel_rfl) ?_
          rcases Bool.eq_false_or_eq_true v9 with h10 | h10
          · have hM := ite_true' hM h10
            refine tr_condFe (e := !v9) (congrArg not h10) (by kernel_rfl) ?_
            refine tr_skip (q_n ?_)
            refine tr_sr hT hm [] [12] [(12, .d (bv true))] .nil (by kernel_rfl) (by kernel_rfl) ?_
            refine tr_ret (rg_r ?_)
            obtain rfl := Option.some.inj hM
            exact retg (names := []) .nil (by kernel_rfl)
          · have hM := ite_false' hM h10
            refine tr_condTe (e := !v9) (congrArg not h10) (by kernel_rfl) ?_
            refine tr_sr hT hm [] [12] [(12, .d (bv false))] .nil (by kernel_rfl) (by kernel_rfl) ?_
            refine tr_ret (q_r (rg_r ?_))
            obtain rfl := Option.some.inj hM
            exact retg (names := []) .nil (by kernel_rfl)

end Go.Proofs.Ytjmjhhhglbeacaa.Wy19
