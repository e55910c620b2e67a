/- Walks. Printed by wip/gen. -/
import Derived.Test.YtjmjhhhglbeacaaGxEM0
import Derived.Test.YtjmjhhhglbeacaaGxEO0
import Derived.Test.YtjmjhhhglbeacaaGxyMW2
import Derived.Test.YtjmjhhhglbeacaaGxyUW
import Derived.KernelRfl
namespace Go.Proofs.Ytjmjhhhglbeacaa.Wy16
open Go.Gx Go.Proofs.Ytjmjhhhglbeacaa.WvB Go.Proofs.Ytjmjhhhglbeacaa.WyO Go.Proofs.Ytjmjhhhglbeacaa.WyN Go.Proofs.Ytjmjhhhglbeacaa.WyM Go.Proofs.Ytjmjhhhglbeacaa.WyU

theorem eXCategory_r : EncR eXCategory := (eA_r (eC_r eI_r _) (eA_r (eC_r (eS_r eI_ok) _) (eA_r (eC_r (eS_r eI_ok) _) (eA_r (eC_r (eS_r eI_ok) _) (eC_r (eS_r (eS_ok eI_ok)) _)))))
theorem eXFunctor_r : EncR eXFunctor := (eA_r (eC_r eXCategory_r _) (eA_r (eC_r eXCategory_r _) (eA_r (eC_r (eS_r eI_ok) _) (eC_r (eS_r eI_ok) _))))
theorem eXMonoidal_r : EncR eXMonoidal := (eA_r (eC_r eXCategory_r _) (eA_r (eC_r eI_r _) (eA_r (eC_r (eS_r (eS_ok eI_ok)) _) (eC_r (eS_r (eS_ok eI_ok)) _))))
def T : Tab := [(2, ⟨.int .i64, 1, 8, [.int .i64 0]⟩),
  (3, ⟨.int .i64, 1, 8, [.int .i64 0]⟩),
  (4, ⟨.bool, 1, 1, [.bool false]⟩),
  (22, ⟨.slice 2, 1, 24, [.slice .none 0 0]⟩),
  (23, ⟨.slice 22, 1, 24, [.slice .none 0 0]⟩),
  (25, ⟨.struct #[⟨"Objects", 2, 0, false, "", "", 0⟩, ⟨"From", 22, 1, false, "", "", 8⟩, ⟨"To", 22, 2, false, "", "", 32⟩, ⟨"Identity", 22, 3, false, "", "", 56⟩, ⟨"Composites", 23, 4, false, "", "", 80⟩], 5, 104, [.int .i64 0, .slice .none 0 0, .slice .none 0 0, .slice .none 0 0, .slice .none 0 0]⟩),
  (27, ⟨.struct #[⟨"On", 25, 0, false, "", "", 0⟩, ⟨"Unit", 2, 5, false, "", "", 104⟩, ⟨"Objects", 23, 6, false, "", "", 112⟩, ⟨"Arrows", 23, 7, false, "", "", 136⟩], 8, 160, [.int .i64 0, .slice .none 0 0, .slice .none 0 0, .slice .none 0 0, .slice .none 0 0, .int .i64 0, .slice .none 0 0, .slice .none 0 0]⟩),
  (31, ⟨.struct #[⟨"Objects", 2, 0, false, "", "", 0⟩, ⟨"From", 22, 1, false, "", "", 8⟩, ⟨"To", 22, 2, false, "", "", 32⟩, ⟨"Identity", 22, 3, false, "", "", 56⟩, ⟨"Composites", 23, 4, false, "", "", 80⟩], 5, 104, [.int .i64 0, .slice .none 0 0, .slice .none 0 0, .slice .none 0 0, .slice .none 0 0]⟩),
  (33, ⟨.struct #[⟨"On", 31, 0, false, "", "", 0⟩, ⟨"Unit", 2, 5, false, "", "", 104⟩, ⟨"Objects", 23, 6, false, "", "", 112⟩, ⟨"Arrows", 23, 7, false, "", "", 136⟩], 8, 160, [.int .i64 0, .slice .none 0 0, .slice .none 0 0, .slice .none 0 0, .slice .none 0 0, .int .i64 0, .slice .none 0 0, .slice .none 0 0]⟩),
  (48, ⟨.struct #[⟨"Source", 31, 0, false, "", "", 0⟩, ⟨"Target", 31, 5, false, "", "", 104⟩, ⟨"Objects", 22, 10, false, "", "", 208⟩, ⟨"Arrows", 22, 11, false, "", "", 232⟩], 12, 256, [.int .i64 0, .slice .none 0 0, .slice .none 0 0, .slice .none 0 0, .slice .none 0 0, .int .i64 0, .slice .none 0 0, .slice .none 0 0, .slice .none 0 0, .slice .none 0 0, .slice .none 0 0, .slice .none 0 0]⟩)]
theorem hT : TabOk Try.prog T := ⟨tiok (by kernel_rfl) (by kernel_rfl), tiok (by kernel_rfl) (by kernel_rfl), tiok (by kernel_rfl) (by kernel_rfl), tiok (by kernel_rfl) (by kernel_rfl), tiok (by kernel_rfl) (by kernel_rfl), tiok (by kernel_rfl) (by kernel_rfl), tiok (by kernel_rfl) (by kernel_rfl), tiok (by kernel_rfl) (by kernel_rfl), tiok (by kernel_rfl) (by kernel_rfl), tiok (by kernel_rfl) (by kernel_rfl), trivial⟩
theorem hm : Try.prog.follows .mixedOrders = true := by kernel_rfl

theorem ok16 : CallOk Try.prog 16 := callOk_of Try.func16 (by kernel_rfl) (by kernel_rfl)
theorem spec_IsClosed_c (a0 : XMonoidal) (r : Bool × Int) (hM : M.spec_IsClosed a0 = some r) :
    FnC Try.prog 16 [] [.agg (eXMonoidal.b a0)] [] (.tup [bv r.1, iv r.2]) := by
  refine fnc_startG (N := 39) (np := 500) hT Try.func16 rfl rfl (by kernel_rfl) ?_
  unfold M.spec_IsClosed at hM
  refine tr_start (ks := [0]) (st' := [(0, .d (.agg (eXMonoidal.b a0)))]) (by kernel_rfl) ?_
  refine tr_sr hT hm [] [2, 2003] [(2, .d (.rp 1001 0)), bxB 2003 (eXMonoidal.b a0)] .nil (by kernel_rfl) (by kernel_rfl) ?_
  refine tr_seq ?_
  obtain ⟨v1, hv1, hM⟩ := bind_some' hM
  refine tr_sr hT hm [(1, .call [] [] [.agg (eXMonoidal.b a0)] [] (bv v1))] [2, 24, 2003] [(2, .d (.rp 1001 0)), (24, .d (bv (!v1))), bxB 2003 (eXMonoidal.b a0)] (cc0 ok67 (spec_l35Is_c a0 _ hv1) (by kernel_rfl) .nil) (by kernel_rfl) (by kernel_rfl) ?_
  rcases Bool.eq_false_or_eq_true v1 with h2 | h2
  · have hM := ite_true' hM h2
    refine tr_condFe (e := !v1) (congrArg not h2) (by kernel_rfl) ?_
    refine tr_skip (q_n ?_)
    refine tr_seq ?_
    refine tr_sr hT hm [] [2, 8, 2003] [(2, .d (.rp 1001 0)), (8, .d (iv 0)), bxB 2003 (eXMonoidal.b a0)] .nil (by kernel_rfl) (by kernel_rfl) ?_
    refine tr_block ?_
    refine tr_iterS (fun (s3 : Int) => [(2, .d (.rp 1001 0)), (8, .d (iv s3)), bxB 2003 (eXMonoidal.b a0)]) 0 [2, 8, 2003] (by kernel_rfl) hM ?_
    intro n6 next4 ih5 s3 hM
    refine tr_seq ?_
    refine tr_sr hT hm [] [2, 8, 34, 2003] [(2, .d (.rp 1001 0)), (8, .d (iv s3)), (34, .d (bv (decide (s3 < a0.On.Objects)))), bxB 2003 (eXMonoidal.b a0)] .nil (by kernel_rfl) (by kernel_rfl) ?_
    rcases Bool.eq_false_or_eq_true (decide (s3 < a0.On.Objects)) with h7 | h7
    · have hM := ite_true' hM h7
      refine tr_condTe (e := decide (s3 < a0.On.Objects)) h7 (by kernel_rfl) ?_
      refine tr_skip (q_n ?_)
      refine tr_seq ?_
      refine tr_block ?_
      obtain ⟨v8, hv8, hM⟩ := bind_some' hM
      refine tr_sr hT hm [(2, .call [] [] [.agg (eXMonoidal.b a0), iv s3] [] (.agg (eXFunctor.o v8)))] [2, 8, 10, 2003, 2011, 48003, 48005, 48007, 48009, 48013, 48015, 48017, 48019, 48021, 48023] ([(2, .d (.rp 1001 0)), (8, .d (iv s3)), (10, .d (.rp 1005 0)), bxB 2003 (eXMonoidal.b a0), bxO 2011 24000 (eXFunctor.o v8)] ++ rsS 24000 (eXFunctor.o v8)) (cc0 ok68 (spec_l35Behind_c a0 s3 _ hv8) (by kernel_rfl) (.cons (Nat.le_of_ble_eq_true (n := 12) (m := 12) rfl) .nil)) (by kernel_rfl) (by kernel_rfl) ?_
      refine tr_sr hT hm [] [2, 8, 10, 12, 2003, 2011, 48003, 48005, 48007, 48009, 48013, 48015, 48017, 48019, 48021, 48023] ([(2, .d (.rp 1001 0)), (8, .d (iv s3)), (10, .d (.rp 1005 0)), (12, .d (iv 0)), bxB 2003 (eXMonoidal.b a0), bxO 2011 24000 (eXFunctor.o v8)] ++ rsS 24000 (eXFunctor.o v8)) .nil (by kernel_rfl) (by kernel_rfl) ?_
      refine tr_block ?_
      refine tr_iterS (fun (s9 : Int) => ([(2, .d (.rp 1001 0)), (8, .d (iv s3)), (10, .d (.rp 1005 0)), (12, .d (iv s9)), bxB 2003 (eXMonoidal.b a0), bxO 2011 24000 (eXFunctor.o v8)] ++ rsS 24000 (eXFunctor.o v8))) 0 [2, 8, 10, 12, 2003, 2011, 48003, 48005, 48007, 48009, 48013, 48015, 48017, 48019, 48021, 48023] (by kernel_rfl) hM ?_
      intro n12 next10 ih11 s9 hM
      refine tr_seq ?_
      refine tr_sr hT hm [] [2, 8, 10, 12, 54, 2003, 2011, 48003, 48005, 48007, 48009, 48013, 48015, 48017, 48019, 48021, 48023] ([(2, .d (.rp 1001 0)), (8, .d (iv s3)), (10, .d (.rp 1005 0)), (12, .d (iv s9)), (54, .d (bv (decide (s9 < a0.On.Objects)))), bxB 2003 (eXMonoidal.b a0), bxO 2011 24000 (eXFunctor.o v8)] ++ rsS 24000 (eXFunctor.o v8)) .nil (by kernel_rfl) (by kernel_rfl) ?_
      rcases Bool.eq_false_or_eq_true (decide (s9 < a0.On.Objects)) with h13 | h13
      · have hM := ite_true' hM h13
        refine tr_condTe (e := decide (s9 < a0.On.Objects)) h13 (by kernel_rfl) ?_
        refine tr_skip (q_n ?_)
        refine tr_seq ?_
        refine tr_block ?_
        obtain ⟨v14, hv14, hM⟩ := bind_some' hM
        refine tr_sr hT hm [(2, .call (rsR 24000 (eXFunctor.o v8)) [] [.agg (eXFunctor.b v8), iv s9] [] (.tup [iv v14.1, iv v14.2.1, bv v14.2.2]))] [2, 8, 10, 12, 18, 2003, 2011, 48003, 48005, 48007, 48009, 48013, 48015, 48017, 48019, 48021, 48023] ([(2, .d (.rp 1001 0)), (8, .d (iv s3)), (10, .d (.rp 1005 0)), (12, .d (iv s9)), (18, .d (bv v14.2.2)), bxB 2003 (eXMonoidal.b a0), bxO 2011 24000 (eXFunctor.o v8)] ++ rsS 24000 (eXFunctor.o v8)) (cc (B := (rsR 24000 (eXFunctor.o v8))) (ρ := []) (rB := (rsP 24000 (eXFunctor.o v8))) ok69 (spec_l15Find_c v8 s9 _ hv14) (.cons (bor_rs eXFunctor_r (q := 24000) (x := v8) (by kernel_rfl) (by kernel_rfl)) (.cons (.same rfl) .nil)) (.inr ⟨(nobor_tup (.cons .v (.cons .v (.cons .v .nil)))), trivial⟩) .nil) (by kernel_rfl) (by kernel_rfl) ?_
        refine tr_sr hT hm [] [2, 8, 10, 12, 76, 2003, 2011, 48003, 48005, 48007, 48009, 48013, 48015, 48017, 48019, 48021, 48023] ([(2, .d (.rp 1001 0)), (8, .d (iv s3)), (10, .d (.rp 1005 0)), (12, .d (iv s9)), (76, .d (bv (!v14.2.2))), bxB 2003 (eXMonoidal.b a0), bxO 2011 24000 (eXFunctor.o v8)] ++ rsS 24000 (eXFunctor.o v8)) .nil (by kernel_rfl) (by kernel_rfl) ?_
        rcases Bool.eq_false_or_eq_true v14.2.2 with h15 | h15
        · have hM := ite_true' hM h15
          refine tr_condFe (e := !v14.2.2) (congrArg not h15) (by kernel_rfl) ?_
          refine tr_skip (b_n (q_n ?_))
          refine tr_r hT hm [] [2, 8, 10, 12, 2003, 2011, 48003, 48005, 48007, 48009, 48013, 48015, 48017, 48019, 48021, 48023] ([(2, .d (.rp 1001 0)), (8, .d (iv s3)), (10, .d (.rp 1005 0)), (12, .d (iv (IntKind.i64.wrap (s9 + 1)))), bxB 2003 (eXMonoidal.b a0), bxO 2011 24000 (eXFunctor.o v8)] ++ rsS 24000 (eXFunctor.o v8)) .nil (by kernel_rfl) (by kernel_rfl) (l_n ?_)
          exact trl_start (ks := [2, 8, 10, 12, 2003, 2011, 48003, 48005, 48007, 48009, 48013, 48015, 48017, 48019, 48021, 48023]) (by kernel_rfl) (ih11 (IntKind.i64.wrap (s9 + 1)) hM)
        · have hM := ite_false' hM h15
          refine tr_condTe (e := !v14.2.2) (congrArg not h15) (by kernel_rfl) ?_
          refine tr_sr hT hm [] [4, 6] [(4, .d (bv false)), (6, .d (iv 0))] .nil (by kernel_rfl) (by kernel_rfl) ?_
          refine tr_ret (b_r (q_r (l_r (b_r (b_r (q_r (l_r (b_r (q_r (rg_r ?_))))))))))
          obtain rfl := Option.some.inj hM
          exact retg (names := []) .nil (by kernel_rfl)
      · have hM := ite_false' hM h13
        refine tr_condFe (e := decide (s9 < a0.On.Objects)) h13 (by kernel_rfl) ?_
        refine tr_exit (q_x (l_x (b_h (b_n (q_n ?_)))))
        refine tr_r hT hm [] [2, 8, 2003] [(2, .d (.rp 1001 0)), (8, .d (iv (IntKind.i64.wrap (s3 + 1)))), bxB 2003 (eXMonoidal.b a0)] .nil (by kernel_rfl) (by kernel_rfl) (l_n ?_)
        exact trl_start (ks := [2, 8, 2003]) (by kernel_rfl) (ih5 (IntKind.i64.wrap (s3 + 1)) hM)
    · have hM := ite_false' hM h7
      refine tr_condFe (e := decide (s3 < a0.On.Objects)) h7 (by kernel_rfl) ?_
      refine tr_exit (q_x (l_x (b_h (q_n ?_))))
      refine tr_sr hT hm [] [4, 6] [(4, .d (bv true)), (6, .d (iv 0))] .nil (by kernel_rfl) (by kernel_rfl) ?_
      refine tr_ret (rg_r ?_)
      obtain rfl := Option.some.inj hM
      exact retg (names := []) .nil (by kernel_rfl)
  · have hM := ite_false' hM h2
    refine tr_condTe (e := !v1) (congrArg not h2) (by kernel_rfl) ?_
    refine tr_sr hT hm [] [4, 6] [(4, .d (bv false)), (6, .d (iv 1))] .nil (by kernel_rfl) (by kernel_rfl) ?_
    refine tr_ret (q_r (rg_r ?_))
    obtain rfl := Option.some.inj hM
    exact retg (names := []) .nil (by kernel_rfl)

theorem ok18 : CallOk Try.prog 18 := callOk_of Try.func18 (by kernel_rfl) (by kernel_rfl)
theorem impl_IsClosed_c (a0 : XMonoidal) (r : Bool × Int) (hM : M.impl_IsClosed a0 = some r) :
    FnC Try.prog 18 [] [.agg (eXMonoidal.b a0)] [] (.tup [bv r.1, iv r.2]) := by
  refine fnc_startG (N := 36) (np := 500) hT Try.func18 rfl rfl (by kernel_rfl) ?_
  unfold M.impl_IsClosed at hM
  refine tr_start (ks := [0]) (st' := [(0, .d (.agg (eXMonoidal.b a0)))]) (by kernel_rfl) ?_
  refine tr_sr hT hm [] [2, 2003] [(2, .d (.rp 1001 0)), bxB 2003 (eXMonoidal.b a0)] .nil (by kernel_rfl) (by kernel_rfl) ?_
  refine tr_seq ?_
  obtain ⟨v1, hv1, hM⟩ := bind_some' hM
  refine tr_sr hT hm [(0, .call [1001] [] [.pt (eXMonoidal.b a0) 0] [] (bv v1))] [2, 22, 2003] [(2, .d (.rp 1001 0)), (22, .d (bv (!v1))), bxB 2003 (eXMonoidal.b a0)] (cc (B := [1001]) (ρ := []) (rB := [(1001, .arr 1 [iv a0.On.Objects, .sl a0.On.From.length 0 (a0.On.From.flatMap eI.b), .sl a0.On.To.length 0 (a0.On.To.flatMap eI.b), .sl a0.On.Identity.length 0 (a0.On.Identity.flatMap eI.b), .sl a0.On.Composites.length 0 (a0.On.Composites.flatMap (eS eI).b), iv a0.Unit, .sl a0.Objects.length 0 (a0.Objects.flatMap (eS eI).b), .sl a0.Arrows.length 0 (a0.Arrows.flatMap (eS eI).b)] [])]) ok71 (impl_Monoidal_isMonoidal_c a0 _ hv1) (.cons (.of1 (.rp (r := 1001) (sz := 1) (cells := [iv a0.On.Objects, .sl a0.On.From.length 0 (a0.On.From.flatMap eI.b), .sl a0.On.To.length 0 (a0.On.To.flatMap eI.b), .sl a0.On.Identity.length 0 (a0.On.Identity.flatMap eI.b), .sl a0.On.Composites.length 0 (a0.On.Composites.flatMap (eS eI).b), iv a0.Unit, .sl a0.Objects.length 0 (a0.Objects.flatMap (eS eI).b), .sl a0.Arrows.length 0 (a0.Arrows.flatMap (eS eI).b)]) (refs := []) (memB (by kernel_rfl)) (by kernel_rfl) (.cons .v (.cons (.same rfl rfl) (.cons (.same rfl rfl) (.cons (.same rfl rfl) (.cons (.same rfl rfl) (.cons .v (.cons (.same rfl rfl) (.cons (.same rfl rfl) .nil)))))))))) .nil) (.inr ⟨.v, trivial⟩) .nil) (by kernel_rfl) (by kernel_rfl) ?_
  rcases Bool.eq_false_or_eq_true v1 with h2 | h2
  · have hM := ite_true' hM h2
    refine tr_condFe (e := !v1) (congrArg not h2) (by kernel_rfl) ?_
    refine tr_skip (q_n ?_)
    refine tr_seq ?_
    refine tr_sr hT hm [] [2, 28, 30, 2003] [(2, .d (.rp 1001 0)), (28, .d (iv a0.On.Objects)), (30, .d (iv 0)), bxB 2003 (eXMonoidal.b a0)] .nil (by kernel_rfl) (by kernel_rfl) ?_
    refine tr_block ?_
    refine tr_iterS (fun (s3 : Int) => [(2, .d (.rp 1001 0)), (28, .d (iv a0.On.Objects)), (30, .d (iv s3)), bxB 2003 (eXMonoidal.b a0)]) 0 [2, 28, 30, 2003] (by kernel_rfl) hM ?_
    intro n6 next4 ih5 s3 hM
    refine tr_sr hT hm [] [2, 28, 30, 32, 2003] [(2, .d (.rp 1001 0)), (28, .d (iv a0.On.Objects)), (30, .d (iv s3)), (32, .d (bv (decide (s3 < a0.On.Objects)))), bxB 2003 (eXMonoidal.b a0)] .nil (by kernel_rfl) (by kernel_rfl) ?_
    refine tr_seq ?_
    rcases Bool.eq_false_or_eq_true (decide (s3 < a0.On.Objects)) with h7 | h7
    · have hM := ite_true' hM h7
      refine tr_condTe (e := decide (s3 < a0.On.Objects)) h7 (by kernel_rfl) ?_
      refine tr_skip (q_n ?_)
      refine tr_seq ?_
      refine tr_block ?_
      refine tr_sr hT hm [] [2, 8, 28, 30, 2003] [(2, .d (.rp 1001 0)), (8, .d (iv s3)), (28, .d (iv a0.On.Objects)), (30, .d (iv s3)), bxB 2003 (eXMonoidal.b a0)] .nil (by kernel_rfl) (by kernel_rfl) ?_
      obtain ⟨v8, hv8, hM⟩ := bind_some' hM
      refine tr_sr hT hm [(1, .call [1001] [] [.pt (eXMonoidal.b a0) 0, iv s3] [] (.agg (eXFunctor.o v8)))] [2, 10, 28, 30, 2003, 2011, 42003, 42005, 42007, 42009, 42013, 42015, 42017, 42019, 42021, 42023] ([(2, .d (.rp 1001 0)), (10, .d (.rp 1005 0)), (28, .d (iv a0.On.Objects)), (30, .d (iv s3)), bxB 2003 (eXMonoidal.b a0), bxO 2011 21000 (eXFunctor.o v8)] ++ rsS 21000 (eXFunctor.o v8)) (cc (B := [1001]) (ρ := []) (rB := [(1001, .arr 1 [iv a0.On.Objects, .sl a0.On.From.length 0 (a0.On.From.flatMap eI.b), .sl a0.On.To.length 0 (a0.On.To.flatMap eI.b), .sl a0.On.Identity.length 0 (a0.On.Identity.flatMap eI.b), .sl a0.On.Composites.length 0 (a0.On.Composites.flatMap (eS eI).b), iv a0.Unit, .sl a0.Objects.length 0 (a0.Objects.flatMap (eS eI).b), .sl a0.Arrows.length 0 (a0.Arrows.flatMap (eS eI).b)] [])]) ok72 (impl_Monoidal_behind_c a0 s3 _ hv8) (.cons (.of1 (.rp (r := 1001) (sz := 1) (cells := [iv a0.On.Objects, .sl a0.On.From.length 0 (a0.On.From.flatMap eI.b), .sl a0.On.To.length 0 (a0.On.To.flatMap eI.b), .sl a0.On.Identity.length 0 (a0.On.Identity.flatMap eI.b), .sl a0.On.Composites.length 0 (a0.On.Composites.flatMap (eS eI).b), iv a0.Unit, .sl a0.Objects.length 0 (a0.Objects.flatMap (eS eI).b), .sl a0.Arrows.length 0 (a0.Arrows.flatMap (eS eI).b)]) (refs := []) (memB (by kernel_rfl)) (by kernel_rfl) (.cons .v (.cons (.same rfl rfl) (.cons (.same rfl rfl) (.cons (.same rfl rfl) (.cons (.same rfl rfl) (.cons .v (.cons (.same rfl rfl) (.cons (.same rfl rfl) .nil)))))))))) (.cons (.same rfl) .nil)) (.inr ⟨(.agg (eXFunctor_nb _)), trivial⟩) (.cons (Nat.le_of_ble_eq_true (n := 12) (m := 12) rfl) .nil)) (by kernel_rfl) (by kernel_rfl) ?_
      refine tr_sr hT hm [] [2, 10, 28, 30, 44, 46, 2003, 2011, 42003, 42005, 42007, 42009, 42013, 42015, 42017, 42019, 42021, 42023] ([(2, .d (.rp 1001 0)), (10, .d (.rp 1005 0)), (28, .d (iv a0.On.Objects)), (30, .d (iv s3)), (44, .d (iv a0.On.Objects)), (46, .d (iv 0)), bxB 2003 (eXMonoidal.b a0), bxO 2011 21000 (eXFunctor.o v8)] ++ rsS 21000 (eXFunctor.o v8)) .nil (by kernel_rfl) (by kernel_rfl) ?_
      refine tr_block ?_
      refine tr_iterS (fun (s9 : Int) => ([(2, .d (.rp 1001 0)), (10, .d (.rp 1005 0)), (28, .d (iv a0.On.Objects)), (30, .d (iv s3)), (44, .d (iv a0.On.Objects)), (46, .d (iv s9)), bxB 2003 (eXMonoidal.b a0), bxO 2011 21000 (eXFunctor.o v8)] ++ rsS 21000 (eXFunctor.o v8))) 0 [2, 10, 28, 30, 44, 46, 2003, 2011, 42003, 42005, 42007, 42009, 42013, 42015, 42017, 42019, 42021, 42023] (by kernel_rfl) hM ?_
      intro n12 next10 ih11 s9 hM
      refine tr_sr hT hm [] [2, 10, 28, 30, 44, 46, 48, 2003, 2011, 42003, 42005, 42007, 42009, 42013, 42015, 42017, 42019, 42021, 42023] ([(2, .d (.rp 1001 0)), (10, .d (.rp 1005 0)), (28, .d (iv a0.On.Objects)), (30, .d (iv s3)), (44, .d (iv a0.On.Objects)), (46, .d (iv s9)), (48, .d (bv (decide (s9 < a0.On.Objects)))), bxB 2003 (eXMonoidal.b a0), bxO 2011 21000 (eXFunctor.o v8)] ++ rsS 21000 (eXFunctor.o v8)) .nil (by kernel_rfl) (by kernel_rfl) ?_
      refine tr_seq ?_
      rcases Bool.eq_false_or_eq_true (decide (s9 < a0.On.Objects)) with h13 | h13
      · have hM := ite_true' hM h13
        refine tr_condTe (e := decide (s9 < a0.On.Objects)) h13 (by kernel_rfl) ?_
        refine tr_skip (q_n ?_)
        refine tr_seq ?_
        refine tr_block ?_
        refine tr_sr hT hm [] [2, 10, 12, 28, 30, 44, 46, 2003, 2011, 42003, 42005, 42007, 42009, 42013, 42015, 42017, 42019, 42021, 42023] ([(2, .d (.rp 1001 0)), (10, .d (.rp 1005 0)), (12, .d (iv s9)), (28, .d (iv a0.On.Objects)), (30, .d (iv s3)), (44, .d (iv a0.On.Objects)), (46, .d (iv s9)), bxB 2003 (eXMonoidal.b a0), bxO 2011 21000 (eXFunctor.o v8)] ++ rsS 21000 (eXFunctor.o v8)) .nil (by kernel_rfl) (by kernel_rfl) ?_
        obtain ⟨v14, hv14, hM⟩ := bind_some' hM
        refine tr_sr hT hm [(1, .call ([1005] ++ rsR 21000 (eXFunctor.o v8)) [] [.pt (eXFunctor.b v8) 0, iv s9] [] (.tup [iv v14.1, iv v14.2.1, bv v14.2.2]))] [2, 10, 18, 28, 30, 44, 46, 2003, 2011, 42003, 42005, 42007, 42009, 42013, 42015, 42017, 42019, 42021, 42023] ([(2, .d (.rp 1001 0)), (10, .d (.rp 1005 0)), (18, .d (bv v14.2.2)), (28, .d (iv a0.On.Objects)), (30, .d (iv s3)), (44, .d (iv a0.On.Objects)), (46, .d (iv s9)), bxB 2003 (eXMonoidal.b a0), bxO 2011 21000 (eXFunctor.o v8)] ++ rsS 21000 (eXFunctor.o v8)) (cc (B := ([1005] ++ rsR 21000 (eXFunctor.o v8))) (ρ := []) (rB := ([(1005, .arr 1 [iv v8.Source.Objects, .rs 21001 0 v8.Source.From.length, .rs 21002 0 v8.Source.To.length, .rs 21003 0 v8.Source.Identity.length, .rs 21004 0 v8.Source.Composites.length, iv v8.Target.Objects, .rs 21006 0 v8.Target.From.length, .rs 21007 0 v8.Target.To.length, .rs 21008 0 v8.Target.Identity.length, .rs 21009 0 v8.Target.Composites.length, .rs 21010 0 v8.Objects.length, .rs 21011 0 v8.Arrows.length] [21001, 21002, 21003, 21004, 21006, 21007, 21008, 21009, 21010, 21011])] ++ rsP 21000 (eXFunctor.o v8))) ok73 (impl_Functor_universalArrow_c v8 s9 _ hv14) (.cons (.of1 (.rp (r := 1005) (sz := 1) (cells := [iv v8.Source.Objects, .rs 21001 0 v8.Source.From.length, .rs 21002 0 v8.Source.To.length, .rs 21003 0 v8.Source.Identity.length, .rs 21004 0 v8.Source.Composites.length, iv v8.Target.Objects, .rs 21006 0 v8.Target.From.length, .rs 21007 0 v8.Target.To.length, .rs 21008 0 v8.Target.Identity.length, .rs 21009 0 v8.Target.Composites.length, .rs 21010 0 v8.Objects.length, .rs 21011 0 v8.Arrows.length]) (refs := [21001, 21002, 21003, 21004, 21006, 21007, 21008, 21009, 21010, 21011]) (memB (by kernel_rfl)) (by kernel_rfl) (.cons .v (.cons (.rs (r := 21001) (sz := 1) (refs := []) (memB (by kernel_rfl)) (by kernel_rfl) (bor_flat eI_ok _ _ _)) (.cons (.rs (r := 21002) (sz := 1) (refs := []) (memB (by kernel_rfl)) (by kernel_rfl) (bor_flat eI_ok _ _ _)) (.cons (.rs (r := 21003) (sz := 1) (refs := []) (memB (by kernel_rfl)) (by kernel_rfl) (bor_flat eI_ok _ _ _)) (.cons (.rs (r := 21004) (sz := 1) (refs := []) (memB (by kernel_rfl)) (by kernel_rfl) (bor_flat (eS_ok eI_ok) _ _ _)) (.cons .v (.cons (.rs (r := 21006) (sz := 1) (refs := []) (memB (by kernel_rfl)) (by kernel_rfl) (bor_flat eI_ok _ _ _)) (.cons (.rs (r := 21007) (sz := 1) (refs := []) (memB (by kernel_rfl)) (by kernel_rfl) (bor_flat eI_ok _ _ _)) (.cons (.rs (r := 21008) (sz := 1) (refs := []) (memB (by kernel_rfl)) (by kernel_rfl) (bor_flat eI_ok _ _ _)) (.cons (.rs (r := 21009) (sz := 1) (refs := []) (memB (by kernel_rfl)) (by kernel_rfl) (bor_flat (eS_ok eI_ok) _ _ _)) (.cons (.rs (r := 21010) (sz := 1) (refs := []) (memB (by kernel_rfl)) (by kernel_rfl) (bor_flat eI_ok _ _ _)) (.cons (.rs (r := 21011) (sz := 1) (refs := []) (memB (by kernel_rfl)) (by kernel_rfl) (bor_flat eI_ok _ _ _)) .nil)))))))))))))) (.cons (.same rfl) .nil)) (.inr ⟨(nobor_tup (.cons .v (.cons .v (.cons .v .nil)))), trivial⟩) .nil) (by kernel_rfl) (by kernel_rfl) ?_
        refine tr_sr hT hm [] [2, 10, 28, 30, 44, 46, 66, 2003, 2011, 42003, 42005, 42007, 42009, 42013, 42015, 42017, 42019, 42021, 42023] ([(2, .d (.rp 1001 0)), (10, .d (.rp 1005 0)), (28, .d (iv a0.On.Objects)), (30, .d (iv s3)), (44, .d (iv a0.On.Objects)), (46, .d (iv s9)), (66, .d (bv (!v14.2.2))), bxB 2003 (eXMonoidal.b a0), bxO 2011 21000 (eXFunctor.o v8)] ++ rsS 21000 (eXFunctor.o v8)) .nil (by kernel_rfl) (by kernel_rfl) ?_
        rcases Bool.eq_false_or_eq_true v14.2.2 with h15 | h15
        · have hM := ite_true' hM h15
          refine tr_condFe (e := !v14.2.2) (congrArg not h15) (by kernel_rfl) ?_
          refine tr_skip (b_n (q_n ?_))
          refine tr_r hT hm [] [2, 10, 28, 30, 44, 46, 2003, 2011, 42003, 42005, 42007, 42009, 42013, 42015, 42017, 42019, 42021, 42023] ([(2, .d (.rp 1001 0)), (10, .d (.rp 1005 0)), (28, .d (iv a0.On.Objects)), (30, .d (iv s3)), (44, .d (iv a0.On.Objects)), (46, .d (iv (IntKind.i64.wrap (s9 + 1)))), bxB 2003 (eXMonoidal.b a0), bxO 2011 21000 (eXFunctor.o v8)] ++ rsS 21000 (eXFunctor.o v8)) .nil (by kernel_rfl) (by kernel_rfl) (l_n ?_)
          exact trl_start (ks := [2, 10, 28, 30, 44, 46, 2003, 2011, 42003, 42005, 42007, 42009, 42013, 42015, 42017, 42019, 42021, 42023]) (by kernel_rfl) (ih11 (IntKind.i64.wrap (s9 + 1)) hM)
        · have hM := ite_false' hM h15
          refine tr_condTe (e := !v14.2.2) (congrArg not h15) (by kernel_rfl) ?_
          refine tr_sr hT hm [] [4, 6] [(4, .d (bv false)), (6, .d (iv 0))] .nil (by kernel_rfl) (by kernel_rfl) ?_
          refine tr_ret (b_r (q_r (l_r (b_r (b_r (q_r (l_r (b_r (q_r (rg_r ?_))))))))))
          obtain rfl := Option.some.inj hM
          exact retg (names := []) .nil (by kernel_rfl)
      · have hM := ite_false' hM h13
        refine tr_condFe (e := decide (s9 < a0.On.Objects)) h13 (by kernel_rfl) ?_
        refine tr_exit (q_x (l_x (b_h (b_n (q_n ?_)))))
        refine tr_r hT hm [] [2, 28, 30, 2003] [(2, .d (.rp 1001 0)), (28, .d (iv a0.On.Objects)), (30, .d (iv (IntKind.i64.wrap (s3 + 1)))), bxB 2003 (eXMonoidal.b a0)] .nil (by kernel_rfl) (by kernel_rfl) (l_n ?_)
        exact trl_start (ks := [2, 28, 30, 2003]) (by kernel_rfl) (ih5 (IntKind.i64.wrap (s3 + 1)) hM)
    · have hM := ite_false' hM h7
      refine tr_condFe (e := decide (s3 < a0.On.Objects)) h7 (by kernel_rfl) ?_
      refine tr_exit (q_x (l_x (b_h (q_n ?_))))
      refine tr_sr hT hm [] [4, 6] [(4, .d (bv true)), (6, .d (iv 0))] .nil (by kernel_rfl) (by kernel_rfl) ?_
      refine tr_ret (rg_r ?_)
      obtain rfl := Option.some.inj hM
      exact retg (names := []) .nil (by kernel_rfl)
  · have hM := ite_false' hM h2
    refine tr_condTe (e := !v1) (congrArg not h2) (by kernel_rfl) ?_
    refine tr_sr hT hm [] [4, 6] [(4, .d (bv false)), (6, .d (iv 1))] .nil (by kernel_rfl) (by kernel_rfl) ?_
    refine tr_ret (q_r (rg_r ?_))
    obtain rfl := Option.some.inj hM
    exact retg (names := []) .nil (by kernel_rfl)

theorem laws_FnExactIsClosed_c (a0 : XMonoidal) (r : Bool) (hM : M.laws_FnExactIsClosed a0 = some r) :
    FnC Try.prog 3 [] [.agg (eXMonoidal.b a0)] [] (bv r) := by
  refine fnc_startG (N := 40) (np := 500) hT Try.func3 rfl rfl (by kernel_rfl) ?_
  unfold M.laws_FnExactIsClosed at hM
  refine tr_start (ks := [0]) (st' := [(0, .d (.agg (eXMonoidal.b a0)))]) (by kernel_rfl) ?_
  refine tr_sr hT hm [] [2, 2003] [(2, .d (.rp 1001 0)), bxB 2003 (eXMonoidal.b a0)] .nil (by kernel_rfl) (by kernel_rfl) ?_
  refine tr_sr hT hm [] [2, 6, 2003] [(2, .d (.rp 1001 0)), (6, .d (iv 1048576)), bxB 2003 (eXMonoidal.b a0)] .nil (by kernel_rfl) (by kernel_rfl) ?_
  obtain ⟨v1, hv1, hM⟩ := bind_some' hM
  refine tr_sr hT hm [(2, .call [] [] [.agg (eXMonoidal.b a0), iv 1048576] [] (iv v1))] [2, 6, 2003] [(2, .d (.rp 1001 0)), (6, .d (iv v1)), bxB 2003 (eXMonoidal.b a0)] (cc0 ok15 (laws_szMonoidal_c a0 1048576 _ hv1) (by kernel_rfl) .nil) (by kernel_rfl) (by kernel_rfl) ?_
  refine tr_seq ?_
  refine tr_sr hT hm [] [2, 26, 2003] [(2, .d (.rp 1001 0)), (26, .d (bv (decide (v1 < 0)))), bxB 2003 (eXMonoidal.b a0)] .nil (by kernel_rfl) (by kernel_rfl) ?_
  rcases Bool.eq_false_or_eq_true (decide (v1 < 0)) with h2 | h2
  · have hM := ite_true' hM h2
    refine tr_condTe (e := decide (v1 < 0)) h2 (by kernel_rfl) ?_
    refine tr_sr hT hm [] [4] [(4, .d (bv true))] .nil (by kernel_rfl) (by kernel_rfl) ?_
    refine tr_ret (q_r (rg_r ?_))
    obtain rfl := Option.some.inj hM
    exact retg (names := []) .nil (by kernel_rfl)
  · have hM := ite_false' hM h2
    refine tr_condFe (e := decide (v1 < 0)) h2 (by kernel_rfl) ?_
    refine tr_skip (q_n ?_)
    obtain ⟨v3, hv3, hM⟩ := bind_some' hM
    obtain ⟨v4, hv4, hM⟩ := bind_some' hM
    refine tr_sr hT hm [(1, .call [] [] [.agg (eXMonoidal.b a0)] [] (.agg (eXMonoidal.o v3))), (2, .call (rsR 18000 (eXMonoidal.o v3)) [] [.agg (eXMonoidal.b v3)] [] (.tup [bv v4.1, iv v4.2]))] [2, 8, 10, 2003] [(2, .d (.rp 1001 0)), (8, .d (bv v4.1)), (10, .d (iv v4.2)), bxB 2003 (eXMonoidal.b a0)] (cc0 ok17 (laws_toMonoidal_c a0 _ hv3) (by kernel_rfl) (cc (B := (rsR 18000 (eXMonoidal.o v3))) (ρ := []) (rB := (rsP 18000 (eXMonoidal.o v3))) ok16 (spec_IsClosed_c v3 _ hv4) (.cons (bor_rs eXMonoidal_r (q := 18000) (x := v3) (by kernel_rfl) (by kernel_rfl)) .nil) (.inr ⟨(nobor_tup (.cons .v (.cons .v .nil))), trivial⟩) .nil)) (by kernel_rfl) (by kernel_rfl) ?_
    refine tr_sr hT hm [(1, .call [] [] [.agg (eXMonoidal.b a0)] [] (.agg (eXMonoidal.o v3)))] [2, 8, 10, 12, 2003, 2013, 46003, 46005, 46007, 46009, 46013, 46015] ([(2, .d (.rp 1001 0)), (8, .d (bv v4.1)), (10, .d (iv v4.2)), (12, .d (.rp 1006 0)), bxB 2003 (eXMonoidal.b a0), bxO 2013 23000 (eXMonoidal.o v3)] ++ rsS 23000 (eXMonoidal.o v3)) (cc0 ok17 (laws_toMonoidal_c a0 _ hv3) (by kernel_rfl) (.cons (Nat.le_of_ble_eq_true (n := 8) (m := 8) rfl) .nil)) (by kernel_rfl) (by kernel_rfl) ?_
    obtain ⟨v5, hv5, hM⟩ := bind_some' hM
    refine tr_sr hT hm [(1, .call (rsR 23000 (eXMonoidal.o v3)) [] [.agg (eXMonoidal.b v3)] [] (.tup [bv v5.1, iv v5.2]))] [2, 8, 10, 12, 14, 16, 2003, 2013, 46003, 46005, 46007, 46009, 46013, 46015] ([(2, .d (.rp 1001 0)), (8, .d (bv v4.1)), (10, .d (iv v4.2)), (12, .d (.rp 1006 0)), (14, .d (bv v5.1)), (16, .d (iv v5.2)), bxB 2003 (eXMonoidal.b a0), bxO 2013 23000 (eXMonoidal.o v3)] ++ rsS 23000 (eXMonoidal.o v3)) (cc (B := (rsR 23000 (eXMonoidal.o v3))) (ρ := []) (rB := (rsP 23000 (eXMonoidal.o v3))) ok18 (impl_IsClosed_c v3 _ hv5) (.cons (bor_rs eXMonoidal_r (q := 23000) (x := v3) (by kernel_rfl) (by kernel_rfl)) .nil) (.inr ⟨(nobor_tup (.cons .v (.cons .v .nil))), trivial⟩) .nil) (by kernel_rfl) (by kernel_rfl) ?_
    refine tr_seq ?_
    rcases Bool.eq_false_or_eq_true ((v5.1 == v4.1) == false) with h6 | h6
    · have hM := ite_true' hM h6
      refine tr_sr hT hm [(3, .val (bv true))] [2, 12, 68, 2003, 2013, 46003, 46005, 46007, 46009, 46013, 46015] ([(2, .d (.rp 1001 0)), (12, .d (.rp 1006 0)), (68, .d (bv true)), bxB 2003 (eXMonoidal.b a0), bxO 2013 23000 (eXMonoidal.o v3)] ++ rsS 23000 (eXMonoidal.o v3)) (.cons (congrArg (fun b => bv b) h6) .nil) (by kernel_rfl) (by kernel_rfl) ?_
      refine tr_condT (by kernel_rfl) ?_
      refine tr_sr hT hm [] [4] [(4, .d (bv false))] .nil (by kernel_rfl) (by kernel_rfl) ?_
      refine tr_ret (q_r (rg_r ?_))
      obtain rfl := Option.some.inj hM
      exact retg (names := []) .nil (by kernel_rfl)
    · have hM := ite_false' hM h6
      refine tr_sr hT hm [(3, .val (bv false))] [2, 12, 68, 2003, 2013, 46003, 46005, 46007, 46009, 46013, 46015] ([(2, .d (.rp 1001 0)), (12, .d (.rp 1006 0)), (68, .d (bv (v5.2 != v4.2))), bxB 2003 (eXMonoidal.b a0), bxO 2013 23000 (eXMonoidal.o v3)] ++ rsS 23000 (eXMonoidal.o v3)) (.cons (congrArg (fun b => bv b) h6) .nil) (by kernel_rfl) (by kernel_rfl) ?_
      rcases Bool.eq_false_or_eq_true (v5.2 != v4.2) with h7 | h7
      · have hM := ite_true' hM h7
        refine tr_condTe (e := v5.2 != v4.2) h7 (by kernel_rfl) ?_
        refine tr_sr hT hm [] [4] [(4, .d (bv false))] .nil (by kernel_rfl) (by kernel_rfl) ?_
        refine tr_ret (q_r (rg_r ?_))
        obtain rfl := Option.some.inj hM
        exact retg (names := []) .nil (by kernel_rfl)
      · have hM := ite_false' hM h7
        refine tr_condFe (e := v5.2 != v4.2) h7 (by kernel_rfl) ?_
        refine tr_skip (q_n ?_)
        refine tr_seq ?_
        obtain ⟨v8, hv8, hM⟩ := bind_some' hM
        refine tr_sr hT hm [(2, .call [] [] [.agg (eXMonoidal.b a0)] [] (.agg (eXMonoidal.o v3))), (3, .call (rsR 23000 (eXMonoidal.o v3) ++ rsR 39000 (eXMonoidal.o v3)) [] [.agg (eXMonoidal.b v3), .agg (eXMonoidal.b v3)] [] (bv v8))] [78] [(78, .d (bv (!v8)))] (cc0 ok17 (laws_toMonoidal_c a0 _ hv3) (by kernel_rfl) (cc (B := (rsR 23000 (eXMonoidal.o v3) ++ rsR 39000 (eXMonoidal.o v3))) (ρ := []) (rB := (rsP 23000 (eXMonoidal.o v3) ++ rsP 39000 (eXMonoidal.o v3))) ok19 (laws_eqMonoidal_c v3 v3 _ hv8) (.cons (bor_rs eXMonoidal_r (q := 23000) (x := v3) (by kernel_rfl) (by kernel_rfl)) (.cons (bor_rs eXMonoidal_r (q := 39000) (x := v3) (by kernel_rfl) (by kernel_rfl)) .nil)) (.inr ⟨.v, trivial⟩) .nil)) (by kernel_rfl) (by kernel_rfl) ?_
        rcases Bool.eq_false_or_eq_true v8 with h9 | h9
        · have hM := ite_true' hM h9
          refine tr_condFe (e := !v8) (congrArg not h9) (by kernel_rfl) ?_
          refine tr_skip (q_n ?_)
          refine tr_sr hT hm [] [4] [(4, .d (bv true))] .nil (by kernel_rfl) (by kernel_rfl) ?_
          refine tr_ret (rg_r ?_)
          obtain rfl := Option.some.inj hM
          exact retg (names := []) .nil (by kernel_rfl)
        · have hM := ite_false' hM h9
          refine tr_condTe (e := !v8) (congrArg not h9) (by kernel_rfl) ?_
          refine tr_sr hT hm [] [4] [(4, .d (bv false))] .nil (by kernel_rfl) (by kernel_rfl) ?_
          refine tr_ret (q_r (rg_r ?_))
          obtain rfl := Option.some.inj hM
          exact retg (names := []) .nil (by kernel_rfl)

end Go.Proofs.Ytjmjhhhglbeacaa.Wy16
