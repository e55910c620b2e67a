/- Walks. Printed by wip/gen. -/
import Derived.Test.YtknmijgiefkijaaDoorGxEM0
import Derived.Test.YtknmijgiefkijaaDoorGxEO0
import Derived.Test.YtknmijgiefkijaaDoorGxdJ
import Derived.Test.YtknmijgiefkijaaDoorGxdAW1
import Derived.KernelRfl
namespace Go.Proofs.YtknmijgiefkijaaDoor.WdS
open Go.Gx Go.Proofs.YtknmijgiefkijaaDoor.WdA

theorem eXSchema_r : EncR eXSchema := (eA_r (eC_r eI_r _) (eA_r (eC_r (eS_r eI_ok) _) (eA_r (eC_r (eS_r eI_ok) _) (eA_r (eC_r (eS_r eXPath_ok) _) (eC_r (eS_r eXPath_ok) _)))))
def T : Tab := [(2, ⟨.int .i64, 1, 8, [.int .i64 0]⟩),
  (3, ⟨.int .i64, 1, 8, [.int .i64 0]⟩),
  (5, ⟨.int .u8, 1, 1, [.int .u8 0]⟩),
  (9, ⟨.string, 1, 16, [.string ⟨#[]⟩]⟩),
  (22, ⟨.slice 2, 1, 24, [.slice .none 0 0]⟩),
  (23, ⟨.slice 48, 1, 24, [.slice .none 0 0]⟩),
  (25, ⟨.struct #[⟨"Nodes", 2, 0, false, "", "", 0⟩, ⟨"From", 22, 1, false, "", "", 8⟩, ⟨"To", 22, 2, false, "", "", 32⟩, ⟨"Left", 23, 3, false, "", "", 56⟩, ⟨"Right", 23, 4, false, "", "", 80⟩], 5, 104, [.int .i64 0, .slice .none 0 0, .slice .none 0 0, .slice .none 0 0, .slice .none 0 0]⟩),
  (29, ⟨.slice 51, 1, 24, [.slice .none 0 0]⟩),
  (31, ⟨.struct #[⟨"Nodes", 2, 0, false, "", "", 0⟩, ⟨"From", 22, 1, false, "", "", 8⟩, ⟨"To", 22, 2, false, "", "", 32⟩, ⟨"Left", 29, 3, false, "", "", 56⟩, ⟨"Right", 29, 4, false, "", "", 80⟩], 5, 104, [.int .i64 0, .slice .none 0 0, .slice .none 0 0, .slice .none 0 0, .slice .none 0 0]⟩),
  (48, ⟨.struct #[⟨"Start", 2, 0, false, "", "", 0⟩, ⟨"Edges", 22, 1, false, "", "", 8⟩], 2, 32, [.int .i64 0, .slice .none 0 0]⟩),
  (51, ⟨.struct #[⟨"Start", 2, 0, false, "", "", 0⟩, ⟨"Edges", 22, 1, false, "", "", 8⟩], 2, 32, [.int .i64 0, .slice .none 0 0]⟩),
  (62, ⟨.slice 5, 1, 24, [.slice .none 0 0]⟩),
  (64, ⟨.slice 9, 1, 24, [.slice .none 0 0]⟩),
  (77, ⟨.array 24 5, 24, 24, [.int .u8 0, .int .u8 0, .int .u8 0, .int .u8 0, .int .u8 0, .int .u8 0, .int .u8 0, .int .u8 0, .int .u8 0, .int .u8 0, .int .u8 0, .int .u8 0, .int .u8 0, .int .u8 0, .int .u8 0, .int .u8 0, .int .u8 0, .int .u8 0, .int .u8 0, .int .u8 0, .int .u8 0, .int .u8 0, .int .u8 0, .int .u8 0]⟩),
  (78, ⟨.int .u64, 1, 8, [.int .u64 0]⟩)]
theorem hT : TabOk Tryd.prog T := ⟨tiok (by kernel_rfl) (by kernel_rfl), tiok (by kernel_rfl) (by kernel_rfl), tiok (by kernel_rfl) (by kernel_rfl), tiok (by kernel_rfl) (by kernel_rfl), tiok (by kernel_rfl) (by kernel_rfl), tiok (by kernel_rfl) (by kernel_rfl), tiok (by kernel_rfl) (by kernel_rfl), tiok (by kernel_rfl) (by kernel_rfl), tiok (by kernel_rfl) (by kernel_rfl), tiok (by kernel_rfl) (by kernel_rfl), tiok (by kernel_rfl) (by kernel_rfl), tiok (by kernel_rfl) (by kernel_rfl), tiok (by kernel_rfl) (by kernel_rfl), tiok (by kernel_rfl) (by kernel_rfl), tiok (by kernel_rfl) (by kernel_rfl), trivial⟩
theorem hm : Tryd.prog.follows .mixedOrders = true := by kernel_rfl

theorem ok24 : CallOk Tryd.prog 24 := callOk_of Tryd.func24 (by kernel_rfl) (by kernel_rfl)
theorem spec_l01Dec_n_c (k : Nat) : ∀ (a0 : Int) (r : ByteArray) (_ : M.spec_l01Dec_n k a0 = some r), FnC Tryd.prog 24 [] [iv a0] [] (.v (.string r)) := by
  induction k with
  | zero => intro a0 r hM; exact absurd hM (by simp [M.spec_l01Dec_n])
  | succ k ih =>
    intro a0 r hM
    refine fnc_startG (N := 20) (np := 500) hT Tryd.func24 rfl rfl (by kernel_rfl) ?_
    unfold M.spec_l01Dec_n at hM
    refine tr_start (ks := [0]) (st' := [(0, .d (iv a0))]) (by kernel_rfl) ?_
    refine tr_sr hT hm [] [0] [(0, .d (iv a0))] .nil (by kernel_rfl) (by kernel_rfl) ?_
    refine tr_seq ?_
    refine tr_sr hT hm [] [0, 8] [(0, .d (iv a0)), (8, .d (bv (decide (a0 < 10))))] .nil (by kernel_rfl) (by kernel_rfl) ?_
    rcases Bool.eq_false_or_eq_true (decide (a0 < 10)) with h1 | h1
    · have hM := ite_true' hM h1
      refine tr_condTe (e := decide (a0 < 10)) h1 (by kernel_rfl) ?_
      refine tr_sr hT hm [(4, .val (.v (.string (strI ([IntKind.u8.wrap (IntKind.i64.wrap (48 + a0))] : List Int)))))] [4] [(4, .d (.v (.string (strI ([IntKind.u8.wrap (IntKind.i64.wrap (48 + a0))] : List Int)))))] (.cons (strOf_c ([IntKind.u8.wrap (IntKind.i64.wrap (48 + a0))] : List Int)) .nil) (by kernel_rfl) (by kernel_rfl) ?_
      refine tr_ret (q_r (rg_r ?_))
      obtain rfl := Option.some.inj hM
      exact retg (names := []) .nil (by kernel_rfl)
    · have hM := ite_false' hM h1
      refine tr_condFe (e := decide (a0 < 10)) h1 (by kernel_rfl) ?_
      refine tr_skip (q_n ?_)
      obtain ⟨v2, hv2, hM⟩ := bind_some' hM
      obtain ⟨h3, hM⟩ := chk_some hM
      refine tr_sr hT hm [(2, .call [] [] [iv (IntKind.i64.wrap (a0.tdiv 10))] [] (.v (.string v2))), (8, .val (.v (.string (strI ([IntKind.u8.wrap (IntKind.i64.wrap (48 + (a0.tmod 10)))] : List Int)))))] [4] [(4, .d (.v (.string (v2 ++ (strI ([IntKind.u8.wrap (IntKind.i64.wrap (48 + (a0.tmod 10)))] : List Int))))))] (.cons (by decide : (10 : Int) ≠ 0) (cc0 ok24 (ih (IntKind.i64.wrap (a0.tdiv 10)) _ hv2) (by kernel_rfl) (.cons (by decide : (10 : Int) ≠ 0) (.cons (strOf_c ([IntKind.u8.wrap (IntKind.i64.wrap (48 + (a0.tmod 10)))] : List Int)) (.cons h3 .nil))))) (by kernel_rfl) (by kernel_rfl) ?_
      refine tr_ret (rg_r ?_)
      obtain rfl := Option.some.inj hM
      exact retg (names := []) .nil (by kernel_rfl)
theorem spec_l01Dec_c (a0 : Int) (r : ByteArray) (hM : M.spec_l01Dec a0 = some r) :
    FnC Tryd.prog 24 [] [iv a0] [] (.v (.string r)) := spec_l01Dec_n_c fuel a0 r hM

theorem ok25 : CallOk Tryd.prog 25 := callOk_of Tryd.func25 (by kernel_rfl) (by kernel_rfl)
theorem spec_l36Text_c (a0 : XPath) (r : ByteArray) (hM : M.spec_l36Text a0 = some r) :
    FnC Tryd.prog 25 [] [.agg (eXPath.b a0)] [] (.v (.string r)) := by
  refine fnc_startG (N := 31) (np := 500) hT Tryd.func25 rfl rfl (by kernel_rfl) ?_
  unfold M.spec_l36Text at hM
  refine tr_start (ks := [0]) (st' := [(0, .d (.agg (eXPath.b a0)))]) (by kernel_rfl) ?_
  refine tr_sr hT hm [] [2, 2003] [(2, .d (.rp 1001 0)), bxB 2003 (eXPath.b a0)] .nil (by kernel_rfl) (by kernel_rfl) ?_
  obtain ⟨v1, hv1, hM⟩ := bind_some' hM
  obtain ⟨h2, hM⟩ := chk_some hM
  refine tr_sr hT hm [(2, .call [] [] [iv a0.Start] [] (.v (.string v1)))] [2, 6, 2003] [(2, .d (.rp 1001 0)), (6, .d (.v (.string ((bstr [64]) ++ v1)))), bxB 2003 (eXPath.b a0)] (cc0 ok24 (spec_l01Dec_c a0.Start _ hv1) (by kernel_rfl) (.cons h2 .nil)) (by kernel_rfl) (by kernel_rfl) ?_
  refine tr_seq ?_
  refine tr_sr hT hm [] [2, 6, 8, 2003] [(2, .d (.rp 1001 0)), (6, .d (.v (.string ((bstr [64]) ++ v1)))), (8, .d (iv 0)), bxB 2003 (eXPath.b a0)] .nil (by kernel_rfl) (by kernel_rfl) ?_
  refine tr_block ?_
  refine tr_iterS (fun (s3 : ByteArray × Int) => [(2, .d (.rp 1001 0)), (6, .d (.v (.string s3.1))), (8, .d (iv s3.2)), bxB 2003 (eXPath.b a0)]) ((bstr [64]) ++ v1, 0) [2, 6, 8, 2003] (by kernel_rfl) hM ?_
  intro n6 next4 ih5 s3 hM
  refine tr_seq ?_
  refine tr_sr hT hm [] [2, 6, 8, 18, 26, 2003] [(2, .d (.rp 1001 0)), (6, .d (.v (.string s3.1))), (8, .d (iv s3.2)), (18, .d (iv s3.2)), (26, .d (bv (decide (s3.2 < (a0.Edges.length : Int))))), bxB 2003 (eXPath.b a0)] .nil (by kernel_rfl) (by kernel_rfl) ?_
  rcases Bool.eq_false_or_eq_true (decide (s3.2 < (a0.Edges.length : Int))) with h7 | h7
  · have hM := ite_true' hM h7
    refine tr_condTe (e := decide (s3.2 < (a0.Edges.length : Int))) h7 (by kernel_rfl) ?_
    refine tr_skip (q_n ?_)
    refine tr_seq ?_
    refine tr_block ?_
    obtain ⟨y8, hy8, hM⟩ := bind_some' hM
    have hy8' := idx_some hy8
    obtain ⟨h9, hM⟩ := chk_some hM
    obtain ⟨h10, hM⟩ := chk_some hM
    refine tr_r hT hm [(5, .val (iv y8)), (10, .val (iv y8))] [2, 6, 8, 2003] [(2, .d (.rp 1001 0)), (6, .d (.v (.string (s3.1 ++ ((bstr [97, 98, 99, 100, 101, 102, 103, 104]).extract y8.toNat (IntKind.i64.wrap (y8 + 1)).toNat))))), (8, .d (iv s3.2)), bxB 2003 (eXPath.b a0)] (.cons hy8'.1 (.cons hy8'.2.1 (.cons (at_b0 eI_ok hy8'.2.2 (d := iv y8) (by kernel_rfl)) (.cons hy8'.1 (.cons hy8'.2.1 (.cons (at_b0 eI_ok hy8'.2.2 (d := iv y8) (by kernel_rfl)) (.cons h9.1 (.cons h9.2.1 (.cons h9.2.2 (.cons h10 .nil)))))))))) (by kernel_rfl) (by kernel_rfl) (b_n (q_n ?_))
    refine tr_r hT hm [] [2, 6, 8, 2003] [(2, .d (.rp 1001 0)), (6, .d (.v (.string (s3.1 ++ ((bstr [97, 98, 99, 100, 101, 102, 103, 104]).extract y8.toNat (IntKind.i64.wrap (y8 + 1)).toNat))))), (8, .d (iv (IntKind.i64.wrap (s3.2 + 1)))), bxB 2003 (eXPath.b a0)] .nil (by kernel_rfl) (by kernel_rfl) (l_n ?_)
    exact trl_start (ks := [2, 6, 8, 2003]) (by kernel_rfl) (ih5 (s3.1 ++ ((bstr [97, 98, 99, 100, 101, 102, 103, 104]).extract y8.toNat (IntKind.i64.wrap (y8 + 1)).toNat), IntKind.i64.wrap (s3.2 + 1)) hM)
  · have hM := ite_false' hM h7
    refine tr_condFe (e := decide (s3.2 < (a0.Edges.length : Int))) h7 (by kernel_rfl) ?_
    refine tr_exit (q_x (l_x (b_h (q_n ?_))))
    refine tr_sr hT hm [] [4] [(4, .d (.v (.string s3.1)))] .nil (by kernel_rfl) (by kernel_rfl) ?_
    refine tr_ret (rg_r ?_)
    obtain rfl := Option.some.inj hM
    exact retg (names := []) .nil (by kernel_rfl)

theorem ok12 : CallOk Tryd.prog 12 := callOk_of Tryd.func12 (by kernel_rfl) (by kernel_rfl)
theorem spec_l36Whole_c (a0 : XSchema) (r : ByteArray) (hM : M.spec_l36Whole a0 = some r) :
    FnC Tryd.prog 12 [] [.agg (eXSchema.b a0)] [] (.v (.string r)) := by
  refine fnc_startG (N := 68) (np := 500) hT Tryd.func12 rfl rfl (by kernel_rfl) ?_
  unfold M.spec_l36Whole at hM
  refine tr_start (ks := [0]) (st' := [(0, .d (.agg (eXSchema.b a0)))]) (by kernel_rfl) ?_
  refine tr_sr hT hm [] [2, 2003] [(2, .d (.rp 1001 0)), bxB 2003 (eXSchema.b a0)] .nil (by kernel_rfl) (by kernel_rfl) ?_
  refine tr_sr hT hm [] [2, 6, 8, 2003] [(2, .d (.rp 1001 0)), (6, .d (.v (.string (bstr [])))), (8, .d (.v (.string (bstr [])))), bxB 2003 (eXSchema.b a0)] .nil (by kernel_rfl) (by kernel_rfl) ?_
  refine tr_seq ?_
  refine tr_sr hT hm [] [2, 6, 8, 10, 2003] [(2, .d (.rp 1001 0)), (6, .d (.v (.string (bstr [])))), (8, .d (.v (.string (bstr [])))), (10, .d (iv 0)), bxB 2003 (eXSchema.b a0)] .nil (by kernel_rfl) (by kernel_rfl) ?_
  refine tr_block ?_
  refine tr_iterS (fun (s1 : ByteArray × Int) => [(2, .d (.rp 1001 0)), (6, .d (.v (.string s1.1))), (8, .d (.v (.string (bstr [])))), (10, .d (iv s1.2)), bxB 2003 (eXSchema.b a0)]) ((bstr []), 0) [2, 6, 8, 10, 2003] (by kernel_rfl) hM ?_
  intro n4 next2 ih3 s1 hM
  refine tr_seq ?_
  refine tr_sr hT hm [] [2, 6, 8, 10, 22, 2003] [(2, .d (.rp 1001 0)), (6, .d (.v (.string s1.1))), (8, .d (.v (.string (bstr [])))), (10, .d (iv s1.2)), (22, .d (bv (decide (s1.2 < (a0.From.length : Int))))), bxB 2003 (eXSchema.b a0)] .nil (by kernel_rfl) (by kernel_rfl) ?_
  rcases Bool.eq_false_or_eq_true (decide (s1.2 < (a0.From.length : Int))) with h5 | h5
  · have hM := ite_true' hM h5
    refine tr_condTe (e := decide (s1.2 < (a0.From.length : Int))) h5 (by kernel_rfl) ?_
    refine tr_skip (q_n ?_)
    refine tr_seq ?_
    refine tr_block ?_
    obtain ⟨h6, hM⟩ := chk_some hM
    obtain ⟨y7, hy7, hM⟩ := bind_some' hM
    have hy7' := idx_some hy7
    obtain ⟨v8, hv8, hM⟩ := bind_some' hM
    obtain ⟨h9, hM⟩ := chk_some hM
    obtain ⟨h10, hM⟩ := chk_some hM
    obtain ⟨y11, hy11, hM⟩ := bind_some' hM
    have hy11' := idx_some hy11
    obtain ⟨v12, hv12, hM⟩ := bind_some' hM
    obtain ⟨h13, hM⟩ := chk_some hM
    refine tr_r hT hm [(6, .val (iv y7)), (7, .call [] [] [iv y7] [] (.v (.string v8))), (14, .val (iv y11)), (15, .call [] [] [iv y11] [] (.v (.string v12)))] [2, 6, 8, 10, 2003] [(2, .d (.rp 1001 0)), (6, .d (.v (.string ((((s1.1 ++ (bstr [32])) ++ v8) ++ (bstr [62])) ++ v12)))), (8, .d (.v (.string (bstr [])))), (10, .d (iv s1.2)), bxB 2003 (eXSchema.b a0)] (.cons h6 (.cons hy7'.1 (.cons hy7'.2.1 (.cons (at_b0 eI_ok hy7'.2.2 (d := iv y7) (by kernel_rfl)) (cc0 ok24 (spec_l01Dec_c y7 _ hv8) (by kernel_rfl) (.cons h9 (.cons h10 (.cons hy11'.1 (.cons hy11'.2.1 (.cons (at_b0 eI_ok hy11'.2.2 (d := iv y11) (by kernel_rfl)) (cc0 ok24 (spec_l01Dec_c y11 _ hv12) (by kernel_rfl) (.cons h13 .nil)))))))))))) (by kernel_rfl) (by kernel_rfl) (b_n (q_n ?_))
    refine tr_r hT hm [] [2, 6, 8, 10, 2003] [(2, .d (.rp 1001 0)), (6, .d (.v (.string ((((s1.1 ++ (bstr [32])) ++ v8) ++ (bstr [62])) ++ v12)))), (8, .d (.v (.string (bstr [])))), (10, .d (iv (IntKind.i64.wrap (s1.2 + 1)))), bxB 2003 (eXSchema.b a0)] .nil (by kernel_rfl) (by kernel_rfl) (l_n ?_)
    exact trl_start (ks := [2, 6, 8, 10, 2003]) (by kernel_rfl) (ih3 ((((s1.1 ++ (bstr [32])) ++ v8) ++ (bstr [62])) ++ v12, IntKind.i64.wrap (s1.2 + 1)) hM)
  · have hM := ite_false' hM h5
    refine tr_condFe (e := decide (s1.2 < (a0.From.length : Int))) h5 (by kernel_rfl) ?_
    refine tr_exit (q_x (l_x (b_h (q_n ?_))))
    refine tr_seq ?_
    refine tr_sr hT hm [] [2, 6, 8, 12, 2003] [(2, .d (.rp 1001 0)), (6, .d (.v (.string s1.1))), (8, .d (.v (.string (bstr [])))), (12, .d (iv 0)), bxB 2003 (eXSchema.b a0)] .nil (by kernel_rfl) (by kernel_rfl) ?_
    refine tr_block ?_
    refine tr_iterS (fun (s14 : ByteArray × Int) => [(2, .d (.rp 1001 0)), (6, .d (.v (.string s1.1))), (8, .d (.v (.string s14.1))), (12, .d (iv s14.2)), bxB 2003 (eXSchema.b a0)]) ((bstr []), 0) [2, 6, 8, 12, 2003] (by kernel_rfl) hM ?_
    intro n17 next15 ih16 s14 hM
    refine tr_seq ?_
    refine tr_sr hT hm [] [2, 6, 8, 12, 70, 2003] [(2, .d (.rp 1001 0)), (6, .d (.v (.string s1.1))), (8, .d (.v (.string s14.1))), (12, .d (iv s14.2)), (70, .d (bv (decide (s14.2 < (a0.Left.length : Int))))), bxB 2003 (eXSchema.b a0)] .nil (by kernel_rfl) (by kernel_rfl) ?_
    rcases Bool.eq_false_or_eq_true (decide (s14.2 < (a0.Left.length : Int))) with h18 | h18
    · have hM := ite_true' hM h18
      refine tr_condTe (e := decide (s14.2 < (a0.Left.length : Int))) h18 (by kernel_rfl) ?_
      refine tr_skip (q_n ?_)
      refine tr_seq ?_
      refine tr_block ?_
      obtain ⟨h19, hM⟩ := chk_some hM
      obtain ⟨y20, hy20, hM⟩ := bind_some' hM
      have hy20' := idx_some hy20
      obtain ⟨v21, hv21, hM⟩ := bind_some' hM
      obtain ⟨h22, hM⟩ := chk_some hM
      obtain ⟨h23, hM⟩ := chk_some hM
      obtain ⟨y24, hy24, hM⟩ := bind_some' hM
      have hy24' := idx_some hy24
      obtain ⟨v25, hv25, hM⟩ := bind_some' hM
      obtain ⟨h26, hM⟩ := chk_some hM
      refine tr_r hT hm [(6, .val (.agg [iv y20.Start, .sl y20.Edges.length 0 (y20.Edges.flatMap eI.b)])), (7, .call [] [] [.agg (eXPath.b y20)] [] (.v (.string v21))), (14, .val (.agg [iv y24.Start, .sl y24.Edges.length 0 (y24.Edges.flatMap eI.b)])), (15, .call [] [] [.agg (eXPath.b y24)] [] (.v (.string v25)))] [2, 6, 8, 12, 2003] [(2, .d (.rp 1001 0)), (6, .d (.v (.string s1.1))), (8, .d (.v (.string ((((s14.1 ++ (bstr [32])) ++ v21) ++ (bstr [61])) ++ v25)))), (12, .d (iv s14.2)), bxB 2003 (eXSchema.b a0)] (.cons h19 (.cons hy20'.1 (.cons hy20'.2.1 (.cons (sub_b eXPath_ok hy20'.2.2) (cc0 ok25 (spec_l36Text_c y20 _ hv21) (by kernel_rfl) (.cons h22 (.cons h23 (.cons hy24'.1 (.cons hy24'.2.1 (.cons (sub_b eXPath_ok hy24'.2.2) (cc0 ok25 (spec_l36Text_c y24 _ hv25) (by kernel_rfl) (.cons h26 .nil)))))))))))) (by kernel_rfl) (by kernel_rfl) (b_n (q_n ?_))
      refine tr_r hT hm [] [2, 6, 8, 12, 2003] [(2, .d (.rp 1001 0)), (6, .d (.v (.string s1.1))), (8, .d (.v (.string ((((s14.1 ++ (bstr [32])) ++ v21) ++ (bstr [61])) ++ v25)))), (12, .d (iv (IntKind.i64.wrap (s14.2 + 1)))), bxB 2003 (eXSchema.b a0)] .nil (by kernel_rfl) (by kernel_rfl) (l_n ?_)
      exact trl_start (ks := [2, 6, 8, 12, 2003]) (by kernel_rfl) (ih16 ((((s14.1 ++ (bstr [32])) ++ v21) ++ (bstr [61])) ++ v25, IntKind.i64.wrap (s14.2 + 1)) hM)
    · have hM := ite_false' hM h18
      refine tr_condFe (e := decide (s14.2 < (a0.Left.length : Int))) h18 (by kernel_rfl) ?_
      refine tr_exit (q_x (l_x (b_h (q_n ?_))))
      refine tr_joinM (fun (s27 : ByteArray) => [(2, .d (.rp 1001 0)), (6, .d (.v (.string s27))), (8, .d (.v (.string s14.1))), bxB 2003 (eXSchema.b a0)]) hM ?_ ?_
      · intro s27 hM
        refine tr_seq ?_
        refine tr_sr hT hm [] [2, 6, 8, 116, 2003] [(2, .d (.rp 1001 0)), (6, .d (.v (.string s27))), (8, .d (.v (.string s14.1))), (116, .d (bv (s14.1.toList == (bstr []).toList))), bxB 2003 (eXSchema.b a0)] .nil (by kernel_rfl) (by kernel_rfl) ?_
        rcases Bool.eq_false_or_eq_true (s14.1.toList == (bstr []).toList) with h30 | h30
        · have hM := ite_true' hM h30
          refine tr_condTe (e := s14.1.toList == (bstr []).toList) h30 (by kernel_rfl) ?_
          refine tr_r hT hm [] [2, 6, 8, 2003] [(2, .d (.rp 1001 0)), (6, .d (.v (.string s27))), (8, .d (.v (.string (bstr [32, 45])))), bxB 2003 (eXSchema.b a0)] .nil (by kernel_rfl) (by kernel_rfl) (q_n ?_)
          obtain ⟨v31, hv31, hM⟩ := bind_some' hM
          obtain ⟨h32, hM⟩ := chk_some hM
          obtain ⟨h33, hM⟩ := chk_some hM
          obtain ⟨h34, hM⟩ := chk_some hM
          obtain ⟨h35, hM⟩ := chk_some hM
          refine tr_sr hT hm [(2, .call [] [] [iv a0.Nodes] [] (.v (.string v31)))] [4] [(4, .d (.v (.string ((((v31 ++ (bstr [32, 124])) ++ s27) ++ (bstr [32, 124])) ++ (bstr [32, 45])))))] (cc0 ok24 (spec_l01Dec_c a0.Nodes _ hv31) (by kernel_rfl) (.cons h32 (.cons h33 (.cons h34 (.cons h35 .nil))))) (by kernel_rfl) (by kernel_rfl) ?_
          refine tr_ret (rg_r ?_)
          obtain rfl := Option.some.inj hM
          exact retg (names := []) .nil (by kernel_rfl)
        · have hM := ite_false' hM h30
          refine tr_condFe (e := s14.1.toList == (bstr []).toList) h30 (by kernel_rfl) ?_
          refine tr_skip (q_n ?_)
          obtain ⟨v36, hv36, hM⟩ := bind_some' hM
          obtain ⟨h37, hM⟩ := chk_some hM
          obtain ⟨h38, hM⟩ := chk_some hM
          obtain ⟨h39, hM⟩ := chk_some hM
          obtain ⟨h40, hM⟩ := chk_some hM
          refine tr_sr hT hm [(2, .call [] [] [iv a0.Nodes] [] (.v (.string v36)))] [4] [(4, .d (.v (.string ((((v36 ++ (bstr [32, 124])) ++ s27) ++ (bstr [32, 124])) ++ s14.1))))] (cc0 ok24 (spec_l01Dec_c a0.Nodes _ hv36) (by kernel_rfl) (.cons h37 (.cons h38 (.cons h39 (.cons h40 .nil))))) (by kernel_rfl) (by kernel_rfl) ?_
          refine tr_ret (rg_r ?_)
          obtain rfl := Option.some.inj hM
          exact retg (names := []) .nil (by kernel_rfl)
      · intro k28 K29 hM
        refine tr_sr hT hm [] [2, 6, 8, 112, 2003] [(2, .d (.rp 1001 0)), (6, .d (.v (.string s1.1))), (8, .d (.v (.string s14.1))), (112, .d (bv (s1.1.toList == (bstr []).toList))), bxB 2003 (eXSchema.b a0)] .nil (by kernel_rfl) (by kernel_rfl) ?_
        rcases Bool.eq_false_or_eq_true (s1.1.toList == (bstr []).toList) with h41 | h41
        · have hM := ite_true' hM h41
          refine tr_condTe (e := s1.1.toList == (bstr []).toList) h41 (by kernel_rfl) ?_
          refine tr_r hT hm [] [2, 6, 8, 2003] [(2, .d (.rp 1001 0)), (6, .d (.v (.string (bstr [32, 45])))), (8, .d (.v (.string s14.1))), bxB 2003 (eXSchema.b a0)] .nil (by kernel_rfl) (by kernel_rfl) (q_n ?_)
          exact tr_start (ks := [2, 6, 8, 2003]) (by kernel_rfl) (K29 (bstr [32, 45]) hM)
        · have hM := ite_false' hM h41
          refine tr_condFe (e := s1.1.toList == (bstr []).toList) h41 (by kernel_rfl) ?_
          refine tr_skip (q_n ?_)
          exact tr_start (ks := [2, 6, 8, 2003]) (by kernel_rfl) (K29 s1.1 hM)

theorem ok5 : CallOk Tryd.prog 5 := callOk_of Tryd.func5 (by kernel_rfl) (by kernel_rfl)
theorem spec_NewJournal_c (a0 : XSchema) (r : ByteArray × Int) (hM : M.spec_NewJournal a0 = some r) :
    FnC Tryd.prog 5 [] [.agg (eXSchema.b a0)] [] (.tup [.v (.string r.1), iv r.2]) := by
  refine fnc_startG (N := 11) (np := 500) hT Tryd.func5 rfl rfl (by kernel_rfl) ?_
  unfold M.spec_NewJournal at hM
  refine tr_start (ks := [0]) (st' := [(0, .d (.agg (eXSchema.b a0)))]) (by kernel_rfl) ?_
  refine tr_sr hT hm [] [2, 2003] [(2, .d (.rp 1001 0)), bxB 2003 (eXSchema.b a0)] .nil (by kernel_rfl) (by kernel_rfl) ?_
  refine tr_seq ?_
  obtain ⟨v1, hv1, hM⟩ := bind_some' hM
  refine tr_sr hT hm [(1, .call [] [] [.agg (eXSchema.b a0)] [] (bv v1))] [2, 12, 2003] [(2, .d (.rp 1001 0)), (12, .d (bv (!v1))), bxB 2003 (eXSchema.b a0)] (cc0 ok11 (spec_IsSchema_c a0 _ hv1) (by kernel_rfl) .nil) (by kernel_rfl) (by kernel_rfl) ?_
  rcases Bool.eq_false_or_eq_true v1 with h2 | h2
  · have hM := ite_true' hM h2
    refine tr_condFe (e := !v1) (congrArg not h2) (by kernel_rfl) ?_
    refine tr_skip (q_n ?_)
    obtain ⟨v3, hv3, hM⟩ := bind_some' hM
    obtain ⟨h4, hM⟩ := chk_some hM
    obtain ⟨h5, hM⟩ := chk_some hM
    refine tr_sr hT hm [(1, .call [] [] [.agg (eXSchema.b a0)] [] (.v (.string v3)))] [4, 6] [(4, .d (.v (.string (((bstr [115, 99, 104, 101, 109, 97, 32]) ++ v3) ++ (bstr [10]))))), (6, .d (iv 0))] (cc0 ok12 (spec_l36Whole_c a0 _ hv3) (by kernel_rfl) (.cons h4 (.cons h5 .nil))) (by kernel_rfl) (by kernel_rfl) ?_
    refine tr_ret (rg_r ?_)
    obtain rfl := Option.some.inj hM
    exact retg (names := []) .nil (by kernel_rfl)
  · have hM := ite_false' hM h2
    refine tr_condTe (e := !v1) (congrArg not h2) (by kernel_rfl) ?_
    refine tr_sr hT hm [] [4, 6] [(4, .d (.v (.string (bstr [])))), (6, .d (iv 1))] .nil (by kernel_rfl) (by kernel_rfl) ?_
    refine tr_ret (q_r (rg_r ?_))
    obtain rfl := Option.some.inj hM
    exact retg (names := []) .nil (by kernel_rfl)

theorem ok41 : CallOk Tryd.prog 41 := callOk_of Tryd.func41 (by kernel_rfl) (by kernel_rfl)
theorem internal_strconv_small_c (a0 : Int) (r : ByteArray) (hM : M.internal_strconv_small a0 = some r) :
    FnC Tryd.prog 41 [] [iv a0] [] (.v (.string r)) := by
  refine fnc_startG (N := 15) (np := 500) hT Tryd.func41 rfl rfl (by kernel_rfl) ?_
  unfold M.internal_strconv_small at hM
  refine tr_start (ks := [0]) (st' := [(0, .d (iv a0))]) (by kernel_rfl) ?_
  refine tr_sr hT hm [] [0] [(0, .d (iv a0))] .nil (by kernel_rfl) (by kernel_rfl) ?_
  refine tr_seq ?_
  refine tr_sr hT hm [] [0, 8] [(0, .d (iv a0)), (8, .d (bv (decide (a0 < 10))))] .nil (by kernel_rfl) (by kernel_rfl) ?_
  rcases Bool.eq_false_or_eq_true (decide (a0 < 10)) with h1 | h1
  · have hM := ite_true' hM h1
    refine tr_condTe (e := decide (a0 < 10)) h1 (by kernel_rfl) ?_
    obtain ⟨h2, hM⟩ := chk_some hM
    refine tr_sr hT hm [] [4] [(4, .d (.v (.string ((bstr [48, 49, 50, 51, 52, 53, 54, 55, 56, 57, 97, 98, 99, 100, 101, 102, 103, 104, 105, 106, 107, 108, 109, 110, 111, 112, 113, 114, 115, 116, 117, 118, 119, 120, 121, 122]).extract a0.toNat (IntKind.i64.wrap (a0 + 1)).toNat))))] (.cons h2.1 (.cons h2.2.1 (.cons h2.2.2 .nil))) (by kernel_rfl) (by kernel_rfl) ?_
    refine tr_ret (q_r (rg_r ?_))
    obtain rfl := Option.some.inj hM
    exact retg (names := []) .nil (by kernel_rfl)
  · have hM := ite_false' hM h1
    refine tr_condFe (e := decide (a0 < 10)) h1 (by kernel_rfl) ?_
    refine tr_skip (q_n ?_)
    obtain ⟨h3, hM⟩ := chk_some hM
    refine tr_sr hT hm [] [4] [(4, .d (.v (.string ((bstr [48, 48, 48, 49, 48, 50, 48, 51, 48, 52, 48, 53, 48, 54, 48, 55, 48, 56, 48, 57, 49, 48, 49, 49, 49, 50, 49, 51, 49, 52, 49, 53, 49, 54, 49, 55, 49, 56, 49, 57, 50, 48, 50, 49, 50, 50, 50, 51, 50, 52, 50, 53, 50, 54, 50, 55, 50, 56, 50, 57, 51, 48, 51, 49, 51, 50, 51, 51, 51, 52, 51, 53, 51, 54, 51, 55, 51, 56, 51, 57, 52, 48, 52, 49, 52, 50, 52, 51, 52, 52, 52, 53, 52, 54, 52, 55, 52, 56, 52, 57, 53, 48, 53, 49, 53, 50, 53, 51, 53, 52, 53, 53, 53, 54, 53, 55, 53, 56, 53, 57, 54, 48, 54, 49, 54, 50, 54, 51, 54, 52, 54, 53, 54, 54, 54, 55, 54, 56, 54, 57, 55, 48, 55, 49, 55, 50, 55, 51, 55, 52, 55, 53, 55, 54, 55, 55, 55, 56, 55, 57, 56, 48, 56, 49, 56, 50, 56, 51, 56, 52, 56, 53, 56, 54, 56, 55, 56, 56, 56, 57, 57, 48, 57, 49, 57, 50, 57, 51, 57, 52, 57, 53, 57, 54, 57, 55, 57, 56, 57, 57]).extract (IntKind.i64.wrap (a0 * 2)).toNat (IntKind.i64.wrap ((IntKind.i64.wrap (a0 * 2)) + 2)).toNat))))] (.cons h3.1 (.cons h3.2.1 (.cons h3.2.2 .nil))) (by kernel_rfl) (by kernel_rfl) ?_
    refine tr_ret (rg_r ?_)
    obtain rfl := Option.some.inj hM
    exact retg (names := []) .nil (by kernel_rfl)

theorem ok37 : CallOk Tryd.prog 37 := callOk_of Tryd.func37 (by kernel_rfl) (by kernel_rfl)
theorem internal_strconv_FormatInt_c (a0 : Int) (a1 : Int) (r : ByteArray) (hM : M.internal_strconv_FormatInt a0 a1 = some r) :
    FnC Tryd.prog 37 [] [iv a0, iv a1] [] (.v (.string r)) := by
  refine fnc_startG (N := 54) (np := 500) hT Tryd.func37 rfl rfl (by kernel_rfl) ?_
  unfold M.internal_strconv_FormatInt at hM
  refine tr_start (ks := [0, 2]) (st' := [(0, .d (iv a0)), (2, .d (iv a1))]) (by kernel_rfl) ?_
  refine tr_sr hT hm [] [0, 2] [(0, .d (iv a0)), (2, .d (iv a1))] .nil (by kernel_rfl) (by kernel_rfl) ?_
  refine tr_seq ?_
  refine tr_sr hT hm [] [0, 2, 22] [(0, .d (iv a0)), (2, .d (iv a1)), (22, .d (bv (a1 == 10)))] .nil (by kernel_rfl) (by kernel_rfl) ?_
  rcases Bool.eq_false_or_eq_true (a1 == 10) with h1 | h1
  · have hM := ite_true' hM h1
    refine tr_condTe (e := a1 == 10) h1 (by kernel_rfl) ?_
    refine tr_joinM (fun (_ : Unit) => [(0, .d (iv a0))]) hM ?_ ?_
    · intro s2 hM
      exact absurd hM (by simp)
    · intro k3 K4 hM
      rcases Bool.eq_false_or_eq_true (decide ((0 : Int) ≤ a0)) with h5 | h5
      · have hM := ite_true' hM h5
        refine tr_sr hT hm [(2, .val (bv true))] [0, 34] [(0, .d (iv a0)), (34, .d (bv (decide (a0 < 100))))] (.cons (congrArg (fun b => bv b) h5) .nil) (by kernel_rfl) (by kernel_rfl) ?_
        rcases Bool.eq_false_or_eq_true (decide (a0 < 100)) with h6 | h6
        · have hM := ite_true' hM h6
          refine tr_condTe (e := decide (a0 < 100)) h6 (by kernel_rfl) ?_
          obtain ⟨v7, hv7, hM⟩ := bind_some' hM
          refine tr_sr hT hm [(1, .call [] [] [iv a0] [] (.v (.string v7)))] [8] [(8, .d (.v (.string v7)))] (cc0 ok41 (internal_strconv_small_c a0 _ hv7) (by kernel_rfl) .nil) (by kernel_rfl) (by kernel_rfl) ?_
          refine tr_ret (q_r (q_r (rg_r ?_)))
          obtain rfl := Option.some.inj hM
          exact retg (names := []) .nil (by kernel_rfl)
        · have hM := ite_false' hM h6
          refine tr_condFe (e := decide (a0 < 100)) h6 (by kernel_rfl) ?_
          refine tr_skip (q_n ?_)
          exact tr_start (ks := [0]) (by kernel_rfl) (K4 () hM)
      · have hM := ite_false' hM h5
        refine tr_sr hT hm [(2, .val (bv false))] [0, 34] [(0, .d (iv a0)), (34, .d (bv false))] (.cons (congrArg (fun b => bv b) h5) .nil) (by kernel_rfl) (by kernel_rfl) ?_
        refine tr_condF (by kernel_rfl) ?_
        refine tr_skip (q_n ?_)
        exact tr_start (ks := [0]) (by kernel_rfl) (K4 () hM)
  · have hM := ite_false' hM h1
    refine tr_condFe (e := a1 == 10) h1 (by kernel_rfl) ?_
    refine tr_skip (q_n ?_)
    exact absurd hM (by simp)

theorem ok33 : CallOk Tryd.prog 33 := callOk_of Tryd.func33 (by kernel_rfl) (by kernel_rfl)
theorem strconv_FormatInt_c (a0 : Int) (a1 : Int) (r : ByteArray) (hM : M.strconv_FormatInt a0 a1 = some r) :
    FnC Tryd.prog 33 [] [iv a0, iv a1] [] (.v (.string r)) := by
  refine fnc_startG (N := 8) (np := 500) hT Tryd.func33 rfl rfl (by kernel_rfl) ?_
  unfold M.strconv_FormatInt at hM
  refine tr_start (ks := [0, 2]) (st' := [(0, .d (iv a0)), (2, .d (iv a1))]) (by kernel_rfl) ?_
  refine tr_sr hT hm [] [0, 2] [(0, .d (iv a0)), (2, .d (iv a1))] .nil (by kernel_rfl) (by kernel_rfl) ?_
  obtain ⟨v1, hv1, hM⟩ := bind_some' hM
  refine tr_sr hT hm [(2, .call [] [] [iv a0, iv a1] [] (.v (.string v1)))] [8] [(8, .d (.v (.string v1)))] (cc0 ok37 (internal_strconv_FormatInt_c a0 a1 _ hv1) (by kernel_rfl) .nil) (by kernel_rfl) (by kernel_rfl) ?_
  refine tr_ret (rg_r ?_)
  obtain rfl := Option.some.inj hM
  exact retg (names := []) .nil (by kernel_rfl)

theorem ok34 : CallOk Tryd.prog 34 := callOk_of Tryd.func34 (by kernel_rfl) (by kernel_rfl)
theorem impl_Path_text_c (a0 : XPath) (r : ByteArray) (hM : M.impl_Path_text a0 = some r) :
    FnC Tryd.prog 34 [] [.agg (eXPath.b a0)] [] (.v (.string r)) := by
  refine fnc_startG (N := 27) (np := 500) hT Tryd.func34 rfl rfl (by kernel_rfl) ?_
  unfold M.impl_Path_text at hM
  refine tr_start (ks := [0]) (st' := [(0, .d (.agg (eXPath.b a0)))]) (by kernel_rfl) ?_
  refine tr_sr hT hm [] [2, 2003] [(2, .d (.rp 1001 0)), bxB 2003 (eXPath.b a0)] .nil (by kernel_rfl) (by kernel_rfl) ?_
  obtain ⟨v1, hv1, hM⟩ := bind_some' hM
  obtain ⟨h2, hM⟩ := chk_some hM
  refine tr_sr hT hm [(2, .call [] [] [iv a0.Start, iv 10] [] (.v (.string v1)))] [2, 6, 2003, 2021] [(2, .d (.rp 1001 0)), (6, .d (.rs 1010 0 (((bstr [64]) ++ v1).size))), bxB 2003 (eXPath.b a0), (2021, .r (.arr 1 (u8L (bytesI ((bstr [64]) ++ v1))) []))] (cc0 ok33 (strconv_FormatInt_c a0.Start 10 _ hv1) (by kernel_rfl) (.cons h2 .nil)) (by kernel_rfl) (by kernel_rfl) ?_
  refine Tr.by (imp_cvE (r := 1010) (sz := 1) (refs := []) (u8L_flat (bytesI ((bstr [64]) ++ v1))) (menO_flat eU_ok _) (by kernel_rfl)) ?_
  refine Tr.by (imp_cvD (k := 6) (congrArg (D.rs 1010 0) ((len_bytesI ((bstr [64]) ++ v1)).symm : ((bstr [64]) ++ v1).size = (bytesI ((bstr [64]) ++ v1)).length)) (by kernel_rfl)) ?_
  refine tr_seq ?_
  refine tr_sr hT hm [] [6, 24, 26, 28, 2021] [(6, .d (.rs 1010 0 ((bytesI ((bstr [64]) ++ v1)).length))), (24, .d (.sl a0.Edges.length 0 (a0.Edges.flatMap eI.b))), (26, .d (iv (a0.Edges.length : Int))), (28, .d (iv 0)), (2021, .r (.arr 1 ((bytesI ((bstr [64]) ++ v1)).flatMap eU.o) []))] .nil (by kernel_rfl) (by kernel_rfl) ?_
  refine tr_block ?_
  refine tr_iterS (fun (s3 : (List Int) × Int) => [(6, .d (.rs 1010 0 s3.1.length)), (24, .d (.sl a0.Edges.length 0 (a0.Edges.flatMap eI.b))), (26, .d (iv (a0.Edges.length : Int))), (28, .d (iv s3.2)), (2021, .r (.arr 1 (s3.1.flatMap eU.o) []))]) ((bytesI ((bstr [64]) ++ v1)), 0) [6, 24, 26, 28, 2021] (by kernel_rfl) hM ?_
  intro n6 next4 ih5 s3 hM
  refine tr_sr hT hm [] [6, 24, 26, 28, 30, 2021] [(6, .d (.rs 1010 0 s3.1.length)), (24, .d (.sl a0.Edges.length 0 (a0.Edges.flatMap eI.b))), (26, .d (iv (a0.Edges.length : Int))), (28, .d (iv s3.2)), (30, .d (bv (decide (s3.2 < (a0.Edges.length : Int))))), (2021, .r (.arr 1 (s3.1.flatMap eU.o) []))] .nil (by kernel_rfl) (by kernel_rfl) ?_
  refine tr_seq ?_
  rcases Bool.eq_false_or_eq_true (decide (s3.2 < (a0.Edges.length : Int))) with h7 | h7
  · have hM := ite_true' hM h7
    refine tr_condTe (e := decide (s3.2 < (a0.Edges.length : Int))) h7 (by kernel_rfl) ?_
    refine tr_skip (q_n ?_)
    refine tr_seq ?_
    refine tr_block ?_
    obtain ⟨y8, hy8, hM⟩ := bind_some' hM
    have hy8' := idx_some hy8
    refine tr_sr hT hm [(1, .val (iv y8))] [6, 10, 24, 26, 28, 2021] [(6, .d (.rs 1010 0 s3.1.length)), (10, .d (iv y8)), (24, .d (.sl a0.Edges.length 0 (a0.Edges.flatMap eI.b))), (26, .d (iv (a0.Edges.length : Int))), (28, .d (iv s3.2)), (2021, .r (.arr 1 (s3.1.flatMap eU.o) []))] (.cons hy8'.1 (.cons hy8'.2.1 (.cons (at_b0 eI_ok hy8'.2.2 (d := iv y8) (by kernel_rfl)) .nil))) (by kernel_rfl) (by kernel_rfl) ?_
    obtain ⟨h9, hM⟩ := chk_some hM
    refine tr_r hT hm [(5, .app true)] [6, 24, 26, 28, 2047] [(6, .d (.rs 1023 0 (s3.1.length + (([IntKind.u8.wrap (IntKind.i64.wrap (97 + y8))] : List Int).length)))), (24, .d (.sl a0.Edges.length 0 (a0.Edges.flatMap eI.b))), (26, .d (iv (a0.Edges.length : Int))), (28, .d (iv s3.2)), (2047, .r (.arr 1 (s3.1.flatMap eU.o ++ ([IntKind.u8.wrap (IntKind.i64.wrap (97 + y8))] : List Int).flatMap eU.o) []))] (.cons (lenO_flat eU_ok s3.1) (.cons (lenO_flat eU_ok ([IntKind.u8.wrap (IntKind.i64.wrap (97 + y8))] : List Int)) (.cons h9 .nil))) (by kernel_rfl) (by kernel_rfl) (b_n (q_n ?_))
    refine Tr.by (imp_cvE (r := 1023) (sz := 1) (refs := []) (flat_app eU.o s3.1 ([IntKind.u8.wrap (IntKind.i64.wrap (97 + y8))] : List Int)) (menO_flat eU_ok _) (by kernel_rfl)) ?_
    refine Tr.by (imp_cvD (k := 6) (congrArg (D.rs 1023 0) ((len_app s3.1 ([IntKind.u8.wrap (IntKind.i64.wrap (97 + y8))] : List Int)) : s3.1.length + (([IntKind.u8.wrap (IntKind.i64.wrap (97 + y8))] : List Int).length) = (s3.1 ++ ([IntKind.u8.wrap (IntKind.i64.wrap (97 + y8))] : List Int)).length)) (by kernel_rfl)) ?_
    refine tr_r hT hm [] [6, 24, 26, 28, 2047] [(6, .d (.rs 1023 0 ((s3.1 ++ ([IntKind.u8.wrap (IntKind.i64.wrap (97 + y8))] : List Int)).length))), (24, .d (.sl a0.Edges.length 0 (a0.Edges.flatMap eI.b))), (26, .d (iv (a0.Edges.length : Int))), (28, .d (iv (IntKind.i64.wrap (s3.2 + 1)))), (2047, .r (.arr 1 ((s3.1 ++ ([IntKind.u8.wrap (IntKind.i64.wrap (97 + y8))] : List Int)).flatMap eU.o) []))] .nil (by kernel_rfl) (by kernel_rfl) (l_n ?_)
    refine TrL.by (imp_sel (ks := [6, 24, 26, 28, 2047]) (st' := [(6, .d (.rs 1023 0 ((s3.1 ++ ([IntKind.u8.wrap (IntKind.i64.wrap (97 + y8))] : List Int)).length))), (24, .d (.sl a0.Edges.length 0 (a0.Edges.flatMap eI.b))), (26, .d (iv (a0.Edges.length : Int))), (28, .d (iv (IntKind.i64.wrap (s3.2 + 1)))), (2047, .r (.arr 1 ((s3.1 ++ ([IntKind.u8.wrap (IntKind.i64.wrap (97 + y8))] : List Int)).flatMap eU.o) []))]) (by kernel_rfl)) ?_
    refine TrL.by (imp_rename (r := 1023) (q := 1010) (by kernel_rfl) (Nat.le_of_ble_eq_true rfl)) ?_
    exact trl_start (ks := [6, 24, 26, 28, 2021]) (by kernel_rfl) (ih5 (s3.1 ++ ([IntKind.u8.wrap (IntKind.i64.wrap (97 + y8))] : List Int), IntKind.i64.wrap (s3.2 + 1)) hM)
  · have hM := ite_false' hM h7
    refine tr_condFe (e := decide (s3.2 < (a0.Edges.length : Int))) h7 (by kernel_rfl) ?_
    refine tr_exit (q_x (l_x (b_h (q_n ?_))))
    refine tr_sr hT hm [(1, .val (.v (.string (strI s3.1))))] [4] [(4, .d (.v (.string (strI s3.1))))] (.cons (strOf_c s3.1) .nil) (by kernel_rfl) (by kernel_rfl) ?_
    refine tr_ret (rg_r ?_)
    obtain rfl := Option.some.inj hM
    exact retg (names := []) .nil (by kernel_rfl)

theorem ok36 : CallOk Tryd.prog 36 := callOk_of Tryd.func36 (by kernel_rfl) (by kernel_rfl)
theorem impl_part_c (a0 : List ByteArray) (r : ByteArray) (hM : M.impl_part a0 = some r) :
    FnC Tryd.prog 36 [] [.sl a0.length 0 (a0.flatMap eStr.b)] [] (.v (.string r)) := by
  refine fnc_startG (N := 8) (np := 500) hT Tryd.func36 rfl rfl (by kernel_rfl) ?_
  unfold M.impl_part at hM
  refine tr_start (ks := [0]) (st' := [(0, .d (.sl a0.length 0 (a0.flatMap eStr.b)))]) (by kernel_rfl) ?_
  refine tr_sr hT hm [] [0] [(0, .d (.sl a0.length 0 (a0.flatMap eStr.b)))] .nil (by kernel_rfl) (by kernel_rfl) ?_
  refine tr_seq ?_
  refine tr_sr hT hm [] [0, 10] [(0, .d (.sl a0.length 0 (a0.flatMap eStr.b))), (10, .d (bv ((a0.length : Int) == 0)))] .nil (by kernel_rfl) (by kernel_rfl) ?_
  rcases Bool.eq_false_or_eq_true ((a0.length : Int) == 0) with h1 | h1
  · have hM := ite_true' hM h1
    refine tr_condTe (e := (a0.length : Int) == 0) h1 (by kernel_rfl) ?_
    refine tr_sr hT hm [] [4] [(4, .d (.v (.string (bstr [45]))))] .nil (by kernel_rfl) (by kernel_rfl) ?_
    refine tr_ret (q_r (rg_r ?_))
    obtain rfl := Option.some.inj hM
    exact retg (names := []) .nil (by kernel_rfl)
  · have hM := ite_false' hM h1
    refine tr_condFe (e := (a0.length : Int) == 0) h1 (by kernel_rfl) ?_
    refine tr_skip (q_n ?_)
    obtain ⟨v2, hv2, hM⟩ := bind_some' hM
    refine tr_sr hT hm [(1, .call [] [] [.sl a0.length 0 (a0.flatMap eStr.b), .v (.string (bstr [32]))] [] (.v (.string v2)))] [4] [(4, .d (.v (.string v2)))] (cc0 ok35 (strings_Join_c a0 (bstr [32]) _ hv2) (by kernel_rfl) .nil) (by kernel_rfl) (by kernel_rfl) ?_
    refine tr_ret (rg_r ?_)
    obtain rfl := Option.some.inj hM
    exact retg (names := []) .nil (by kernel_rfl)

theorem ok30 : CallOk Tryd.prog 30 := callOk_of Tryd.func30 (by kernel_rfl) (by kernel_rfl)
theorem impl_Schema_text_c (a0 : XSchema) (r : ByteArray) (hM : M.impl_Schema_text a0 = some r) :
    FnC Tryd.prog 30 [] [.pt (eXSchema.b a0) 0] [] (.v (.string r)) := by
  refine fnc_startG (N := 80) (np := 500) hT Tryd.func30 rfl rfl (by kernel_rfl) ?_
  unfold M.impl_Schema_text at hM
  refine tr_start (ks := [0]) (st' := [(0, .d (.pt (eXSchema.b a0) 0))]) (by kernel_rfl) ?_
  refine tr_sr hT hm [] [0] [(0, .d (.pt (eXSchema.b a0) 0))] .nil (by kernel_rfl) (by kernel_rfl) ?_
  refine tr_sr hT hm [] [0, 6, 8, 2015, 2017] [(0, .d (.pt (eXSchema.b a0) 0)), (6, .d (.rs 1007 0 (([] : List ByteArray).length))), (8, .d (.rs 1008 0 (([] : List ByteArray).length))), (2015, .r (.arr 1 (([] : List ByteArray).flatMap eStr.o) [])), (2017, .r (.arr 1 (([] : List ByteArray).flatMap eStr.o) []))] .nil (by kernel_rfl) (by kernel_rfl) ?_
  refine tr_seq ?_
  refine tr_sr hT hm [] [0, 6, 8, 26, 28, 2015, 2017] [(0, .d (.pt (eXSchema.b a0) 0)), (6, .d (.rs 1007 0 (([] : List ByteArray).length))), (8, .d (.rs 1008 0 (([] : List ByteArray).length))), (26, .d (iv (a0.From.length : Int))), (28, .d (iv 0)), (2015, .r (.arr 1 (([] : List ByteArray).flatMap eStr.o) [])), (2017, .r (.arr 1 (([] : List ByteArray).flatMap eStr.o) []))] .nil (by kernel_rfl) (by kernel_rfl) ?_
  refine tr_block ?_
  refine tr_iterS (fun (s1 : (List ByteArray) × Int) => [(0, .d (.pt (eXSchema.b a0) 0)), (6, .d (.rs 1007 0 s1.1.length)), (8, .d (.rs 1008 0 (([] : List ByteArray).length))), (26, .d (iv (a0.From.length : Int))), (28, .d (iv s1.2)), (2015, .r (.arr 1 (s1.1.flatMap eStr.o) [])), (2017, .r (.arr 1 (([] : List ByteArray).flatMap eStr.o) []))]) (([] : List ByteArray), 0) [0, 6, 8, 26, 28, 2015, 2017] (by kernel_rfl) hM ?_
  intro n4 next2 ih3 s1 hM
  refine tr_sr hT hm [] [0, 6, 8, 26, 28, 30, 2015, 2017] [(0, .d (.pt (eXSchema.b a0) 0)), (6, .d (.rs 1007 0 s1.1.length)), (8, .d (.rs 1008 0 (([] : List ByteArray).length))), (26, .d (iv (a0.From.length : Int))), (28, .d (iv s1.2)), (30, .d (bv (decide (s1.2 < (a0.From.length : Int))))), (2015, .r (.arr 1 (s1.1.flatMap eStr.o) [])), (2017, .r (.arr 1 (([] : List ByteArray).flatMap eStr.o) []))] .nil (by kernel_rfl) (by kernel_rfl) ?_
  refine tr_seq ?_
  rcases Bool.eq_false_or_eq_true (decide (s1.2 < (a0.From.length : Int))) with h5 | h5
  · have hM := ite_true' hM h5
    refine tr_condTe (e := decide (s1.2 < (a0.From.length : Int))) h5 (by kernel_rfl) ?_
    refine tr_skip (q_n ?_)
    refine tr_seq ?_
    refine tr_block ?_
    refine tr_sr hT hm [] [0, 6, 8, 10, 26, 28, 2015, 2017] [(0, .d (.pt (eXSchema.b a0) 0)), (6, .d (.rs 1007 0 s1.1.length)), (8, .d (.rs 1008 0 (([] : List ByteArray).length))), (10, .d (iv s1.2)), (26, .d (iv (a0.From.length : Int))), (28, .d (iv s1.2)), (2015, .r (.arr 1 (s1.1.flatMap eStr.o) [])), (2017, .r (.arr 1 (([] : List ByteArray).flatMap eStr.o) []))] .nil (by kernel_rfl) (by kernel_rfl) ?_
    obtain ⟨y6, hy6, hM⟩ := bind_some' hM
    have hy6' := idx_some hy6
    obtain ⟨v7, hv7, hM⟩ := bind_some' hM
    obtain ⟨h8, hM⟩ := chk_some hM
    obtain ⟨y9, hy9, hM⟩ := bind_some' hM
    have hy9' := idx_some hy9
    obtain ⟨v10, hv10, hM⟩ := bind_some' hM
    obtain ⟨h11, hM⟩ := chk_some hM
    obtain ⟨h12, hM⟩ := chk_some hM
    refine tr_r hT hm [(7, .val (iv y6)), (8, .call [] [] [iv y6, iv 10] [] (.v (.string v7))), (16, .val (iv y9)), (17, .call [] [] [iv y9, iv 10] [] (.v (.string v10))), (20, .app true)] [0, 6, 8, 26, 28, 2017, 2075] [(0, .d (.pt (eXSchema.b a0) 0)), (6, .d (.rs 1037 0 (s1.1.length + (([(v7 ++ (bstr [62])) ++ v10] : List ByteArray).length)))), (8, .d (.rs 1008 0 (([] : List ByteArray).length))), (26, .d (iv (a0.From.length : Int))), (28, .d (iv s1.2)), (2017, .r (.arr 1 (([] : List ByteArray).flatMap eStr.o) [])), (2075, .r (.arr 1 (s1.1.flatMap eStr.o ++ ([(v7 ++ (bstr [62])) ++ v10] : List ByteArray).flatMap eStr.o) []))] (.cons hy6'.1 (.cons hy6'.2.1 (.cons (at_b0 eI_ok hy6'.2.2 (d := iv y6) (by kernel_rfl)) (cc0 ok33 (strconv_FormatInt_c y6 10 _ hv7) (by kernel_rfl) (.cons h8 (.cons hy9'.1 (.cons hy9'.2.1 (.cons (at_b0 eI_ok hy9'.2.2 (d := iv y9) (by kernel_rfl)) (cc0 ok33 (strconv_FormatInt_c y9 10 _ hv10) (by kernel_rfl) (.cons h11 (.cons (lenO_flat eStr_ok s1.1) (.cons (lenO_flat eStr_ok ([(v7 ++ (bstr [62])) ++ v10] : List ByteArray)) (.cons h12 .nil))))))))))))) (by kernel_rfl) (by kernel_rfl) (b_n (q_n ?_))
    refine Tr.by (imp_cvE (r := 1037) (sz := 1) (refs := []) (flat_app eStr.o s1.1 ([(v7 ++ (bstr [62])) ++ v10] : List ByteArray)) (menO_flat eStr_ok _) (by kernel_rfl)) ?_
    refine Tr.by (imp_cvD (k := 6) (congrArg (D.rs 1037 0) ((len_app s1.1 ([(v7 ++ (bstr [62])) ++ v10] : List ByteArray)) : s1.1.length + (([(v7 ++ (bstr [62])) ++ v10] : List ByteArray).length) = (s1.1 ++ ([(v7 ++ (bstr [62])) ++ v10] : List ByteArray)).length)) (by kernel_rfl)) ?_
    refine tr_r hT hm [] [0, 6, 8, 26, 28, 2017, 2075] [(0, .d (.pt (eXSchema.b a0) 0)), (6, .d (.rs 1037 0 ((s1.1 ++ ([(v7 ++ (bstr [62])) ++ v10] : List ByteArray)).length))), (8, .d (.rs 1008 0 (([] : List ByteArray).length))), (26, .d (iv (a0.From.length : Int))), (28, .d (iv (IntKind.i64.wrap (s1.2 + 1)))), (2017, .r (.arr 1 (([] : List ByteArray).flatMap eStr.o) [])), (2075, .r (.arr 1 ((s1.1 ++ ([(v7 ++ (bstr [62])) ++ v10] : List ByteArray)).flatMap eStr.o) []))] .nil (by kernel_rfl) (by kernel_rfl) (l_n ?_)
    refine TrL.by (imp_sel (ks := [0, 6, 8, 26, 28, 2017, 2075]) (st' := [(0, .d (.pt (eXSchema.b a0) 0)), (6, .d (.rs 1037 0 ((s1.1 ++ ([(v7 ++ (bstr [62])) ++ v10] : List ByteArray)).length))), (8, .d (.rs 1008 0 (([] : List ByteArray).length))), (26, .d (iv (a0.From.length : Int))), (28, .d (iv (IntKind.i64.wrap (s1.2 + 1)))), (2017, .r (.arr 1 (([] : List ByteArray).flatMap eStr.o) [])), (2075, .r (.arr 1 ((s1.1 ++ ([(v7 ++ (bstr [62])) ++ v10] : List ByteArray)).flatMap eStr.o) []))]) (by kernel_rfl)) ?_
    refine TrL.by (imp_rename (r := 1037) (q := 1007) (by kernel_rfl) (Nat.le_of_ble_eq_true rfl)) ?_
    exact trl_start (ks := [0, 6, 8, 26, 28, 2015, 2017]) (by kernel_rfl) (ih3 (s1.1 ++ ([(v7 ++ (bstr [62])) ++ v10] : List ByteArray), IntKind.i64.wrap (s1.2 + 1)) hM)
  · have hM := ite_false' hM h5
    refine tr_condFe (e := decide (s1.2 < (a0.From.length : Int))) h5 (by kernel_rfl) ?_
    refine tr_exit (q_x (l_x (b_h (q_n ?_))))
    refine tr_seq ?_
    refine tr_sr hT hm [] [0, 6, 8, 86, 88, 2015, 2017] [(0, .d (.pt (eXSchema.b a0) 0)), (6, .d (.rs 1007 0 s1.1.length)), (8, .d (.rs 1008 0 (([] : List ByteArray).length))), (86, .d (iv (a0.Left.length : Int))), (88, .d (iv 0)), (2015, .r (.arr 1 (s1.1.flatMap eStr.o) [])), (2017, .r (.arr 1 (([] : List ByteArray).flatMap eStr.o) []))] .nil (by kernel_rfl) (by kernel_rfl) ?_
    refine tr_block ?_
    refine tr_iterS (fun (s13 : (List ByteArray) × Int) => [(0, .d (.pt (eXSchema.b a0) 0)), (6, .d (.rs 1007 0 s1.1.length)), (8, .d (.rs 1008 0 s13.1.length)), (86, .d (iv (a0.Left.length : Int))), (88, .d (iv s13.2)), (2015, .r (.arr 1 (s1.1.flatMap eStr.o) [])), (2017, .r (.arr 1 (s13.1.flatMap eStr.o) []))]) (([] : List ByteArray), 0) [0, 6, 8, 86, 88, 2015, 2017] (by kernel_rfl) hM ?_
    intro n16 next14 ih15 s13 hM
    refine tr_sr hT hm [] [0, 6, 8, 86, 88, 90, 2015, 2017] [(0, .d (.pt (eXSchema.b a0) 0)), (6, .d (.rs 1007 0 s1.1.length)), (8, .d (.rs 1008 0 s13.1.length)), (86, .d (iv (a0.Left.length : Int))), (88, .d (iv s13.2)), (90, .d (bv (decide (s13.2 < (a0.Left.length : Int))))), (2015, .r (.arr 1 (s1.1.flatMap eStr.o) [])), (2017, .r (.arr 1 (s13.1.flatMap eStr.o) []))] .nil (by kernel_rfl) (by kernel_rfl) ?_
    refine tr_seq ?_
    rcases Bool.eq_false_or_eq_true (decide (s13.2 < (a0.Left.length : Int))) with h17 | h17
    · have hM := ite_true' hM h17
      refine tr_condTe (e := decide (s13.2 < (a0.Left.length : Int))) h17 (by kernel_rfl) ?_
      refine tr_skip (q_n ?_)
      refine tr_seq ?_
      refine tr_block ?_
      refine tr_sr hT hm [] [0, 6, 8, 12, 86, 88, 2015, 2017] [(0, .d (.pt (eXSchema.b a0) 0)), (6, .d (.rs 1007 0 s1.1.length)), (8, .d (.rs 1008 0 s13.1.length)), (12, .d (iv s13.2)), (86, .d (iv (a0.Left.length : Int))), (88, .d (iv s13.2)), (2015, .r (.arr 1 (s1.1.flatMap eStr.o) [])), (2017, .r (.arr 1 (s13.1.flatMap eStr.o) []))] .nil (by kernel_rfl) (by kernel_rfl) ?_
      obtain ⟨y18, hy18, hM⟩ := bind_some' hM
      have hy18' := idx_some hy18
      obtain ⟨v19, hv19, hM⟩ := bind_some' hM
      obtain ⟨h20, hM⟩ := chk_some hM
      obtain ⟨y21, hy21, hM⟩ := bind_some' hM
      have hy21' := idx_some hy21
      obtain ⟨v22, hv22, hM⟩ := bind_some' hM
      obtain ⟨h23, hM⟩ := chk_some hM
      obtain ⟨h24, hM⟩ := chk_some hM
      refine tr_r hT hm [(7, .val (.agg [iv y18.Start, .sl y18.Edges.length 0 (y18.Edges.flatMap eI.b)])), (8, .call [] [] [.agg (eXPath.b y18)] [] (.v (.string v19))), (16, .val (.agg [iv y21.Start, .sl y21.Edges.length 0 (y21.Edges.flatMap eI.b)])), (17, .call [] [] [.agg (eXPath.b y21)] [] (.v (.string v22))), (20, .app true)] [0, 6, 8, 86, 88, 2015, 2135] [(0, .d (.pt (eXSchema.b a0) 0)), (6, .d (.rs 1007 0 s1.1.length)), (8, .d (.rs 1067 0 (s13.1.length + (([(v19 ++ (bstr [61])) ++ v22] : List ByteArray).length)))), (86, .d (iv (a0.Left.length : Int))), (88, .d (iv s13.2)), (2015, .r (.arr 1 (s1.1.flatMap eStr.o) [])), (2135, .r (.arr 1 (s13.1.flatMap eStr.o ++ ([(v19 ++ (bstr [61])) ++ v22] : List ByteArray).flatMap eStr.o) []))] (.cons hy18'.1 (.cons hy18'.2.1 (.cons (sub_b eXPath_ok hy18'.2.2) (cc0 ok34 (impl_Path_text_c y18 _ hv19) (by kernel_rfl) (.cons h20 (.cons hy21'.1 (.cons hy21'.2.1 (.cons (sub_b eXPath_ok hy21'.2.2) (cc0 ok34 (impl_Path_text_c y21 _ hv22) (by kernel_rfl) (.cons h23 (.cons (lenO_flat eStr_ok s13.1) (.cons (lenO_flat eStr_ok ([(v19 ++ (bstr [61])) ++ v22] : List ByteArray)) (.cons h24 .nil))))))))))))) (by kernel_rfl) (by kernel_rfl) (b_n (q_n ?_))
      refine Tr.by (imp_cvE (r := 1067) (sz := 1) (refs := []) (flat_app eStr.o s13.1 ([(v19 ++ (bstr [61])) ++ v22] : List ByteArray)) (menO_flat eStr_ok _) (by kernel_rfl)) ?_
      refine Tr.by (imp_cvD (k := 8) (congrArg (D.rs 1067 0) ((len_app s13.1 ([(v19 ++ (bstr [61])) ++ v22] : List ByteArray)) : s13.1.length + (([(v19 ++ (bstr [61])) ++ v22] : List ByteArray).length) = (s13.1 ++ ([(v19 ++ (bstr [61])) ++ v22] : List ByteArray)).length)) (by kernel_rfl)) ?_
      refine tr_r hT hm [] [0, 6, 8, 86, 88, 2015, 2135] [(0, .d (.pt (eXSchema.b a0) 0)), (6, .d (.rs 1007 0 s1.1.length)), (8, .d (.rs 1067 0 ((s13.1 ++ ([(v19 ++ (bstr [61])) ++ v22] : List ByteArray)).length))), (86, .d (iv (a0.Left.length : Int))), (88, .d (iv (IntKind.i64.wrap (s13.2 + 1)))), (2015, .r (.arr 1 (s1.1.flatMap eStr.o) [])), (2135, .r (.arr 1 ((s13.1 ++ ([(v19 ++ (bstr [61])) ++ v22] : List ByteArray)).flatMap eStr.o) []))] .nil (by kernel_rfl) (by kernel_rfl) (l_n ?_)
      refine TrL.by (imp_sel (ks := [0, 6, 8, 86, 88, 2015, 2135]) (st' := [(0, .d (.pt (eXSchema.b a0) 0)), (6, .d (.rs 1007 0 s1.1.length)), (8, .d (.rs 1067 0 ((s13.1 ++ ([(v19 ++ (bstr [61])) ++ v22] : List ByteArray)).length))), (86, .d (iv (a0.Left.length : Int))), (88, .d (iv (IntKind.i64.wrap (s13.2 + 1)))), (2015, .r (.arr 1 (s1.1.flatMap eStr.o) [])), (2135, .r (.arr 1 ((s13.1 ++ ([(v19 ++ (bstr [61])) ++ v22] : List ByteArray)).flatMap eStr.o) []))]) (by kernel_rfl)) ?_
      refine TrL.by (imp_rename (r := 1067) (q := 1008) (by kernel_rfl) (Nat.le_of_ble_eq_true rfl)) ?_
      exact trl_start (ks := [0, 6, 8, 86, 88, 2015, 2017]) (by kernel_rfl) (ih15 (s13.1 ++ ([(v19 ++ (bstr [61])) ++ v22] : List ByteArray), IntKind.i64.wrap (s13.2 + 1)) hM)
    · have hM := ite_false' hM h17
      refine tr_condFe (e := decide (s13.2 < (a0.Left.length : Int))) h17 (by kernel_rfl) ?_
      refine tr_exit (q_x (l_x (b_h (q_n ?_))))
      obtain ⟨v25, hv25, hM⟩ := bind_some' hM
      obtain ⟨v26, hv26, hM⟩ := bind_some' hM
      obtain ⟨v27, hv27, hM⟩ := bind_some' hM
      obtain ⟨v28, hv28, hM⟩ := bind_some' hM
      refine tr_sr hT hm [(4, .call [] [] [iv a0.Nodes, iv 10] [] (.v (.string v25))), (6, .call [1007] [] [.sl s1.1.length 0 (s1.1.flatMap eStr.b)] [] (.v (.string v26))), (8, .call [1008] [] [.sl s13.1.length 0 (s13.1.flatMap eStr.b)] [] (.v (.string v27))), (10, .call [1078] [] [.sl ([v25, v26, v27] : List ByteArray).length 0 (([v25, v26, v27] : List ByteArray).flatMap eStr.b), .v (.string (bstr [32, 124, 32]))] [] (.v (.string v28)))] [4] [(4, .d (.v (.string v28)))] (cc0 ok33 (strconv_FormatInt_c a0.Nodes 10 _ hv25) (by kernel_rfl) (cc (B := [1007]) (ρ := []) (rB := [(1007, .arr 1 (s1.1.flatMap eStr.o) [])]) ok36 (impl_part_c s1.1 _ hv26) (.cons (.of1 (.rs (r := 1007) (sz := 1) (refs := []) (memB (by kernel_rfl)) (by kernel_rfl) (bor_flat eStr_ok _ _ _))) .nil) (.inr ⟨.v, trivial⟩) (cc (B := [1008]) (ρ := []) (rB := [(1008, .arr 1 (s13.1.flatMap eStr.o) [])]) ok36 (impl_part_c s13.1 _ hv27) (.cons (.of1 (.rs (r := 1008) (sz := 1) (refs := []) (memB (by kernel_rfl)) (by kernel_rfl) (bor_flat eStr_ok _ _ _))) .nil) (.inr ⟨.v, trivial⟩) (cc (B := [1078]) (ρ := []) (rB := [(1078, .arr 1 (([v25, v26, v27] : List ByteArray).flatMap eStr.o) [])]) ok35 (strings_Join_c ([v25, v26, v27] : List ByteArray) (bstr [32, 124, 32]) _ hv28) (.cons (.of1 (.rs (r := 1078) (sz := 1) (refs := []) (memB (by kernel_rfl)) (by kernel_rfl) (bor_flat eStr_ok _ _ _))) (.cons (.same rfl) .nil)) (.inr ⟨.v, trivial⟩) .nil)))) (by kernel_rfl) (by kernel_rfl) ?_
      refine tr_ret (rg_r ?_)
      obtain rfl := Option.some.inj hM
      exact retg (names := []) .nil (by kernel_rfl)

theorem ok16 : CallOk Tryd.prog 16 := callOk_of Tryd.func16 (by kernel_rfl) (by kernel_rfl)
theorem impl_newJournal_c (a0 : XSchema) (r : ByteArray) (hM : M.impl_newJournal a0 = some r) :
    FnC Tryd.prog 16 [] [.pt (eXSchema.b a0) 0] [] (.v (.string r)) := by
  refine fnc_startG (N := 7) (np := 500) hT Tryd.func16 rfl rfl (by kernel_rfl) ?_
  unfold M.impl_newJournal at hM
  refine tr_start (ks := [0]) (st' := [(0, .d (.pt (eXSchema.b a0) 0))]) (by kernel_rfl) ?_
  refine tr_sr hT hm [] [0] [(0, .d (.pt (eXSchema.b a0) 0))] .nil (by kernel_rfl) (by kernel_rfl) ?_
  obtain ⟨v1, hv1, hM⟩ := bind_some' hM
  obtain ⟨h2, hM⟩ := chk_some hM
  obtain ⟨h3, hM⟩ := chk_some hM
  refine tr_sr hT hm [(1, .call [] [] [.pt (eXSchema.b a0) 0] [] (.v (.string v1)))] [4] [(4, .d (.v (.string (((bstr [115, 99, 104, 101, 109, 97, 32]) ++ v1) ++ (bstr [10])))))] (cc0 ok30 (impl_Schema_text_c a0 _ hv1) (by kernel_rfl) (.cons h2 (.cons h3 .nil))) (by kernel_rfl) (by kernel_rfl) ?_
  refine tr_ret (rg_r ?_)
  obtain rfl := Option.some.inj hM
  exact retg (names := []) .nil (by kernel_rfl)

theorem ok7 : CallOk Tryd.prog 7 := callOk_of Tryd.func7 (by kernel_rfl) (by kernel_rfl)
theorem impl_NewJournal_c (a0 : XSchema) (r : ByteArray × Int) (hM : M.impl_NewJournal a0 = some r) :
    FnC Tryd.prog 7 [] [.agg (eXSchema.b a0)] [] (.tup [.v (.string r.1), iv r.2]) := by
  refine fnc_startG (N := 7) (np := 500) hT Tryd.func7 rfl rfl (by kernel_rfl) ?_
  unfold M.impl_NewJournal at hM
  refine tr_start (ks := [0]) (st' := [(0, .d (.agg (eXSchema.b a0)))]) (by kernel_rfl) ?_
  refine tr_sr hT hm [] [2, 2003] [(2, .d (.rp 1001 0)), bxB 2003 (eXSchema.b a0)] .nil (by kernel_rfl) (by kernel_rfl) ?_
  refine tr_seq ?_
  obtain ⟨v1, hv1, hM⟩ := bind_some' hM
  refine tr_sr hT hm [(0, .call [1001] [] [.pt (eXSchema.b a0) 0] [] (bv v1))] [2, 10, 2003] [(2, .d (.rp 1001 0)), (10, .d (bv (!v1))), bxB 2003 (eXSchema.b a0)] (cc (B := [1001]) (ρ := []) (rB := [(1001, .arr 1 [iv a0.Nodes, .sl a0.From.length 0 (a0.From.flatMap eI.b), .sl a0.To.length 0 (a0.To.flatMap eI.b), .sl a0.Left.length 0 (a0.Left.flatMap eXPath.b), .sl a0.Right.length 0 (a0.Right.flatMap eXPath.b)] [])]) ok15 (impl_Schema_isSchema_c a0 _ hv1) (.cons (.of1 (.rp (r := 1001) (sz := 1) (cells := [iv a0.Nodes, .sl a0.From.length 0 (a0.From.flatMap eI.b), .sl a0.To.length 0 (a0.To.flatMap eI.b), .sl a0.Left.length 0 (a0.Left.flatMap eXPath.b), .sl a0.Right.length 0 (a0.Right.flatMap eXPath.b)]) (refs := []) (memB (by kernel_rfl)) (by kernel_rfl) (.cons .v (.cons (.same rfl rfl) (.cons (.same rfl rfl) (.cons (.same rfl rfl) (.cons (.same rfl rfl) .nil))))))) .nil) (.inr ⟨.v, trivial⟩) .nil) (by kernel_rfl) (by kernel_rfl) ?_
  rcases Bool.eq_false_or_eq_true v1 with h2 | h2
  · have hM := ite_true' hM h2
    refine tr_condFe (e := !v1) (congrArg not h2) (by kernel_rfl) ?_
    refine tr_skip (q_n ?_)
    obtain ⟨v3, hv3, hM⟩ := bind_some' hM
    refine tr_sr hT hm [(0, .call [1001] [] [.pt (eXSchema.b a0) 0] [] (.v (.string v3)))] [4, 6] [(4, .d (.v (.string v3))), (6, .d (iv 0))] (cc (B := [1001]) (ρ := []) (rB := [(1001, .arr 1 [iv a0.Nodes, .sl a0.From.length 0 (a0.From.flatMap eI.b), .sl a0.To.length 0 (a0.To.flatMap eI.b), .sl a0.Left.length 0 (a0.Left.flatMap eXPath.b), .sl a0.Right.length 0 (a0.Right.flatMap eXPath.b)] [])]) ok16 (impl_newJournal_c a0 _ hv3) (.cons (.of1 (.rp (r := 1001) (sz := 1) (cells := [iv a0.Nodes, .sl a0.From.length 0 (a0.From.flatMap eI.b), .sl a0.To.length 0 (a0.To.flatMap eI.b), .sl a0.Left.length 0 (a0.Left.flatMap eXPath.b), .sl a0.Right.length 0 (a0.Right.flatMap eXPath.b)]) (refs := []) (memB (by kernel_rfl)) (by kernel_rfl) (.cons .v (.cons (.same rfl rfl) (.cons (.same rfl rfl) (.cons (.same rfl rfl) (.cons (.same rfl rfl) .nil))))))) .nil) (.inr ⟨.v, trivial⟩) .nil) (by kernel_rfl) (by kernel_rfl) ?_
    refine tr_ret (rg_r ?_)
    obtain rfl := Option.some.inj hM
    exact retg (names := []) .nil (by kernel_rfl)
  · have hM := ite_false' hM h2
    refine tr_condTe (e := !v1) (congrArg not h2) (by kernel_rfl) ?_
    refine tr_sr hT hm [] [4, 6] [(4, .d (.v (.string (bstr [])))), (6, .d (iv 1))] .nil (by kernel_rfl) (by kernel_rfl) ?_
    refine tr_ret (q_r (rg_r ?_))
    obtain rfl := Option.some.inj hM
    exact retg (names := []) .nil (by kernel_rfl)

theorem laws_FnExactNewJournal_c (a0 : XSchema) (r : Bool) (hM : M.laws_FnExactNewJournal a0 = some r) :
    FnC Tryd.prog 3 [] [.agg (eXSchema.b a0)] [] (bv r) := by
  refine fnc_startG (N := 40) (np := 500) hT Tryd.func3 rfl rfl (by kernel_rfl) ?_
  unfold M.laws_FnExactNewJournal at hM
  refine tr_start (ks := [0]) (st' := [(0, .d (.agg (eXSchema.b a0)))]) (by kernel_rfl) ?_
  refine tr_sr hT hm [] [2, 2003] [(2, .d (.rp 1001 0)), bxB 2003 (eXSchema.b a0)] .nil (by kernel_rfl) (by kernel_rfl) ?_
  refine tr_sr hT hm [] [2, 6, 2003] [(2, .d (.rp 1001 0)), (6, .d (iv 1048576)), bxB 2003 (eXSchema.b a0)] .nil (by kernel_rfl) (by kernel_rfl) ?_
  obtain ⟨v1, hv1, hM⟩ := bind_some' hM
  refine tr_sr hT hm [(2, .call [] [] [.agg (eXSchema.b a0), iv 1048576] [] (iv v1))] [2, 6, 2003] [(2, .d (.rp 1001 0)), (6, .d (iv v1)), bxB 2003 (eXSchema.b a0)] (cc0 ok4 (laws_szSchema_c a0 1048576 _ hv1) (by kernel_rfl) .nil) (by kernel_rfl) (by kernel_rfl) ?_
  refine tr_seq ?_
  refine tr_sr hT hm [] [2, 26, 2003] [(2, .d (.rp 1001 0)), (26, .d (bv (decide (v1 < 0)))), bxB 2003 (eXSchema.b a0)] .nil (by kernel_rfl) (by kernel_rfl) ?_
  rcases Bool.eq_false_or_eq_true (decide (v1 < 0)) with h2 | h2
  · have hM := ite_true' hM h2
    refine tr_condTe (e := decide (v1 < 0)) h2 (by kernel_rfl) ?_
    refine tr_sr hT hm [] [4] [(4, .d (bv true))] .nil (by kernel_rfl) (by kernel_rfl) ?_
    refine tr_ret (q_r (rg_r ?_))
    obtain rfl := Option.some.inj hM
    exact retg (names := []) .nil (by kernel_rfl)
  · have hM := ite_false' hM h2
    refine tr_condFe (e := decide (v1 < 0)) h2 (by kernel_rfl) ?_
    refine tr_skip (q_n ?_)
    obtain ⟨v3, hv3, hM⟩ := bind_some' hM
    obtain ⟨v4, hv4, hM⟩ := bind_some' hM
    refine tr_sr hT hm [(1, .call [] [] [.agg (eXSchema.b a0)] [] (.agg (eXSchema.o v3))), (2, .call (rsR 18000 (eXSchema.o v3)) [] [.agg (eXSchema.b v3)] [] (.tup [.v (.string v4.1), iv v4.2]))] [2, 8, 10, 2003] [(2, .d (.rp 1001 0)), (8, .d (.v (.string v4.1))), (10, .d (iv v4.2)), bxB 2003 (eXSchema.b a0)] (cc0 ok6 (laws_toSchema_c a0 _ hv3) (by kernel_rfl) (cc (B := (rsR 18000 (eXSchema.o v3))) (ρ := []) (rB := (rsP 18000 (eXSchema.o v3))) ok5 (spec_NewJournal_c v3 _ hv4) (.cons (bor_rs eXSchema_r (q := 18000) (x := v3) (by kernel_rfl) (by kernel_rfl)) .nil) (.inr ⟨(nobor_tup (.cons .v (.cons .v .nil))), trivial⟩) .nil)) (by kernel_rfl) (by kernel_rfl) ?_
    refine tr_sr hT hm [(1, .call [] [] [.agg (eXSchema.b a0)] [] (.agg (eXSchema.o v3)))] [2, 8, 10, 12, 2003, 2013, 46003, 46005, 46007, 46009] ([(2, .d (.rp 1001 0)), (8, .d (.v (.string v4.1))), (10, .d (iv v4.2)), (12, .d (.rp 1006 0)), bxB 2003 (eXSchema.b a0), bxO 2013 23000 (eXSchema.o v3)] ++ rsS 23000 (eXSchema.o v3)) (cc0 ok6 (laws_toSchema_c a0 _ hv3) (by kernel_rfl) (.cons (Nat.le_of_ble_eq_true (n := 5) (m := 5) rfl) .nil)) (by kernel_rfl) (by kernel_rfl) ?_
    obtain ⟨v5, hv5, hM⟩ := bind_some' hM
    refine tr_sr hT hm [(1, .call (rsR 23000 (eXSchema.o v3)) [] [.agg (eXSchema.b v3)] [] (.tup [.v (.string v5.1), iv v5.2]))] [2, 8, 10, 12, 14, 16, 2003, 2013, 46003, 46005, 46007, 46009] ([(2, .d (.rp 1001 0)), (8, .d (.v (.string v4.1))), (10, .d (iv v4.2)), (12, .d (.rp 1006 0)), (14, .d (.v (.string v5.1))), (16, .d (iv v5.2)), bxB 2003 (eXSchema.b a0), bxO 2013 23000 (eXSchema.o v3)] ++ rsS 23000 (eXSchema.o v3)) (cc (B := (rsR 23000 (eXSchema.o v3))) (ρ := []) (rB := (rsP 23000 (eXSchema.o v3))) ok7 (impl_NewJournal_c v3 _ hv5) (.cons (bor_rs eXSchema_r (q := 23000) (x := v3) (by kernel_rfl) (by kernel_rfl)) .nil) (.inr ⟨(nobor_tup (.cons .v (.cons .v .nil))), trivial⟩) .nil) (by kernel_rfl) (by kernel_rfl) ?_
    refine tr_seq ?_
    rcases Bool.eq_false_or_eq_true (v5.1.toList == v4.1.toList) with h6 | h6
    · have hM := ite_true' hM h6
      refine tr_sr hT hm [(3, .val (bv false))] [2, 12, 68, 2003, 2013, 46003, 46005, 46007, 46009] ([(2, .d (.rp 1001 0)), (12, .d (.rp 1006 0)), (68, .d (bv (v5.2 != v4.2))), bxB 2003 (eXSchema.b a0), bxO 2013 23000 (eXSchema.o v3)] ++ rsS 23000 (eXSchema.o v3)) (.cons (congrArg (fun b => bv b) (congrArg not h6)) .nil) (by kernel_rfl) (by kernel_rfl) ?_
      rcases Bool.eq_false_or_eq_true (v5.2 != v4.2) with h7 | h7
      · have hM := ite_true' hM h7
        refine tr_condTe (e := v5.2 != v4.2) h7 (by kernel_rfl) ?_
        refine tr_sr hT hm [] [4] [(4, .d (bv false))] .nil (by kernel_rfl) (by kernel_rfl) ?_
        refine tr_ret (q_r (rg_r ?_))
        obtain rfl := Option.some.inj hM
        exact retg (names := []) .nil (by kernel_rfl)
      · have hM := ite_false' hM h7
        refine tr_condFe (e := v5.2 != v4.2) h7 (by kernel_rfl) ?_
        refine tr_skip (q_n ?_)
        refine tr_seq ?_
        obtain ⟨v8, hv8, hM⟩ := bind_some' hM
        refine tr_sr hT hm [(2, .call [] [] [.agg (eXSchema.b a0)] [] (.agg (eXSchema.o v3))), (3, .call (rsR 23000 (eXSchema.o v3) ++ rsR 39000 (eXSchema.o v3)) [] [.agg (eXSchema.b v3), .agg (eXSchema.b v3)] [] (bv v8))] [78] [(78, .d (bv (!v8)))] (cc0 ok6 (laws_toSchema_c a0 _ hv3) (by kernel_rfl) (cc (B := (rsR 23000 (eXSchema.o v3) ++ rsR 39000 (eXSchema.o v3))) (ρ := []) (rB := (rsP 23000 (eXSchema.o v3) ++ rsP 39000 (eXSchema.o v3))) ok8 (laws_eqSchema_c v3 v3 _ hv8) (.cons (bor_rs eXSchema_r (q := 23000) (x := v3) (by kernel_rfl) (by kernel_rfl)) (.cons (bor_rs eXSchema_r (q := 39000) (x := v3) (by kernel_rfl) (by kernel_rfl)) .nil)) (.inr ⟨.v, trivial⟩) .nil)) (by kernel_rfl) (by kernel_rfl) ?_
        rcases Bool.eq_false_or_eq_true v8 with h9 | h9
        · have hM := ite_true' hM h9
          refine tr_condFe (e := !v8) (congrArg not h9) (by kernel_rfl) ?_
          refine tr_skip (q_n ?_)
          refine tr_sr hT hm [] [4] [(4, .d (bv true))] .nil (by kernel_rfl) (by kernel_rfl) ?_
          refine tr_ret (rg_r ?_)
          obtain rfl := Option.some.inj hM
          exact retg (names := []) .nil (by kernel_rfl)
        · have hM := ite_false' hM h9
          refine tr_condTe (e := !v8) (congrArg not h9) (by kernel_rfl) ?_
          refine tr_sr hT hm [] [4] [(4, .d (bv false))] .nil (by kernel_rfl) (by kernel_rfl) ?_
          refine tr_ret (q_r (rg_r ?_))
          obtain rfl := Option.some.inj hM
          exact retg (names := []) .nil (by kernel_rfl)
    · have hM := ite_false' hM h6
      refine tr_sr hT hm [(3, .val (bv true))] [2, 12, 68, 2003, 2013, 46003, 46005, 46007, 46009] ([(2, .d (.rp 1001 0)), (12, .d (.rp 1006 0)), (68, .d (bv true)), bxB 2003 (eXSchema.b a0), bxO 2013 23000 (eXSchema.o v3)] ++ rsS 23000 (eXSchema.o v3)) (.cons (congrArg (fun b => bv b) (congrArg not h6)) .nil) (by kernel_rfl) (by kernel_rfl) ?_
      refine tr_condT (by kernel_rfl) ?_
      refine tr_sr hT hm [] [4] [(4, .d (bv false))] .nil (by kernel_rfl) (by kernel_rfl) ?_
      refine tr_ret (q_r (rg_r ?_))
      obtain rfl := Option.some.inj hM
      exact retg (names := []) .nil (by kernel_rfl)

end Go.Proofs.YtknmijgiefkijaaDoor.WdS
