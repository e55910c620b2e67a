/- Walks. Printed by wip/gen. -/
import Derived.Test.YtggojehmbpbefaaGxBW2
namespace Go.Proofs.Ytggojehmbpbefaa
open Go.Gx

theorem ok216 : CallOk Try.prog 216 := callOk_of Try.func216 (by kernel_rfl) (by kernel_rfl)
theorem impl_Category_table_c (a0 : XCategory) (f1 : Nat) (c1 : List D) (a1 : Int → Int → Option Int) (ok1_ : CallOk Try.prog f1) (hm1 : menL c1 = []) (hf1 : ∀ x0 x1 r, a1 x0 x1 = some r → FnC Try.prog f1 [] ([iv x0, iv x1] ++ c1) [] (iv r)) (r : XCategory) (hM : M.impl_Category_table a0 a1 = some r) :
    FnC Try.prog 216 [(0, .arr 1 [iv a0.Objects, .fr 1 a0.From.length (a0.From.flatMap eI.o), .fr 1 a0.To.length (a0.To.flatMap eI.o), .fr 1 a0.Identity.length (a0.Identity.flatMap eI.o), .fr 1 a0.Composites.length (a0.Composites.flatMap (eS eI).o)] [])] [.rp 0 0, .fb f1 c1] [(0, .arr 1 [iv r.Objects, .fr 1 r.From.length (r.From.flatMap eI.o), .fr 1 r.To.length (r.To.flatMap eI.o), .fr 1 r.Identity.length (r.Identity.flatMap eI.o), .fr 1 r.Composites.length (r.Composites.flatMap (eS eI).o)] [])] (.tup []) := by
  refine fnc_startG (N := 80) (np := 500) hT Try.func216 rfl rfl (by kernel_rfl) ?_
  unfold M.impl_Category_table at hM
  refine tr_start (ks := [0, 1, 2]) (st' := [(0, .d (.rp 0 0)), (1, .r (.arr 1 [iv a0.Objects, .fr 1 a0.From.length (a0.From.flatMap eI.o), .fr 1 a0.To.length (a0.To.flatMap eI.o), .fr 1 a0.Identity.length (a0.Identity.flatMap eI.o), .fr 1 a0.Composites.length (a0.Composites.flatMap (eS eI).o)] [])), (2, .d (.fb f1 c1))]) (by kernel_rfl) ?_
  obtain ⟨v1, hv1, hM⟩ := bind_some' hM
  refine tr_sr hT hm [(1, .call [0] [] [.pt (eXCategory.b a0) 0] [] (iv v1))] [0, 1, 2, 8] [(0, .d (.rp 0 0)), (1, .r (.arr 1 [iv a0.Objects, .fr 1 a0.From.length (a0.From.flatMap eI.o), .fr 1 a0.To.length (a0.To.flatMap eI.o), .fr 1 a0.Identity.length (a0.Identity.flatMap eI.o), .fr 1 a0.Composites.length (a0.Composites.flatMap (eS eI).o)] [])), (2, .d (.fb f1 c1)), (8, .d (iv v1))] (cc (B := [0]) (ρ := []) (rB := [(0, .arr 1 [iv a0.Objects, .fr 1 a0.From.length (a0.From.flatMap eI.o), .fr 1 a0.To.length (a0.To.flatMap eI.o), .fr 1 a0.Identity.length (a0.Identity.flatMap eI.o), .fr 1 a0.Composites.length (a0.Composites.flatMap (eS eI).o)] [])]) ok160 (impl_Category_arrows_c a0 _ hv1) (.cons (.of1 (.rp (r := 0) (sz := 1) (cells := [iv a0.Objects, .fr 1 a0.From.length (a0.From.flatMap eI.o), .fr 1 a0.To.length (a0.To.flatMap eI.o), .fr 1 a0.Identity.length (a0.Identity.flatMap eI.o), .fr 1 a0.Composites.length (a0.Composites.flatMap (eS eI).o)]) (refs := []) (memB (by kernel_rfl)) (by kernel_rfl) (.cons .v (.cons (.fr (sz := 1) (bor_flat eI_ok _ _ _)) (.cons (.fr (sz := 1) (bor_flat eI_ok _ _ _)) (.cons (.fr (sz := 1) (bor_flat eI_ok _ _ _)) (.cons (.fr (sz := 1) (bor_flat (eS_ok eI_ok) _ _ _)) .nil))))))) .nil) (.inr ⟨.v, trivial⟩) .nil) (by kernel_rfl) (by kernel_rfl) ?_
  obtain ⟨h2, hM⟩ := chk_some hM
  refine tr_sr hT hm [] [0, 1, 2, 8, 2023] [(0, .d (.rp 0 0)), (1, .r (.arr 1 [iv a0.Objects, .fr 1 a0.From.length (a0.From.flatMap eI.o), .fr 1 a0.To.length (a0.To.flatMap eI.o), .fr 1 a0.Identity.length (a0.Identity.flatMap eI.o), .rs 1011 0 v1.toNat] [1011])), (2, .d (.fb f1 c1)), (8, .d (iv v1)), (2023, .r (.arr 1 (repl v1.toNat [.slice .none 0 0]) []))] (.cons h2.1 (.cons (Int.le_refl v1) (.cons h2.2 (.cons (Nat.le_of_ble_eq_true (n := 5) (m := 5) rfl) .nil)))) (by kernel_rfl) (by kernel_rfl) ?_
  refine Tr.by (imp_cvL (r := 1011) (sz := 1) (refs := []) (subl_repl (f := (eS eI).o) (zs := [.slice .none 0 0]) (z := ([] : List Int)) (.cons Sub.nil_fr .nil) v1.toNat) (repl_hl (by kernel_rfl)) (menO_flat (eS_ok eI_ok) _) (by kernel_rfl)) ?_
  refine Tr.by (imp_cvB (r := 0) (sz := 1) (cells := [iv a0.Objects, .fr 1 a0.From.length (a0.From.flatMap eI.o), .fr 1 a0.To.length (a0.To.flatMap eI.o), .fr 1 a0.Identity.length (a0.Identity.flatMap eI.o), .rs 1011 0 v1.toNat]) (cells' := [iv a0.Objects, .fr 1 a0.From.length (a0.From.flatMap eI.o), .fr 1 a0.To.length (a0.To.flatMap eI.o), .fr 1 a0.Identity.length (a0.Identity.flatMap eI.o), .rs 1011 0 ((List.replicate v1.toNat ([] : List Int)).length)]) (refs := [1011]) (refs' := [1011]) (.cons (.refl _) (.cons (.refl _) (.cons (.refl _) (.cons (.refl _) (.cons (Sub.of_eq (congrArg (D.rs 1011 0) (List.length_replicate.symm : v1.toNat = (List.replicate v1.toNat ([] : List Int)).length))) .nil))))) (by kernel_rfl) (by kernel_rfl) (by kernel_rfl)) ?_
  refine tr_sr hT hm [] [0, 1, 2, 8, 36, 38, 2023] [(0, .d (.rp 0 0)), (1, .r (.arr 1 [iv a0.Objects, .fr 1 a0.From.length (a0.From.flatMap eI.o), .fr 1 a0.To.length (a0.To.flatMap eI.o), .fr 1 a0.Identity.length (a0.Identity.flatMap eI.o), .rs 1011 0 ((List.replicate v1.toNat ([] : List Int)).length)] [1011])), (2, .d (.fb f1 c1)), (8, .d (iv v1)), (36, .d (iv ((List.replicate v1.toNat ([] : List Int)).length : Int))), (38, .d (iv 0)), (2023, .r (.arr 1 ((List.replicate v1.toNat ([] : List Int)).flatMap (eS eI).o) []))] .nil (by kernel_rfl) (by kernel_rfl) ?_
  refine tr_block ?_
  refine tr_iterS (fun (s3 : (List (List Int)) × Int) => [(0, .d (.rp 0 0)), (1, .r (.arr 1 [iv a0.Objects, .fr 1 a0.From.length (a0.From.flatMap eI.o), .fr 1 a0.To.length (a0.To.flatMap eI.o), .fr 1 a0.Identity.length (a0.Identity.flatMap eI.o), .rs 1011 0 s3.1.length] [1011])), (2, .d (.fb f1 c1)), (8, .d (iv v1)), (36, .d (iv ((List.replicate v1.toNat ([] : List Int)).length : Int))), (38, .d (iv s3.2)), (2023, .r (.arr 1 (s3.1.flatMap (eS eI).o) []))]) ((List.replicate v1.toNat ([] : List Int)), 0) [0, 1, 2, 8, 36, 38, 2023] (by kernel_rfl) hM ?_
  intro n6 next4 ih5 s3 hM
  refine tr_sr hT hm [] [0, 1, 2, 8, 36, 38, 40, 2023] [(0, .d (.rp 0 0)), (1, .r (.arr 1 [iv a0.Objects, .fr 1 a0.From.length (a0.From.flatMap eI.o), .fr 1 a0.To.length (a0.To.flatMap eI.o), .fr 1 a0.Identity.length (a0.Identity.flatMap eI.o), .rs 1011 0 s3.1.length] [1011])), (2, .d (.fb f1 c1)), (8, .d (iv v1)), (36, .d (iv ((List.replicate v1.toNat ([] : List Int)).length : Int))), (38, .d (iv s3.2)), (40, .d (bv (decide (s3.2 < ((List.replicate v1.toNat ([] : List Int)).length : Int))))), (2023, .r (.arr 1 (s3.1.flatMap (eS eI).o) []))] .nil (by kernel_rfl) (by kernel_rfl) ?_
  refine tr_seq ?_
  rcases Bool.eq_false_or_eq_true (decide (s3.2 < ((List.replicate v1.toNat ([] : List Int)).length : Int))) with h7 | h7
  · have hM := ite_true' hM h7
    refine tr_condTe (e := decide (s3.2 < ((List.replicate v1.toNat ([] : List Int)).length : Int))) h7 (by kernel_rfl) ?_
    refine tr_skip (q_n ?_)
    refine tr_seq ?_
    refine tr_block ?_
    refine tr_sr hT hm [] [0, 1, 2, 8, 10, 36, 38, 2023] [(0, .d (.rp 0 0)), (1, .r (.arr 1 [iv a0.Objects, .fr 1 a0.From.length (a0.From.flatMap eI.o), .fr 1 a0.To.length (a0.To.flatMap eI.o), .fr 1 a0.Identity.length (a0.Identity.flatMap eI.o), .rs 1011 0 s3.1.length] [1011])), (2, .d (.fb f1 c1)), (8, .d (iv v1)), (10, .d (iv s3.2)), (36, .d (iv ((List.replicate v1.toNat ([] : List Int)).length : Int))), (38, .d (iv s3.2)), (2023, .r (.arr 1 (s3.1.flatMap (eS eI).o) []))] .nil (by kernel_rfl) (by kernel_rfl) ?_
    obtain ⟨y8, hy8, hM⟩ := bind_some' hM
    have hy8' := idx_some hy8
    refine tr_sr hT hm [] [0, 1, 2, 8, 10, 36, 38, 2023, 2057] [(0, .d (.rp 0 0)), (1, .r (.arr 1 [iv a0.Objects, .fr 1 a0.From.length (a0.From.flatMap eI.o), .fr 1 a0.To.length (a0.To.flatMap eI.o), .fr 1 a0.Identity.length (a0.Identity.flatMap eI.o), .rs 1011 0 s3.1.length] [1011])), (2, .d (.fb f1 c1)), (8, .d (iv v1)), (10, .d (iv s3.2)), (36, .d (iv ((List.replicate v1.toNat ([] : List Int)).length : Int))), (38, .d (iv s3.2)), (2023, .r (.arr 1 ((s3.1.flatMap (eS eI).o).take (0 + s3.2.toNat * 1) ++ [.rs 1028 0 v1.toNat] ++ (s3.1.flatMap (eS eI).o).drop (0 + s3.2.toNat * 1 + 1)) [1028])), (2057, .r (.arr 1 (repl v1.toNat [.int .i64 0]) []))] (.cons h2.1 (.cons (Int.le_refl v1) (.cons h2.2 (.cons hy8'.1 (.cons hy8'.2.1 (.cons (store_le (eS_ok eI_ok) hy8'.2.2) .nil)))))) (by kernel_rfl) (by kernel_rfl) ?_
    refine Tr.by (imp_cvE (r := 1028) (sz := 1) (refs := []) (repl_flat (f := eI.o) (zs := [.int .i64 0]) (z := (0 : Int)) rfl v1.toNat) (menO_flat eI_ok _) (by kernel_rfl)) ?_
    refine Tr.by (imp_dem (r := 1011) (q := 1028) (sz := 1) (n := v1.toNat) (j := 0) (pre := (s3.1.flatMap (eS eI).o).take (0 + s3.2.toNat * 1)) (l := [.rs 1028 0 v1.toNat]) (post := (s3.1.flatMap (eS eI).o).drop (0 + s3.2.toNat * 1 + 1)) (refs := [1028]) (refs' := []) (menO_take (eS_ok eI_ok) _ _) (menO_drop (eS_ok eI_ok) _ _) (lenO_of eI_ok (List.replicate v1.toNat (0 : Int)) List.length_replicate) (by kernel_rfl) (by kernel_rfl) (by kernel_rfl) (by kernel_rfl) (by kernel_rfl)) ?_
    refine Tr.by (imp_cvE (r := 1011) (sz := 1) (refs := []) (set_flatF eI_ok (y := (List.replicate v1.toNat (0 : Int))) hy8'.2.2 List.length_replicate) (menO_flat (eS_ok eI_ok) _) (by kernel_rfl)) ?_
    refine Tr.by (imp_cvB (r := 0) (sz := 1) (cells := [iv a0.Objects, .fr 1 a0.From.length (a0.From.flatMap eI.o), .fr 1 a0.To.length (a0.To.flatMap eI.o), .fr 1 a0.Identity.length (a0.Identity.flatMap eI.o), .rs 1011 0 s3.1.length]) (cells' := [iv a0.Objects, .fr 1 a0.From.length (a0.From.flatMap eI.o), .fr 1 a0.To.length (a0.To.flatMap eI.o), .fr 1 a0.Identity.length (a0.Identity.flatMap eI.o), .rs 1011 0 ((s3.1.set s3.2.toNat (List.replicate v1.toNat (0 : Int))).length)]) (refs := [1011]) (refs' := [1011]) (.cons (.refl _) (.cons (.refl _) (.cons (.refl _) (.cons (.refl _) (.cons (Sub.of_eq (congrArg (D.rs 1011 0) (List.length_set.symm : s3.1.length = (s3.1.set s3.2.toNat (List.replicate v1.toNat (0 : Int))).length))) .nil))))) (by kernel_rfl) (by kernel_rfl) (by kernel_rfl)) ?_
    obtain ⟨y9, hy9, hM⟩ := bind_some' hM
    have hy9' := idx_some hy9
    refine Tr.by (imp_rowOut (r := 1011) (q := 700276) (i := s3.2) (xs := (s3.1.set s3.2.toNat (List.replicate v1.toNat (0 : Int)))) (e := eI) (eS_ok eI_ok) hy9'.2.2 (by kernel_rfl) (by kernel_rfl)) ?_
    refine tr_sr hT hm [(6, .val (.rs 700276 0 y9.length))] [0, 1, 2, 8, 10, 36, 38, 74, 76, 2023, 1400553] [(0, .d (.rp 0 0)), (1, .r (.arr 1 [iv a0.Objects, .fr 1 a0.From.length (a0.From.flatMap eI.o), .fr 1 a0.To.length (a0.To.flatMap eI.o), .fr 1 a0.Identity.length (a0.Identity.flatMap eI.o), .rs 1011 0 ((s3.1.set s3.2.toNat (List.replicate v1.toNat (0 : Int))).length)] [1011])), (2, .d (.fb f1 c1)), (8, .d (iv v1)), (10, .d (iv s3.2)), (36, .d (iv ((List.replicate v1.toNat ([] : List Int)).length : Int))), (38, .d (iv s3.2)), (74, .d (iv (y9.length : Int))), (76, .d (iv 0)), (2023, .r (.arr 1 (((s3.1.set s3.2.toNat (List.replicate v1.toNat (0 : Int))).flatMap (eS eI).o).set (0 + s3.2.toNat * 1) (.rs 700276 0 y9.length)) [700276])), (1400553, .r (.arr 1 (y9.flatMap eI.o) []))] (.cons hy9'.1 (.cons hy9'.2.1 (.cons (set_at (d := .rs 700276 0 y9.length) (lt_flat (eS_ok eI_ok) (by kernel_rfl) hy9'.2.2)) .nil))) (by kernel_rfl) (by kernel_rfl) ?_
    refine Tr.by (imp_rowSame (r := 1011) (q := 700276) (n := y9.length) (i := s3.2) (xs := (s3.1.set s3.2.toNat (List.replicate v1.toNat (0 : Int)))) (e := eI) (x := y9) eI_ok hy9'.2.2 rfl (by kernel_rfl) (by kernel_rfl) (by kernel_rfl)) ?_
    refine tr_block ?_
    refine tr_iterS (fun (s10 : (List (List Int)) × Int) => [(0, .d (.rp 0 0)), (1, .r (.arr 1 [iv a0.Objects, .fr 1 a0.From.length (a0.From.flatMap eI.o), .fr 1 a0.To.length (a0.To.flatMap eI.o), .fr 1 a0.Identity.length (a0.Identity.flatMap eI.o), .rs 1011 0 s10.1.length] [1011])), (2, .d (.fb f1 c1)), (8, .d (iv v1)), (10, .d (iv s3.2)), (36, .d (iv ((List.replicate v1.toNat ([] : List Int)).length : Int))), (38, .d (iv s3.2)), (74, .d (iv (y9.length : Int))), (76, .d (iv s10.2)), (2023, .r (.arr 1 (s10.1.flatMap (eS eI).o) []))]) (s3.1.set s3.2.toNat (List.replicate v1.toNat (0 : Int)), 0) [0, 1, 2, 8, 10, 36, 38, 74, 76, 2023] (by kernel_rfl) hM ?_
    intro n13 next11 ih12 s10 hM
    refine tr_sr hT hm [] [0, 1, 2, 8, 10, 36, 38, 74, 76, 78, 2023] [(0, .d (.rp 0 0)), (1, .r (.arr 1 [iv a0.Objects, .fr 1 a0.From.length (a0.From.flatMap eI.o), .fr 1 a0.To.length (a0.To.flatMap eI.o), .fr 1 a0.Identity.length (a0.Identity.flatMap eI.o), .rs 1011 0 s10.1.length] [1011])), (2, .d (.fb f1 c1)), (8, .d (iv v1)), (10, .d (iv s3.2)), (36, .d (iv ((List.replicate v1.toNat ([] : List Int)).length : Int))), (38, .d (iv s3.2)), (74, .d (iv (y9.length : Int))), (76, .d (iv s10.2)), (78, .d (bv (decide (s10.2 < (y9.length : Int))))), (2023, .r (.arr 1 (s10.1.flatMap (eS eI).o) []))] .nil (by kernel_rfl) (by kernel_rfl) ?_
    refine tr_seq ?_
    rcases Bool.eq_false_or_eq_true (decide (s10.2 < (y9.length : Int))) with h14 | h14
    · have hM := ite_true' hM h14
      refine tr_condTe (e := decide (s10.2 < (y9.length : Int))) h14 (by kernel_rfl) ?_
      refine tr_skip (q_n ?_)
      refine tr_seq ?_
      refine tr_block ?_
      refine tr_sr hT hm [] [0, 1, 2, 8, 10, 12, 36, 38, 74, 76, 2023] [(0, .d (.rp 0 0)), (1, .r (.arr 1 [iv a0.Objects, .fr 1 a0.From.length (a0.From.flatMap eI.o), .fr 1 a0.To.length (a0.To.flatMap eI.o), .fr 1 a0.Identity.length (a0.Identity.flatMap eI.o), .rs 1011 0 s10.1.length] [1011])), (2, .d (.fb f1 c1)), (8, .d (iv v1)), (10, .d (iv s3.2)), (12, .d (iv s10.2)), (36, .d (iv ((List.replicate v1.toNat ([] : List Int)).length : Int))), (38, .d (iv s3.2)), (74, .d (iv (y9.length : Int))), (76, .d (iv s10.2)), (2023, .r (.arr 1 (s10.1.flatMap (eS eI).o) []))] .nil (by kernel_rfl) (by kernel_rfl) ?_
      obtain ⟨y15, hy15, hM⟩ := bind_some' hM
      have hy15' := idx_some hy15
      refine Tr.by (imp_rowOut (r := 1011) (q := 700297) (i := s3.2) (xs := s10.1) (e := eI) (eS_ok eI_ok) hy15'.2.2 (by kernel_rfl) (by kernel_rfl)) ?_
      obtain ⟨y16, hy16, hM⟩ := bind_some' hM
      have hy16' := idx_some hy16
      refine tr_sr hT hm [(6, .val (.rs 700297 0 y15.length))] [0, 1, 2, 8, 10, 12, 36, 38, 74, 76, 2023, 1400595] [(0, .d (.rp 0 0)), (1, .r (.arr 1 [iv a0.Objects, .fr 1 a0.From.length (a0.From.flatMap eI.o), .fr 1 a0.To.length (a0.To.flatMap eI.o), .fr 1 a0.Identity.length (a0.Identity.flatMap eI.o), .rs 1011 0 s10.1.length] [1011])), (2, .d (.fb f1 c1)), (8, .d (iv v1)), (10, .d (iv s3.2)), (12, .d (iv s10.2)), (36, .d (iv ((List.replicate v1.toNat ([] : List Int)).length : Int))), (38, .d (iv s3.2)), (74, .d (iv (y9.length : Int))), (76, .d (iv s10.2)), (2023, .r (.arr 1 ((s10.1.flatMap (eS eI).o).set (0 + s3.2.toNat * 1) (.rs 700297 0 y15.length)) [700297])), (1400595, .r (.arr 1 ((y15.flatMap eI.o).take (0 + s10.2.toNat * 1) ++ [iv (-1)] ++ (y15.flatMap eI.o).drop (0 + s10.2.toNat * 1 + 1)) []))] (.cons hy15'.1 (.cons hy15'.2.1 (.cons (set_at (d := .rs 700297 0 y15.length) (lt_flat (eS_ok eI_ok) (by kernel_rfl) hy15'.2.2)) (.cons hy16'.1 (.cons hy16'.2.1 (.cons (store_le eI_ok hy16'.2.2) .nil)))))) (by kernel_rfl) (by kernel_rfl) ?_
      refine Tr.by (imp_cvE (r := 700297) (sz := 1) (refs := []) (set_flat eI_ok.lenO (y := (-1)) hy16'.2.2) (menO_flat eI_ok _) (by kernel_rfl)) ?_
      refine Tr.by (imp_rowBack (r := 1011) (q := 700297) (n := y15.length) (i := s3.2) (xs := s10.1) (e := eI) (x' := (y15.set s10.2.toNat (-1))) eI_ok hy15'.2.2 List.length_set.symm (by kernel_rfl) (by kernel_rfl) (by kernel_rfl)) ?_
      refine Tr.by (imp_cvB (r := 0) (sz := 1) (cells := [iv a0.Objects, .fr 1 a0.From.length (a0.From.flatMap eI.o), .fr 1 a0.To.length (a0.To.flatMap eI.o), .fr 1 a0.Identity.length (a0.Identity.flatMap eI.o), .rs 1011 0 s10.1.length]) (cells' := [iv a0.Objects, .fr 1 a0.From.length (a0.From.flatMap eI.o), .fr 1 a0.To.length (a0.To.flatMap eI.o), .fr 1 a0.Identity.length (a0.Identity.flatMap eI.o), .rs 1011 0 ((s10.1.set s3.2.toNat (y15.set s10.2.toNat (-1))).length)]) (refs := [1011]) (refs' := [1011]) (.cons (.refl _) (.cons (.refl _) (.cons (.refl _) (.cons (.refl _) (.cons (Sub.of_eq (congrArg (D.rs 1011 0) (List.length_set.symm : s10.1.length = (s10.1.set s3.2.toNat (y15.set s10.2.toNat (-1))).length))) .nil))))) (by kernel_rfl) (by kernel_rfl) (by kernel_rfl)) ?_
      refine Tr.by (imp_promote (r := 0) (i := 2) (q := 700298) (sz := 1) (sz' := 1) (n := a0.To.length) (cells := [iv a0.Objects, .fr 1 a0.From.length (a0.From.flatMap eI.o), .fr 1 a0.To.length (a0.To.flatMap eI.o), .fr 1 a0.Identity.length (a0.Identity.flatMap eI.o), .rs 1011 0 ((s10.1.set s3.2.toNat (y15.set s10.2.toNat (-1))).length)]) (ds := a0.To.flatMap eI.o) (refs := [1011]) (by kernel_rfl) (by kernel_rfl) (by kernel_rfl)) ?_
      obtain ⟨y17, hy17, hM⟩ := bind_some' hM
      have hy17' := idx_some hy17
      refine Tr.by (imp_promote (r := 0) (i := 1) (q := 700299) (sz := 1) (sz' := 1) (n := a0.From.length) (cells := [iv a0.Objects, .fr 1 a0.From.length (a0.From.flatMap eI.o), .rs 700298 0 a0.To.length, .fr 1 a0.Identity.length (a0.Identity.flatMap eI.o), .rs 1011 0 ((s10.1.set s3.2.toNat (y15.set s10.2.toNat (-1))).length)]) (ds := a0.From.flatMap eI.o) (refs := [700298, 1011]) (by kernel_rfl) (by kernel_rfl) (by kernel_rfl)) ?_
      obtain ⟨y18, hy18, hM⟩ := bind_some' hM
      have hy18' := idx_some hy18
      refine tr_sr hT hm [(6, .val (iv y17)), (13, .val (iv y18))] [0, 1, 2, 8, 10, 12, 36, 38, 74, 76, 128, 2023, 1400597, 1400599] [(0, .d (.rp 0 0)), (1, .r (.arr 1 [iv a0.Objects, .rs 700299 0 a0.From.length, .rs 700298 0 a0.To.length, .fr 1 a0.Identity.length (a0.Identity.flatMap eI.o), .rs 1011 0 ((s10.1.set s3.2.toNat (y15.set s10.2.toNat (-1))).length)] [700299, 700298, 1011])), (2, .d (.fb f1 c1)), (8, .d (iv v1)), (10, .d (iv s3.2)), (12, .d (iv s10.2)), (36, .d (iv ((List.replicate v1.toNat ([] : List Int)).length : Int))), (38, .d (iv s3.2)), (74, .d (iv (y9.length : Int))), (76, .d (iv s10.2)), (128, .d (bv (y17 == y18))), (2023, .r (.arr 1 ((s10.1.set s3.2.toNat (y15.set s10.2.toNat (-1))).flatMap (eS eI).o) [])), (1400597, .r (.arr 1 (a0.To.flatMap eI.o) [])), (1400599, .r (.arr 1 (a0.From.flatMap eI.o) []))] (.cons hy17'.1 (.cons hy17'.2.1 (.cons (at_o0 eI_ok hy17'.2.2 (d := iv y17) (by kernel_rfl)) (.cons hy18'.1 (.cons hy18'.2.1 (.cons (at_o0 eI_ok hy18'.2.2 (d := iv y18) (by kernel_rfl)) .nil)))))) (by kernel_rfl) (by kernel_rfl) ?_
      rcases Bool.eq_false_or_eq_true (y17 == y18) with h19 | h19
      · have hM := ite_true' hM h19
        refine tr_condTe (e := y17 == y18) h19 (by kernel_rfl) ?_
        obtain ⟨y20, hy20, hM⟩ := bind_some' hM
        have hy20' := idx_some hy20
        refine Tr.by (imp_rowOut (r := 1011) (q := 700300) (i := s3.2) (xs := (s10.1.set s3.2.toNat (y15.set s10.2.toNat (-1)))) (e := eI) (eS_ok eI_ok) hy20'.2.2 (by kernel_rfl) (by kernel_rfl)) ?_
        obtain ⟨v21, hv21, hM⟩ := bind_some' hM
        obtain ⟨y22, hy22, hM⟩ := bind_some' hM
        have hy22' := idx_some hy22
        refine tr_r hT hm [(6, .val (.rs 700300 0 y20.length)), (11, .call [] [] ([iv s3.2, iv s10.2] ++ c1) [] (iv v21))] [0, 1, 2, 8, 10, 36, 38, 74, 76, 2023, 1400597, 1400599, 1400601] [(0, .d (.rp 0 0)), (1, .r (.arr 1 [iv a0.Objects, .rs 700299 0 a0.From.length, .rs 700298 0 a0.To.length, .fr 1 a0.Identity.length (a0.Identity.flatMap eI.o), .rs 1011 0 ((s10.1.set s3.2.toNat (y15.set s10.2.toNat (-1))).length)] [700299, 700298, 1011])), (2, .d (.fb f1 c1)), (8, .d (iv v1)), (10, .d (iv s3.2)), (36, .d (iv ((List.replicate v1.toNat ([] : List Int)).length : Int))), (38, .d (iv s3.2)), (74, .d (iv (y9.length : Int))), (76, .d (iv s10.2)), (2023, .r (.arr 1 (((s10.1.set s3.2.toNat (y15.set s10.2.toNat (-1))).flatMap (eS eI).o).set (0 + s3.2.toNat * 1) (.rs 700300 0 y20.length)) [700300])), (1400597, .r (.arr 1 (a0.To.flatMap eI.o) [])), (1400599, .r (.arr 1 (a0.From.flatMap eI.o) [])), (1400601, .r (.arr 1 ((y20.flatMap eI.o).take (0 + s10.2.toNat * 1) ++ [iv v21] ++ (y20.flatMap eI.o).drop (0 + s10.2.toNat * 1 + 1)) []))] (.cons hy20'.1 (.cons hy20'.2.1 (.cons (set_at (d := .rs 700300 0 y20.length) (lt_flat (eS_ok eI_ok) (by kernel_rfl) hy20'.2.2)) (cc0 ok1_ (hf1 s3.2 s10.2 _ hv21) (menL_app rfl hm1) (.cons hy22'.1 (.cons hy22'.2.1 (.cons (store_le eI_ok hy22'.2.2) .nil))))))) (by kernel_rfl) (by kernel_rfl) (b_n (q_n ?_))
        refine Tr.by (imp_cvE (r := 700300) (sz := 1) (refs := []) (set_flat eI_ok.lenO (y := v21) hy22'.2.2) (menO_flat eI_ok _) (by kernel_rfl)) ?_
        refine Tr.by (imp_rowBack (r := 1011) (q := 700300) (n := y20.length) (i := s3.2) (xs := (s10.1.set s3.2.toNat (y15.set s10.2.toNat (-1)))) (e := eI) (x' := (y20.set s10.2.toNat v21)) eI_ok hy20'.2.2 List.length_set.symm (by kernel_rfl) (by kernel_rfl) (by kernel_rfl)) ?_
        refine Tr.by (imp_cvB (r := 0) (sz := 1) (cells := [iv a0.Objects, .rs 700299 0 a0.From.length, .rs 700298 0 a0.To.length, .fr 1 a0.Identity.length (a0.Identity.flatMap eI.o), .rs 1011 0 ((s10.1.set s3.2.toNat (y15.set s10.2.toNat (-1))).length)]) (cells' := [iv a0.Objects, .rs 700299 0 a0.From.length, .rs 700298 0 a0.To.length, .fr 1 a0.Identity.length (a0.Identity.flatMap eI.o), .rs 1011 0 (((s10.1.set s3.2.toNat (y15.set s10.2.toNat (-1))).set s3.2.toNat (y20.set s10.2.toNat v21)).length)]) (refs := [700299, 700298, 1011]) (refs' := [700299, 700298, 1011]) (.cons (.refl _) (.cons (.refl _) (.cons (.refl _) (.cons (.refl _) (.cons (Sub.of_eq (congrArg (D.rs 1011 0) (List.length_set.symm : (s10.1.set s3.2.toNat (y15.set s10.2.toNat (-1))).length = ((s10.1.set s3.2.toNat (y15.set s10.2.toNat (-1))).set s3.2.toNat (y20.set s10.2.toNat v21)).length))) .nil))))) (by kernel_rfl) (by kernel_rfl) (by kernel_rfl)) ?_
        refine tr_r hT hm [] [0, 1, 2, 8, 10, 36, 38, 74, 76, 2023, 1400597, 1400599] [(0, .d (.rp 0 0)), (1, .r (.arr 1 [iv a0.Objects, .rs 700299 0 a0.From.length, .rs 700298 0 a0.To.length, .fr 1 a0.Identity.length (a0.Identity.flatMap eI.o), .rs 1011 0 (((s10.1.set s3.2.toNat (y15.set s10.2.toNat (-1))).set s3.2.toNat (y20.set s10.2.toNat v21)).length)] [700299, 700298, 1011])), (2, .d (.fb f1 c1)), (8, .d (iv v1)), (10, .d (iv s3.2)), (36, .d (iv ((List.replicate v1.toNat ([] : List Int)).length : Int))), (38, .d (iv s3.2)), (74, .d (iv (y9.length : Int))), (76, .d (iv (IntKind.i64.wrap (s10.2 + 1)))), (2023, .r (.arr 1 (((s10.1.set s3.2.toNat (y15.set s10.2.toNat (-1))).set s3.2.toNat (y20.set s10.2.toNat v21)).flatMap (eS eI).o) [])), (1400597, .r (.arr 1 (a0.To.flatMap eI.o) [])), (1400599, .r (.arr 1 (a0.From.flatMap eI.o) []))] .nil (by kernel_rfl) (by kernel_rfl) (l_n ?_)
        refine TrL.by (imp_dem (r := 0) (q := 700299) (sz := 1) (n := a0.From.length) (j := 1) (pre := []) (l := [iv a0.Objects, .rs 700299 0 a0.From.length, .rs 700298 0 a0.To.length, .fr 1 a0.Identity.length (a0.Identity.flatMap eI.o), .rs 1011 0 (((s10.1.set s3.2.toNat (y15.set s10.2.toNat (-1))).set s3.2.toNat (y20.set s10.2.toNat v21)).length)]) (post := []) (refs := [700299, 700298, 1011]) (refs' := [700298, 1011]) rfl rfl (lenO_flat eI_ok a0.From) (by kernel_rfl) (by kernel_rfl) (by kernel_rfl) (by kernel_rfl) (by kernel_rfl)) ?_
        refine TrL.by (imp_dem (r := 0) (q := 700298) (sz := 1) (n := a0.To.length) (j := 2) (pre := []) (l := [iv a0.Objects, .fr 1 a0.From.length (a0.From.flatMap eI.o), .rs 700298 0 a0.To.length, .fr 1 a0.Identity.length (a0.Identity.flatMap eI.o), .rs 1011 0 (((s10.1.set s3.2.toNat (y15.set s10.2.toNat (-1))).set s3.2.toNat (y20.set s10.2.toNat v21)).length)]) (post := []) (refs := [700298, 1011]) (refs' := [1011]) rfl rfl (lenO_flat eI_ok a0.To) (by kernel_rfl) (by kernel_rfl) (by kernel_rfl) (by kernel_rfl) (by kernel_rfl)) ?_
        exact trl_start (ks := [0, 1, 2, 8, 10, 36, 38, 74, 76, 2023]) (by kernel_rfl) (ih12 ((s10.1.set s3.2.toNat (y15.set s10.2.toNat (-1))).set s3.2.toNat (y20.set s10.2.toNat v21), IntKind.i64.wrap (s10.2 + 1)) hM)
      · have hM := ite_false' hM h19
        refine tr_condFe (e := y17 == y18) h19 (by kernel_rfl) ?_
        refine tr_skip (b_n (q_n ?_))
        refine tr_r hT hm [] [0, 1, 2, 8, 10, 36, 38, 74, 76, 2023, 1400597, 1400599] [(0, .d (.rp 0 0)), (1, .r (.arr 1 [iv a0.Objects, .rs 700299 0 a0.From.length, .rs 700298 0 a0.To.length, .fr 1 a0.Identity.length (a0.Identity.flatMap eI.o), .rs 1011 0 ((s10.1.set s3.2.toNat (y15.set s10.2.toNat (-1))).length)] [700299, 700298, 1011])), (2, .d (.fb f1 c1)), (8, .d (iv v1)), (10, .d (iv s3.2)), (36, .d (iv ((List.replicate v1.toNat ([] : List Int)).length : Int))), (38, .d (iv s3.2)), (74, .d (iv (y9.length : Int))), (76, .d (iv (IntKind.i64.wrap (s10.2 + 1)))), (2023, .r (.arr 1 ((s10.1.set s3.2.toNat (y15.set s10.2.toNat (-1))).flatMap (eS eI).o) [])), (1400597, .r (.arr 1 (a0.To.flatMap eI.o) [])), (1400599, .r (.arr 1 (a0.From.flatMap eI.o) []))] .nil (by kernel_rfl) (by kernel_rfl) (l_n ?_)
        refine TrL.by (imp_dem (r := 0) (q := 700299) (sz := 1) (n := a0.From.length) (j := 1) (pre := []) (l := [iv a0.Objects, .rs 700299 0 a0.From.length, .rs 700298 0 a0.To.length, .fr 1 a0.Identity.length (a0.Identity.flatMap eI.o), .rs 1011 0 ((s10.1.set s3.2.toNat (y15.set s10.2.toNat (-1))).length)]) (post := []) (refs := [700299, 700298, 1011]) (refs' := [700298, 1011]) rfl rfl (lenO_flat eI_ok a0.From) (by kernel_rfl) (by kernel_rfl) (by kernel_rfl) (by kernel_rfl) (by kernel_rfl)) ?_
        refine TrL.by (imp_dem (r := 0) (q := 700298) (sz := 1) (n := a0.To.length) (j := 2) (pre := []) (l := [iv a0.Objects, .fr 1 a0.From.length (a0.From.flatMap eI.o), .rs 700298 0 a0.To.length, .fr 1 a0.Identity.length (a0.Identity.flatMap eI.o), .rs 1011 0 ((s10.1.set s3.2.toNat (y15.set s10.2.toNat (-1))).length)]) (post := []) (refs := [700298, 1011]) (refs' := [1011]) rfl rfl (lenO_flat eI_ok a0.To) (by kernel_rfl) (by kernel_rfl) (by kernel_rfl) (by kernel_rfl) (by kernel_rfl)) ?_
        exact trl_start (ks := [0, 1, 2, 8, 10, 36, 38, 74, 76, 2023]) (by kernel_rfl) (ih12 (s10.1.set s3.2.toNat (y15.set s10.2.toNat (-1)), IntKind.i64.wrap (s10.2 + 1)) hM)
    · have hM := ite_false' hM h14
      refine tr_condFe (e := decide (s10.2 < (y9.length : Int))) h14 (by kernel_rfl) ?_
      refine tr_exit (q_x (l_x (b_h (b_n (q_n ?_)))))
      refine tr_r hT hm [] [0, 1, 2, 8, 36, 38, 2023] [(0, .d (.rp 0 0)), (1, .r (.arr 1 [iv a0.Objects, .fr 1 a0.From.length (a0.From.flatMap eI.o), .fr 1 a0.To.length (a0.To.flatMap eI.o), .fr 1 a0.Identity.length (a0.Identity.flatMap eI.o), .rs 1011 0 s10.1.length] [1011])), (2, .d (.fb f1 c1)), (8, .d (iv v1)), (36, .d (iv ((List.replicate v1.toNat ([] : List Int)).length : Int))), (38, .d (iv (IntKind.i64.wrap (s3.2 + 1)))), (2023, .r (.arr 1 (s10.1.flatMap (eS eI).o) []))] .nil (by kernel_rfl) (by kernel_rfl) (l_n ?_)
      exact trl_start (ks := [0, 1, 2, 8, 36, 38, 2023]) (by kernel_rfl) (ih5 (s10.1, IntKind.i64.wrap (s3.2 + 1)) hM)
  · have hM := ite_false' hM h7
    refine tr_condFe (e := decide (s3.2 < ((List.replicate v1.toNat ([] : List Int)).length : Int))) h7 (by kernel_rfl) ?_
    refine tr_exit (q_x (l_x (b_h (rg_n ?_))))
    refine RetG.by (imp_dem (r := 0) (q := 1011) (sz := 1) (n := s3.1.length) (j := 4) (pre := []) (l := [iv a0.Objects, .fr 1 a0.From.length (a0.From.flatMap eI.o), .fr 1 a0.To.length (a0.To.flatMap eI.o), .fr 1 a0.Identity.length (a0.Identity.flatMap eI.o), .rs 1011 0 s3.1.length]) (post := []) (refs := [1011]) (refs' := []) rfl rfl (lenO_flat (eS_ok eI_ok) s3.1) (by kernel_rfl) (by kernel_rfl) (by kernel_rfl) (by kernel_rfl) (by kernel_rfl)) ?_
    obtain rfl := Option.some.inj hM
    exact retg (names := [0]) .nil (by kernel_rfl)

theorem ok187 : CallOk Try.prog 187 := callOk_of Try.func187 (by kernel_rfl) (by kernel_rfl)
theorem impl_clones_c (a0 : List (List Int)) (r : (List (List Int))) (hM : M.impl_clones a0 = some r) :
    FnC Try.prog 187 [] [.sl a0.length 0 (a0.flatMap (eS eI).b)] [] (.fr 1 r.length (r.flatMap (eS eI).o)) := by
  refine fnc_startG (N := 22) (np := 500) hT Try.func187 rfl rfl (by kernel_rfl) ?_
  unfold M.impl_clones at hM
  refine tr_start (ks := [0]) (st' := [(0, .d (.sl a0.length 0 (a0.flatMap (eS eI).b)))]) (by kernel_rfl) ?_
  refine tr_sr hT hm [] [0] [(0, .d (.sl a0.length 0 (a0.flatMap (eS eI).b)))] .nil (by kernel_rfl) (by kernel_rfl) ?_
  obtain ⟨h1, hM⟩ := chk_some hM
  refine tr_sr hT hm [] [0, 6, 2017] [(0, .d (.sl a0.length 0 (a0.flatMap (eS eI).b))), (6, .d (.rs 1008 0 (([] : List (List Int)).length))), (2017, .r (.arr 1 (([] : List (List Int)).flatMap (eS eI).o) []))] (.cons (Int.le_refl 0) (.cons h1.1 (.cons h1.2 .nil))) (by kernel_rfl) (by kernel_rfl) ?_
  refine tr_seq ?_
  refine tr_sr hT hm [] [6, 18, 20, 22, 2017] [(6, .d (.rs 1008 0 (([] : List (List Int)).length))), (18, .d (.sl a0.length 0 (a0.flatMap (eS eI).b))), (20, .d (iv (a0.length : Int))), (22, .d (iv 0)), (2017, .r (.arr 1 (([] : List (List Int)).flatMap (eS eI).o) []))] .nil (by kernel_rfl) (by kernel_rfl) ?_
  refine tr_block ?_
  refine tr_iterS (fun (s2 : (List (List Int)) × Int) => [(6, .d (.rs 1008 0 s2.1.length)), (18, .d (.sl a0.length 0 (a0.flatMap (eS eI).b))), (20, .d (iv (a0.length : Int))), (22, .d (iv s2.2)), (2017, .r (.arr 1 (s2.1.flatMap (eS eI).o) []))]) (([] : List (List Int)), 0) [6, 18, 20, 22, 2017] (by kernel_rfl) hM ?_
  intro n5 next3 ih4 s2 hM
  refine tr_sr hT hm [] [6, 18, 20, 22, 24, 2017] [(6, .d (.rs 1008 0 s2.1.length)), (18, .d (.sl a0.length 0 (a0.flatMap (eS eI).b))), (20, .d (iv (a0.length : Int))), (22, .d (iv s2.2)), (24, .d (bv (decide (s2.2 < (a0.length : Int))))), (2017, .r (.arr 1 (s2.1.flatMap (eS eI).o) []))] .nil (by kernel_rfl) (by kernel_rfl) ?_
  refine tr_seq ?_
  rcases Bool.eq_false_or_eq_true (decide (s2.2 < (a0.length : Int))) with h6 | h6
  · have hM := ite_true' hM h6
    refine tr_condTe (e := decide (s2.2 < (a0.length : Int))) h6 (by kernel_rfl) ?_
    refine tr_skip (q_n ?_)
    refine tr_seq ?_
    refine tr_block ?_
    obtain ⟨y7, hy7, hM⟩ := bind_some' hM
    have hy7' := idx_some hy7
    refine tr_sr hT hm [(1, .val (.sl y7.length 0 (y7.flatMap eI.b)))] [6, 10, 18, 20, 22, 2017] [(6, .d (.rs 1008 0 s2.1.length)), (10, .d (.sl y7.length 0 (y7.flatMap eI.b))), (18, .d (.sl a0.length 0 (a0.flatMap (eS eI).b))), (20, .d (iv (a0.length : Int))), (22, .d (iv s2.2)), (2017, .r (.arr 1 (s2.1.flatMap (eS eI).o) []))] (.cons hy7'.1 (.cons hy7'.2.1 (.cons (at_b0 (eS_ok eI_ok) hy7'.2.2 (d := .sl y7.length 0 (y7.flatMap eI.b)) (by kernel_rfl)) .nil))) (by kernel_rfl) (by kernel_rfl) ?_
    obtain ⟨v8, hv8, hM⟩ := bind_some' hM
    obtain ⟨h9, hM⟩ := chk_some hM
    refine tr_r hT hm [(2, .call [] [] [.sl y7.length 0 (y7.flatMap eI.b)] [] (.fr 1 v8.length (v8.flatMap eI.o))), (4, .app true)] [6, 18, 20, 22, 2039, 38001] [(6, .d (.rs 1019 0 (s2.1.length + 1))), (18, .d (.sl a0.length 0 (a0.flatMap (eS eI).b))), (20, .d (iv (a0.length : Int))), (22, .d (iv s2.2)), (2039, .r (.arr 1 (s2.1.flatMap (eS eI).o ++ [.rs 19000 0 v8.length]) [19000])), (38001, .r (.arr 1 (v8.flatMap eI.o) []))] (cc0 ok169 (impl_clone_c y7 _ hv8) (by kernel_rfl) (.cons (lenO_flat (eS_ok eI_ok) s2.1) (.cons (by kernel_rfl : ([.rs 19000 0 v8.length] : List D).length = 1 * 1) (.cons h9 .nil)))) (by kernel_rfl) (by kernel_rfl) (b_n (q_n ?_))
    refine Tr.by (imp_demE (r := 1019) (q := 19000) (sz := 1) (n := v8.length) (j := 0) (pre := s2.1.flatMap (eS eI).o) (l := [.rs 19000 0 v8.length]) (refs := [19000]) (refs' := []) (menO_flat (eS_ok eI_ok) _) (lenO_flat eI_ok v8) (by kernel_rfl) (by kernel_rfl) (by kernel_rfl) (by kernel_rfl) (by kernel_rfl)) ?_
    refine Tr.by (imp_cvE (r := 1019) (sz := 1) (refs := []) (flat_snoc (eS eI).o s2.1 v8) (menO_flat (eS_ok eI_ok) _) (by kernel_rfl)) ?_
    refine Tr.by (imp_cvD (k := 6) (congrArg (D.rs 1019 0) ((len_snoc s2.1 v8) : s2.1.length + 1 = (s2.1 ++ [v8]).length)) (by kernel_rfl)) ?_
    refine tr_r hT hm [] [6, 18, 20, 22, 2039] [(6, .d (.rs 1019 0 ((s2.1 ++ [v8]).length))), (18, .d (.sl a0.length 0 (a0.flatMap (eS eI).b))), (20, .d (iv (a0.length : Int))), (22, .d (iv (IntKind.i64.wrap (s2.2 + 1)))), (2039, .r (.arr 1 ((s2.1 ++ [v8]).flatMap (eS eI).o) []))] .nil (by kernel_rfl) (by kernel_rfl) (l_n ?_)
    refine TrL.by (imp_sel (ks := [6, 18, 20, 22, 2039]) (st' := [(6, .d (.rs 1019 0 ((s2.1 ++ [v8]).length))), (18, .d (.sl a0.length 0 (a0.flatMap (eS eI).b))), (20, .d (iv (a0.length : Int))), (22, .d (iv (IntKind.i64.wrap (s2.2 + 1)))), (2039, .r (.arr 1 ((s2.1 ++ [v8]).flatMap (eS eI).o) []))]) (by kernel_rfl)) ?_
    refine TrL.by (imp_rename (r := 1019) (q := 1008) (by kernel_rfl) (Nat.le_of_ble_eq_true rfl)) ?_
    exact trl_start (ks := [6, 18, 20, 22, 2017]) (by kernel_rfl) (ih4 (s2.1 ++ [v8], IntKind.i64.wrap (s2.2 + 1)) hM)
  · have hM := ite_false' hM h6
    refine tr_condFe (e := decide (s2.2 < (a0.length : Int))) h6 (by kernel_rfl) ?_
    refine tr_exit (q_x (l_x (b_h (q_n ?_))))
    refine tr_sr hT hm [] [4, 2017] [(4, .d (.rs 1008 0 s2.1.length)), (2017, .r (.arr 1 (s2.1.flatMap (eS eI).o) []))] .nil (by kernel_rfl) (by kernel_rfl) ?_
    refine tr_ret (rg_r ?_)
    obtain rfl := Option.some.inj hM
    exact retg (names := []) (.cons (lenO_flat (eS_ok eI_ok) s2.1) .nil) (by kernel_rfl)

theorem ok180 : CallOk Try.prog 180 := callOk_of Try.func180 (by kernel_rfl) (by kernel_rfl)
theorem impl_Category_copy_c (a0 : XCategory) (r : XCategory) (hM : M.impl_Category_copy a0 = some r) :
    FnC Try.prog 180 [] [.pt (eXCategory.b a0) 0] [] (.agg (eXCategory.o r)) := by
  refine fnc_startG (N := 28) (np := 500) hT Try.func180 rfl rfl (by kernel_rfl) ?_
  unfold M.impl_Category_copy at hM
  refine tr_start (ks := [0]) (st' := [(0, .d (.pt (eXCategory.b a0) 0))]) (by kernel_rfl) ?_
  refine tr_sr hT hm [] [0, 4, 2005] [(0, .d (.pt (eXCategory.b a0) 0)), (4, .d (.rp 1002 0)), (2005, .r (.arr 1 [iv 0, nilv, nilv, nilv, nilv] []))] .nil (by kernel_rfl) (by kernel_rfl) ?_
  obtain ⟨v1, hv1, hM⟩ := bind_some' hM
  obtain ⟨v2, hv2, hM⟩ := bind_some' hM
  obtain ⟨v3, hv3, hM⟩ := bind_some' hM
  obtain ⟨v4, hv4, hM⟩ := bind_some' hM
  refine tr_sr hT hm [(8, .call [] [] [.sl a0.From.length 0 (a0.From.flatMap eI.b)] [] (.fr 1 v1.length (v1.flatMap eI.o))), (13, .call [] [] [.sl a0.To.length 0 (a0.To.flatMap eI.b)] [] (.fr 1 v2.length (v2.flatMap eI.o))), (18, .call [] [] [.sl a0.Identity.length 0 (a0.Identity.flatMap eI.b)] [] (.fr 1 v3.length (v3.flatMap eI.o))), (23, .call [] [] [.sl a0.Composites.length 0 (a0.Composites.flatMap (eS eI).b)] [] (.fr 1 v4.length (v4.flatMap (eS eI).o)))] [4, 2005, 26001, 36001, 46001, 56001] [(4, .d (.rp 1002 0)), (2005, .r (.arr 1 [iv a0.Objects, .rs 13000 0 v1.length, .rs 18000 0 v2.length, .rs 23000 0 v3.length, .rs 28000 0 v4.length] [13000, 18000, 23000, 28000])), (26001, .r (.arr 1 (v1.flatMap eI.o) [])), (36001, .r (.arr 1 (v2.flatMap eI.o) [])), (46001, .r (.arr 1 (v3.flatMap eI.o) [])), (56001, .r (.arr 1 (v4.flatMap (eS eI).o) []))] (cc0 ok169 (impl_clone_c a0.From _ hv1) (by kernel_rfl) (cc0 ok169 (impl_clone_c a0.To _ hv2) (by kernel_rfl) (cc0 ok169 (impl_clone_c a0.Identity _ hv3) (by kernel_rfl) (cc0 ok187 (impl_clones_c a0.Composites _ hv4) (by kernel_rfl) (.cons (Nat.le_of_ble_eq_true (n := 5) (m := 5) rfl) .nil))))) (by kernel_rfl) (by kernel_rfl) ?_
  refine tr_ret (rg_r ?_)
  obtain rfl := Option.some.inj hM
  exact retg (names := []) (.cons (lenO_flat eI_ok v1) (.cons (lenO_flat eI_ok v2) (.cons (lenO_flat eI_ok v3) (.cons (lenO_flat (eS_ok eI_ok) v4) .nil)))) (by kernel_rfl)

theorem ok114 : CallOk Try.prog 114 := callOk_of Try.func114 (by kernel_rfl) (by kernel_rfl)
theorem impl_functor_c (a0 : XCategory) (a1 : XCategory) (a2 : List Int) (a3 : List Int) (r : XFunctor) (hM : M.impl_functor a0 a1 a2 a3 = some r) :
    FnC Try.prog 114 [] [.pt (eXCategory.b a0) 0, .pt (eXCategory.b a1) 0, .sl a2.length 0 (a2.flatMap eI.b), .sl a3.length 0 (a3.flatMap eI.b)] [] (.agg (eXFunctor.o r)) := by
  refine fnc_startG (N := 18) (np := 500) hT Try.func114 rfl rfl (by kernel_rfl) ?_
  unfold M.impl_functor at hM
  refine tr_start (ks := [0, 2, 4, 6]) (st' := [(0, .d (.pt (eXCategory.b a0) 0)), (2, .d (.pt (eXCategory.b a1) 0)), (4, .d (.sl a2.length 0 (a2.flatMap eI.b))), (6, .d (.sl a3.length 0 (a3.flatMap eI.b)))]) (by kernel_rfl) ?_
  refine tr_sr hT hm [] [0, 2, 4, 6, 16, 2017] [(0, .d (.pt (eXCategory.b a0) 0)), (2, .d (.pt (eXCategory.b a1) 0)), (4, .d (.sl a2.length 0 (a2.flatMap eI.b))), (6, .d (.sl a3.length 0 (a3.flatMap eI.b))), (16, .d (.rp 1008 0)), (2017, .r (.arr 1 [iv 0, nilv, nilv, nilv, nilv, iv 0, nilv, nilv, nilv, nilv, nilv, nilv] []))] .nil (by kernel_rfl) (by kernel_rfl) ?_
  obtain ⟨v1, hv1, hM⟩ := bind_some' hM
  obtain ⟨v2, hv2, hM⟩ := bind_some' hM
  obtain ⟨v3, hv3, hM⟩ := bind_some' hM
  obtain ⟨v4, hv4, hM⟩ := bind_some' hM
  refine tr_sr hT hm [(1, .call [] [] [.pt (eXCategory.b a0) 0] [] (.agg (eXCategory.o v1))), (3, .call [] [] [.pt (eXCategory.b a1) 0] [] (.agg (eXCategory.o v2))), (5, .call [] [] [.sl a2.length 0 (a2.flatMap eI.b)] [] (.fr 1 v3.length (v3.flatMap eI.o))), (7, .call [] [] [.sl a3.length 0 (a3.flatMap eI.b)] [] (.fr 1 v4.length (v4.flatMap eI.o)))] [16, 2017, 24003, 24005, 24007, 24009, 28003, 28005, 28007, 28009, 32001, 36001] ([(16, .d (.rp 1008 0)), (2017, .r (.arr 1 [iv v1.Objects, .rs 12001 0 v1.From.length, .rs 12002 0 v1.To.length, .rs 12003 0 v1.Identity.length, .rs 12004 0 v1.Composites.length, iv v2.Objects, .rs 14001 0 v2.From.length, .rs 14002 0 v2.To.length, .rs 14003 0 v2.Identity.length, .rs 14004 0 v2.Composites.length, .rs 16000 0 v3.length, .rs 18000 0 v4.length] [12001, 12002, 12003, 12004, 14001, 14002, 14003, 14004, 16000, 18000]))] ++ rsS 12000 (eXCategory.o v1) ++ rsS 14000 (eXCategory.o v2) ++ [(32001, .r (.arr 1 (v3.flatMap eI.o) [])), (36001, .r (.arr 1 (v4.flatMap eI.o) []))]) (cc0 ok180 (impl_Category_copy_c a0 _ hv1) (by kernel_rfl) (cc0 ok180 (impl_Category_copy_c a1 _ hv2) (by kernel_rfl) (cc0 ok169 (impl_clone_c a2 _ hv3) (by kernel_rfl) (cc0 ok169 (impl_clone_c a3 _ hv4) (by kernel_rfl) (.cons (Nat.le_of_ble_eq_true (n := 12) (m := 12) rfl) .nil))))) (by kernel_rfl) (by kernel_rfl) ?_
  refine tr_ret (rg_r ?_)
  obtain rfl := Option.some.inj hM
  exact retg (names := []) (.cons (lenO_flat eI_ok v1.From) (.cons (lenO_flat eI_ok v1.To) (.cons (lenO_flat eI_ok v1.Identity) (.cons (lenO_flat (eS_ok eI_ok) v1.Composites) (.cons (lenO_flat eI_ok v2.From) (.cons (lenO_flat eI_ok v2.To) (.cons (lenO_flat eI_ok v2.Identity) (.cons (lenO_flat (eS_ok eI_ok) v2.Composites) (.cons (lenO_flat eI_ok v3) (.cons (lenO_flat eI_ok v4) .nil)))))))))) (by kernel_rfl)

theorem ok65 : CallOk Try.prog 65 := callOk_of Try.func65 (by kernel_rfl) (by kernel_rfl)
theorem laws_eqInt64S_c (a0 : List Int) (a1 : List Int) (r : Bool) (hM : M.laws_eqInt64S a0 a1 = some r) :
    FnC Try.prog 65 [] [.sl a0.length 0 (a0.flatMap eI.b), .sl a1.length 0 (a1.flatMap eI.b)] [] (bv r) := by
  refine fnc_startG (N := 26) (np := 500) hT Try.func65 rfl rfl (by kernel_rfl) ?_
  unfold M.laws_eqInt64S at hM
  refine tr_start (ks := [0, 2]) (st' := [(0, .d (.sl a0.length 0 (a0.flatMap eI.b))), (2, .d (.sl a1.length 0 (a1.flatMap eI.b)))]) (by kernel_rfl) ?_
  refine tr_sr hT hm [] [0, 2] [(0, .d (.sl a0.length 0 (a0.flatMap eI.b))), (2, .d (.sl a1.length 0 (a1.flatMap eI.b)))] .nil (by kernel_rfl) (by kernel_rfl) ?_
  refine tr_seq ?_
  refine tr_sr hT hm [] [0, 2, 20] [(0, .d (.sl a0.length 0 (a0.flatMap eI.b))), (2, .d (.sl a1.length 0 (a1.flatMap eI.b))), (20, .d (bv ((a0.length : Int) != (a1.length : Int))))] .nil (by kernel_rfl) (by kernel_rfl) ?_
  rcases Bool.eq_false_or_eq_true ((a0.length : Int) != (a1.length : Int)) with h1 | h1
  · have hM := ite_true' hM h1
    refine tr_condTe (e := (a0.length : Int) != (a1.length : Int)) h1 (by kernel_rfl) ?_
    refine tr_sr hT hm [] [8] [(8, .d (bv false))] .nil (by kernel_rfl) (by kernel_rfl) ?_
    refine tr_ret (q_r (rg_r ?_))
    obtain rfl := Option.some.inj hM
    exact retg (names := []) .nil (by kernel_rfl)
  · have hM := ite_false' hM h1
    refine tr_condFe (e := (a0.length : Int) != (a1.length : Int)) h1 (by kernel_rfl) ?_
    refine tr_skip (q_n ?_)
    refine tr_seq ?_
    refine tr_sr hT hm [] [0, 2, 10] [(0, .d (.sl a0.length 0 (a0.flatMap eI.b))), (2, .d (.sl a1.length 0 (a1.flatMap eI.b))), (10, .d (iv 0))] .nil (by kernel_rfl) (by kernel_rfl) ?_
    refine tr_block ?_
    refine tr_iterS (fun (s2 : Int) => [(0, .d (.sl a0.length 0 (a0.flatMap eI.b))), (2, .d (.sl a1.length 0 (a1.flatMap eI.b))), (10, .d (iv s2))]) 0 [0, 2, 10] (by kernel_rfl) hM ?_
    intro n5 next3 ih4 s2 hM
    refine tr_seq ?_
    refine tr_sr hT hm [] [0, 2, 10, 28] [(0, .d (.sl a0.length 0 (a0.flatMap eI.b))), (2, .d (.sl a1.length 0 (a1.flatMap eI.b))), (10, .d (iv s2)), (28, .d (bv (decide (s2 < (a0.length : Int)))))] .nil (by kernel_rfl) (by kernel_rfl) ?_
    rcases Bool.eq_false_or_eq_true (decide (s2 < (a0.length : Int))) with h6 | h6
    · have hM := ite_true' hM h6
      refine tr_condTe (e := decide (s2 < (a0.length : Int))) h6 (by kernel_rfl) ?_
      refine tr_skip (q_n ?_)
      refine tr_seq ?_
      refine tr_block ?_
      obtain ⟨y7, hy7, hM⟩ := bind_some' hM
      have hy7' := idx_some hy7
      obtain ⟨y8, hy8, hM⟩ := bind_some' hM
      have hy8' := idx_some hy8
      refine tr_sr hT hm [(3, .val (iv y7)), (7, .val (iv y8))] [0, 2, 10, 50] [(0, .d (.sl a0.length 0 (a0.flatMap eI.b))), (2, .d (.sl a1.length 0 (a1.flatMap eI.b))), (10, .d (iv s2)), (50, .d (bv (y7 != y8)))] (.cons hy7'.1 (.cons hy7'.2.1 (.cons (at_b0 eI_ok hy7'.2.2 (d := iv y7) (by kernel_rfl)) (.cons hy8'.1 (.cons hy8'.2.1 (.cons (at_b0 eI_ok hy8'.2.2 (d := iv y8) (by kernel_rfl)) .nil)))))) (by kernel_rfl) (by kernel_rfl) ?_
      rcases Bool.eq_false_or_eq_true (y7 != y8) with h9 | h9
      · have hM := ite_true' hM h9
        refine tr_condTe (e := y7 != y8) h9 (by kernel_rfl) ?_
        refine tr_sr hT hm [] [8] [(8, .d (bv false))] .nil (by kernel_rfl) (by kernel_rfl) ?_
        refine tr_ret (b_r (q_r (l_r (b_r (q_r (rg_r ?_))))))
        obtain rfl := Option.some.inj hM
        exact retg (names := []) .nil (by kernel_rfl)
      · have hM := ite_false' hM h9
        refine tr_condFe (e := y7 != y8) h9 (by kernel_rfl) ?_
        refine tr_skip (b_n (q_n ?_))
        refine tr_r hT hm [] [0, 2, 10] [(0, .d (.sl a0.length 0 (a0.flatMap eI.b))), (2, .d (.sl a1.length 0 (a1.flatMap eI.b))), (10, .d (iv (IntKind.i64.wrap (s2 + 1))))] .nil (by kernel_rfl) (by kernel_rfl) (l_n ?_)
        exact trl_start (ks := [0, 2, 10]) (by kernel_rfl) (ih4 (IntKind.i64.wrap (s2 + 1)) hM)
    · have hM := ite_false' hM h6
      refine tr_condFe (e := decide (s2 < (a0.length : Int))) h6 (by kernel_rfl) ?_
      refine tr_exit (q_x (l_x (b_h (q_n ?_))))
      refine tr_sr hT hm [] [8] [(8, .d (bv true))] .nil (by kernel_rfl) (by kernel_rfl) ?_
      refine tr_ret (rg_r ?_)
      obtain rfl := Option.some.inj hM
      exact retg (names := []) .nil (by kernel_rfl)

theorem ok66 : CallOk Try.prog 66 := callOk_of Try.func66 (by kernel_rfl) (by kernel_rfl)
theorem laws_eqInt64SS_c (a0 : List (List Int)) (a1 : List (List Int)) (r : Bool) (hM : M.laws_eqInt64SS a0 a1 = some r) :
    FnC Try.prog 66 [] [.sl a0.length 0 (a0.flatMap (eS eI).b), .sl a1.length 0 (a1.flatMap (eS eI).b)] [] (bv r) := by
  refine fnc_startG (N := 27) (np := 500) hT Try.func66 rfl rfl (by kernel_rfl) ?_
  unfold M.laws_eqInt64SS at hM
  refine tr_start (ks := [0, 2]) (st' := [(0, .d (.sl a0.length 0 (a0.flatMap (eS eI).b))), (2, .d (.sl a1.length 0 (a1.flatMap (eS eI).b)))]) (by kernel_rfl) ?_
  refine tr_sr hT hm [] [0, 2] [(0, .d (.sl a0.length 0 (a0.flatMap (eS eI).b))), (2, .d (.sl a1.length 0 (a1.flatMap (eS eI).b)))] .nil (by kernel_rfl) (by kernel_rfl) ?_
  refine tr_seq ?_
  refine tr_sr hT hm [] [0, 2, 20] [(0, .d (.sl a0.length 0 (a0.flatMap (eS eI).b))), (2, .d (.sl a1.length 0 (a1.flatMap (eS eI).b))), (20, .d (bv ((a0.length : Int) != (a1.length : Int))))] .nil (by kernel_rfl) (by kernel_rfl) ?_
  rcases Bool.eq_false_or_eq_true ((a0.length : Int) != (a1.length : Int)) with h1 | h1
  · have hM := ite_true' hM h1
    refine tr_condTe (e := (a0.length : Int) != (a1.length : Int)) h1 (by kernel_rfl) ?_
    refine tr_sr hT hm [] [8] [(8, .d (bv false))] .nil (by kernel_rfl) (by kernel_rfl) ?_
    refine tr_ret (q_r (rg_r ?_))
    obtain rfl := Option.some.inj hM
    exact retg (names := []) .nil (by kernel_rfl)
  · have hM := ite_false' hM h1
    refine tr_condFe (e := (a0.length : Int) != (a1.length : Int)) h1 (by kernel_rfl) ?_
    refine tr_skip (q_n ?_)
    refine tr_seq ?_
    refine tr_sr hT hm [] [0, 2, 10] [(0, .d (.sl a0.length 0 (a0.flatMap (eS eI).b))), (2, .d (.sl a1.length 0 (a1.flatMap (eS eI).b))), (10, .d (iv 0))] .nil (by kernel_rfl) (by kernel_rfl) ?_
    refine tr_block ?_
    refine tr_iterS (fun (s2 : Int) => [(0, .d (.sl a0.length 0 (a0.flatMap (eS eI).b))), (2, .d (.sl a1.length 0 (a1.flatMap (eS eI).b))), (10, .d (iv s2))]) 0 [0, 2, 10] (by kernel_rfl) hM ?_
    intro n5 next3 ih4 s2 hM
    refine tr_seq ?_
    refine tr_sr hT hm [] [0, 2, 10, 28] [(0, .d (.sl a0.length 0 (a0.flatMap (eS eI).b))), (2, .d (.sl a1.length 0 (a1.flatMap (eS eI).b))), (10, .d (iv s2)), (28, .d (bv (decide (s2 < (a0.length : Int)))))] .nil (by kernel_rfl) (by kernel_rfl) ?_
    rcases Bool.eq_false_or_eq_true (decide (s2 < (a0.length : Int))) with h6 | h6
    · have hM := ite_true' hM h6
      refine tr_condTe (e := decide (s2 < (a0.length : Int))) h6 (by kernel_rfl) ?_
      refine tr_skip (q_n ?_)
      refine tr_seq ?_
      refine tr_block ?_
      obtain ⟨y7, hy7, hM⟩ := bind_some' hM
      have hy7' := idx_some hy7
      obtain ⟨y8, hy8, hM⟩ := bind_some' hM
      have hy8' := idx_some hy8
      obtain ⟨v9, hv9, hM⟩ := bind_some' hM
      refine tr_sr hT hm [(3, .val (.sl y7.length 0 (y7.flatMap eI.b))), (7, .val (.sl y8.length 0 (y8.flatMap eI.b))), (8, .call [] [] [.sl y7.length 0 (y7.flatMap eI.b), .sl y8.length 0 (y8.flatMap eI.b)] [] (bv v9))] [0, 2, 10, 52] [(0, .d (.sl a0.length 0 (a0.flatMap (eS eI).b))), (2, .d (.sl a1.length 0 (a1.flatMap (eS eI).b))), (10, .d (iv s2)), (52, .d (bv (!v9)))] (.cons hy7'.1 (.cons hy7'.2.1 (.cons (at_b0 (eS_ok eI_ok) hy7'.2.2 (d := .sl y7.length 0 (y7.flatMap eI.b)) (by kernel_rfl)) (.cons hy8'.1 (.cons hy8'.2.1 (.cons (at_b0 (eS_ok eI_ok) hy8'.2.2 (d := .sl y8.length 0 (y8.flatMap eI.b)) (by kernel_rfl)) (cc0 ok65 (laws_eqInt64S_c y7 y8 _ hv9) (by kernel_rfl) .nil))))))) (by kernel_rfl) (by kernel_rfl) ?_
      rcases Bool.eq_false_or_eq_true v9 with h10 | h10
      · have hM := ite_true' hM h10
        refine tr_condFe (e := !v9) (congrArg not h10) (by kernel_rfl) ?_
        refine tr_skip (b_n (q_n ?_))
        refine tr_r hT hm [] [0, 2, 10] [(0, .d (.sl a0.length 0 (a0.flatMap (eS eI).b))), (2, .d (.sl a1.length 0 (a1.flatMap (eS eI).b))), (10, .d (iv (IntKind.i64.wrap (s2 + 1))))] .nil (by kernel_rfl) (by kernel_rfl) (l_n ?_)
        exact trl_start (ks := [0, 2, 10]) (by kernel_rfl) (ih4 (IntKind.i64.wrap (s2 + 1)) hM)
      · have hM := ite_false' hM h10
        refine tr_condTe (e := !v9) (congrArg not h10) (by kernel_rfl) ?_
        refine tr_sr hT hm [] [8] [(8, .d (bv false))] .nil (by kernel_rfl) (by kernel_rfl) ?_
        refine tr_ret (b_r (q_r (l_r (b_r (q_r (rg_r ?_))))))
        obtain rfl := Option.some.inj hM
        exact retg (names := []) .nil (by kernel_rfl)
    · have hM := ite_false' hM h6
      refine tr_condFe (e := decide (s2 < (a0.length : Int))) h6 (by kernel_rfl) ?_
      refine tr_exit (q_x (l_x (b_h (q_n ?_))))
      refine tr_sr hT hm [] [8] [(8, .d (bv true))] .nil (by kernel_rfl) (by kernel_rfl) ?_
      refine tr_ret (rg_r ?_)
      obtain rfl := Option.some.inj hM
      exact retg (names := []) .nil (by kernel_rfl)

theorem ok28 : CallOk Try.prog 28 := callOk_of Try.func28 (by kernel_rfl) (by kernel_rfl)
theorem laws_eqCategory_c (a0 : XCategory) (a1 : XCategory) (r : Bool) (hM : M.laws_eqCategory a0 a1 = some r) :
    FnC Try.prog 28 [] [.agg (eXCategory.b a0), .agg (eXCategory.b a1)] [] (bv r) := by
  refine fnc_startG (N := 34) (np := 500) hT Try.func28 rfl rfl (by kernel_rfl) ?_
  unfold M.laws_eqCategory at hM
  refine tr_start (ks := [0, 2]) (st' := [(0, .d (.agg (eXCategory.b a0))), (2, .d (.agg (eXCategory.b a1)))]) (by kernel_rfl) ?_
  refine tr_sr hT hm [] [4, 6, 2005, 2007] [(4, .d (.rp 1002 0)), (6, .d (.rp 1003 0)), bxB 2005 (eXCategory.b a0), bxB 2007 (eXCategory.b a1)] .nil (by kernel_rfl) (by kernel_rfl) ?_
  refine tr_seq ?_
  refine tr_sr hT hm [] [4, 6, 18, 2005, 2007] [(4, .d (.rp 1002 0)), (6, .d (.rp 1003 0)), (18, .d (bv (a0.Objects != a1.Objects))), bxB 2005 (eXCategory.b a0), bxB 2007 (eXCategory.b a1)] .nil (by kernel_rfl) (by kernel_rfl) ?_
  rcases Bool.eq_false_or_eq_true (a0.Objects != a1.Objects) with h1 | h1
  · have hM := ite_true' hM h1
    refine tr_condTe (e := a0.Objects != a1.Objects) h1 (by kernel_rfl) ?_
    refine tr_sr hT hm [] [8] [(8, .d (bv false))] .nil (by kernel_rfl) (by kernel_rfl) ?_
    refine tr_ret (q_r (rg_r ?_))
    obtain rfl := Option.some.inj hM
    exact retg (names := []) .nil (by kernel_rfl)
  · have hM := ite_false' hM h1
    refine tr_condFe (e := a0.Objects != a1.Objects) h1 (by kernel_rfl) ?_
    refine tr_skip (q_n ?_)
    refine tr_seq ?_
    obtain ⟨v2, hv2, hM⟩ := bind_some' hM
    refine tr_sr hT hm [(4, .call [] [] [.sl a0.From.length 0 (a0.From.flatMap eI.b), .sl a1.From.length 0 (a1.From.flatMap eI.b)] [] (bv v2))] [4, 6, 30, 2005, 2007] [(4, .d (.rp 1002 0)), (6, .d (.rp 1003 0)), (30, .d (bv (!v2))), bxB 2005 (eXCategory.b a0), bxB 2007 (eXCategory.b a1)] (cc0 ok65 (laws_eqInt64S_c a0.From a1.From _ hv2) (by kernel_rfl) .nil) (by kernel_rfl) (by kernel_rfl) ?_
    rcases Bool.eq_false_or_eq_true v2 with h3 | h3
    · have hM := ite_true' hM h3
      refine tr_condFe (e := !v2) (congrArg not h3) (by kernel_rfl) ?_
      refine tr_skip (q_n ?_)
      refine tr_seq ?_
      obtain ⟨v4, hv4, hM⟩ := bind_some' hM
      refine tr_sr hT hm [(4, .call [] [] [.sl a0.To.length 0 (a0.To.flatMap eI.b), .sl a1.To.length 0 (a1.To.flatMap eI.b)] [] (bv v4))] [4, 6, 42, 2005, 2007] [(4, .d (.rp 1002 0)), (6, .d (.rp 1003 0)), (42, .d (bv (!v4))), bxB 2005 (eXCategory.b a0), bxB 2007 (eXCategory.b a1)] (cc0 ok65 (laws_eqInt64S_c a0.To a1.To _ hv4) (by kernel_rfl) .nil) (by kernel_rfl) (by kernel_rfl) ?_
      rcases Bool.eq_false_or_eq_true v4 with h5 | h5
      · have hM := ite_true' hM h5
        refine tr_condFe (e := !v4) (congrArg not h5) (by kernel_rfl) ?_
        refine tr_skip (q_n ?_)
        refine tr_seq ?_
        obtain ⟨v6, hv6, hM⟩ := bind_some' hM
        refine tr_sr hT hm [(4, .call [] [] [.sl a0.Identity.length 0 (a0.Identity.flatMap eI.b), .sl a1.Identity.length 0 (a1.Identity.flatMap eI.b)] [] (bv v6))] [4, 6, 54, 2005, 2007] [(4, .d (.rp 1002 0)), (6, .d (.rp 1003 0)), (54, .d (bv (!v6))), bxB 2005 (eXCategory.b a0), bxB 2007 (eXCategory.b a1)] (cc0 ok65 (laws_eqInt64S_c a0.Identity a1.Identity _ hv6) (by kernel_rfl) .nil) (by kernel_rfl) (by kernel_rfl) ?_
        rcases Bool.eq_false_or_eq_true v6 with h7 | h7
        · have hM := ite_true' hM h7
          refine tr_condFe (e := !v6) (congrArg not h7) (by kernel_rfl) ?_
          refine tr_skip (q_n ?_)
          refine tr_seq ?_
          obtain ⟨v8, hv8, hM⟩ := bind_some' hM
          refine tr_sr hT hm [(4, .call [] [] [.sl a0.Composites.length 0 (a0.Composites.flatMap (eS eI).b), .sl a1.Composites.length 0 (a1.Composites.flatMap (eS eI).b)] [] (bv v8))] [66] [(66, .d (bv (!v8)))] (cc0 ok66 (laws_eqInt64SS_c a0.Composites a1.Composites _ hv8) (by kernel_rfl) .nil) (by kernel_rfl) (by kernel_rfl) ?_
          rcases Bool.eq_false_or_eq_true v8 with h9 | h9
          · have hM := ite_true' hM h9
            refine tr_condFe (e := !v8) (congrArg not h9) (by kernel_rfl) ?_
            refine tr_skip (q_n ?_)
            refine tr_sr hT hm [] [8] [(8, .d (bv true))] .nil (by kernel_rfl) (by kernel_rfl) ?_
            refine tr_ret (rg_r ?_)
            obtain rfl := Option.some.inj hM
            exact retg (names := []) .nil (by kernel_rfl)
          · have hM := ite_false' hM h9
            refine tr_condTe (e := !v8) (congrArg not h9) (by kernel_rfl) ?_
            refine tr_sr hT hm [] [8] [(8, .d (bv false))] .nil (by kernel_rfl) (by kernel_rfl) ?_
            refine tr_ret (q_r (rg_r ?_))
            obtain rfl := Option.some.inj hM
            exact retg (names := []) .nil (by kernel_rfl)
        · have hM := ite_false' hM h7
          refine tr_condTe (e := !v6) (congrArg not h7) (by kernel_rfl) ?_
          refine tr_sr hT hm [] [8] [(8, .d (bv false))] .nil (by kernel_rfl) (by kernel_rfl) ?_
          refine tr_ret (q_r (rg_r ?_))
          obtain rfl := Option.some.inj hM
          exact retg (names := []) .nil (by kernel_rfl)
      · have hM := ite_false' hM h5
        refine tr_condTe (e := !v4) (congrArg not h5) (by kernel_rfl) ?_
        refine tr_sr hT hm [] [8] [(8, .d (bv false))] .nil (by kernel_rfl) (by kernel_rfl) ?_
        refine tr_ret (q_r (rg_r ?_))
        obtain rfl := Option.some.inj hM
        exact retg (names := []) .nil (by kernel_rfl)
    · have hM := ite_false' hM h3
      refine tr_condTe (e := !v2) (congrArg not h3) (by kernel_rfl) ?_
      refine tr_sr hT hm [] [8] [(8, .d (bv false))] .nil (by kernel_rfl) (by kernel_rfl) ?_
      refine tr_ret (q_r (rg_r ?_))
      obtain rfl := Option.some.inj hM
      exact retg (names := []) .nil (by kernel_rfl)

theorem ok18 : CallOk Try.prog 18 := callOk_of Try.func18 (by kernel_rfl) (by kernel_rfl)
theorem laws_eqFunctor_c (a0 : XFunctor) (a1 : XFunctor) (r : Bool) (hM : M.laws_eqFunctor a0 a1 = some r) :
    FnC Try.prog 18 [] [.agg (eXFunctor.b a0), .agg (eXFunctor.b a1)] [] (bv r) := by
  refine fnc_startG (N := 29) (np := 500) hT Try.func18 rfl rfl (by kernel_rfl) ?_
  unfold M.laws_eqFunctor at hM
  refine tr_start (ks := [0, 2]) (st' := [(0, .d (.agg (eXFunctor.b a0))), (2, .d (.agg (eXFunctor.b a1)))]) (by kernel_rfl) ?_
  refine tr_sr hT hm [] [4, 6, 2005, 2007] [(4, .d (.rp 1002 0)), (6, .d (.rp 1003 0)), bxB 2005 (eXFunctor.b a0), bxB 2007 (eXFunctor.b a1)] .nil (by kernel_rfl) (by kernel_rfl) ?_
  refine tr_seq ?_
  obtain ⟨v1, hv1, hM⟩ := bind_some' hM
  refine tr_sr hT hm [(4, .call [] [] [.agg [iv a0.Source.Objects, .sl a0.Source.From.length 0 (a0.Source.From.flatMap eI.b), .sl a0.Source.To.length 0 (a0.Source.To.flatMap eI.b), .sl a0.Source.Identity.length 0 (a0.Source.Identity.flatMap eI.b), .sl a0.Source.Composites.length 0 (a0.Source.Composites.flatMap (eS eI).b)], .agg [iv a1.Source.Objects, .sl a1.Source.From.length 0 (a1.Source.From.flatMap eI.b), .sl a1.Source.To.length 0 (a1.Source.To.flatMap eI.b), .sl a1.Source.Identity.length 0 (a1.Source.Identity.flatMap eI.b), .sl a1.Source.Composites.length 0 (a1.Source.Composites.flatMap (eS eI).b)]] [] (bv v1))] [4, 6, 20, 2005, 2007] [(4, .d (.rp 1002 0)), (6, .d (.rp 1003 0)), (20, .d (bv (!v1))), bxB 2005 (eXFunctor.b a0), bxB 2007 (eXFunctor.b a1)] (cc0 ok28 (laws_eqCategory_c a0.Source a1.Source _ hv1) (by kernel_rfl) .nil) (by kernel_rfl) (by kernel_rfl) ?_
  rcases Bool.eq_false_or_eq_true v1 with h2 | h2
  · have hM := ite_true' hM h2
    refine tr_condFe (e := !v1) (congrArg not h2) (by kernel_rfl) ?_
    refine tr_skip (q_n ?_)
    refine tr_seq ?_
    obtain ⟨v3, hv3, hM⟩ := bind_some' hM
    refine tr_sr hT hm [(4, .call [] [] [.agg [iv a0.Target.Objects, .sl a0.Target.From.length 0 (a0.Target.From.flatMap eI.b), .sl a0.Target.To.length 0 (a0.Target.To.flatMap eI.b), .sl a0.Target.Identity.length 0 (a0.Target.Identity.flatMap eI.b), .sl a0.Target.Composites.length 0 (a0.Target.Composites.flatMap (eS eI).b)], .agg [iv a1.Target.Objects, .sl a1.Target.From.length 0 (a1.Target.From.flatMap eI.b), .sl a1.Target.To.length 0 (a1.Target.To.flatMap eI.b), .sl a1.Target.Identity.length 0 (a1.Target.Identity.flatMap eI.b), .sl a1.Target.Composites.length 0 (a1.Target.Composites.flatMap (eS eI).b)]] [] (bv v3))] [4, 6, 32, 2005, 2007] [(4, .d (.rp 1002 0)), (6, .d (.rp 1003 0)), (32, .d (bv (!v3))), bxB 2005 (eXFunctor.b a0), bxB 2007 (eXFunctor.b a1)] (cc0 ok28 (laws_eqCategory_c a0.Target a1.Target _ hv3) (by kernel_rfl) .nil) (by kernel_rfl) (by kernel_rfl) ?_
    rcases Bool.eq_false_or_eq_true v3 with h4 | h4
    · have hM := ite_true' hM h4
      refine tr_condFe (e := !v3) (congrArg not h4) (by kernel_rfl) ?_
      refine tr_skip (q_n ?_)
      refine tr_seq ?_
      obtain ⟨v5, hv5, hM⟩ := bind_some' hM
      refine tr_sr hT hm [(4, .call [] [] [.sl a0.Objects.length 0 (a0.Objects.flatMap eI.b), .sl a1.Objects.length 0 (a1.Objects.flatMap eI.b)] [] (bv v5))] [4, 6, 44, 2005, 2007] [(4, .d (.rp 1002 0)), (6, .d (.rp 1003 0)), (44, .d (bv (!v5))), bxB 2005 (eXFunctor.b a0), bxB 2007 (eXFunctor.b a1)] (cc0 ok65 (laws_eqInt64S_c a0.Objects a1.Objects _ hv5) (by kernel_rfl) .nil) (by kernel_rfl) (by kernel_rfl) ?_
      rcases Bool.eq_false_or_eq_true v5 with h6 | h6
      · have hM := ite_true' hM h6
        refine tr_condFe (e := !v5) (congrArg not h6) (by kernel_rfl) ?_
        refine tr_skip (q_n ?_)
        refine tr_seq ?_
        obtain ⟨v7, hv7, hM⟩ := bind_some' hM
        refine tr_sr hT hm [(4, .call [] [] [.sl a0.Arrows.length 0 (a0.Arrows.flatMap eI.b), .sl a1.Arrows.length 0 (a1.Arrows.flatMap eI.b)] [] (bv v7))] [56] [(56, .d (bv (!v7)))] (cc0 ok65 (laws_eqInt64S_c a0.Arrows a1.Arrows _ hv7) (by kernel_rfl) .nil) (by kernel_rfl) (by kernel_rfl) ?_
        rcases Bool.eq_false_or_eq_true v7 with h8 | h8
        · have hM := ite_true' hM h8
          refine tr_condFe (e := !v7) (congrArg not h8) (by kernel_rfl) ?_
          refine tr_skip (q_n ?_)
          refine tr_sr hT hm [] [8] [(8, .d (bv true))] .nil (by kernel_rfl) (by kernel_rfl) ?_
          refine tr_ret (rg_r ?_)
          obtain rfl := Option.some.inj hM
          exact retg (names := []) .nil (by kernel_rfl)
        · have hM := ite_false' hM h8
          refine tr_condTe (e := !v7) (congrArg not h8) (by kernel_rfl) ?_
          refine tr_sr hT hm [] [8] [(8, .d (bv false))] .nil (by kernel_rfl) (by kernel_rfl) ?_
          refine tr_ret (q_r (rg_r ?_))
          obtain rfl := Option.some.inj hM
          exact retg (names := []) .nil (by kernel_rfl)
      · have hM := ite_false' hM h6
        refine tr_condTe (e := !v5) (congrArg not h6) (by kernel_rfl) ?_
        refine tr_sr hT hm [] [8] [(8, .d (bv false))] .nil (by kernel_rfl) (by kernel_rfl) ?_
        refine tr_ret (q_r (rg_r ?_))
        obtain rfl := Option.some.inj hM
        exact retg (names := []) .nil (by kernel_rfl)
    · have hM := ite_false' hM h4
      refine tr_condTe (e := !v3) (congrArg not h4) (by kernel_rfl) ?_
      refine tr_sr hT hm [] [8] [(8, .d (bv false))] .nil (by kernel_rfl) (by kernel_rfl) ?_
      refine tr_ret (q_r (rg_r ?_))
      obtain rfl := Option.some.inj hM
      exact retg (names := []) .nil (by kernel_rfl)
  · have hM := ite_false' hM h2
    refine tr_condTe (e := !v1) (congrArg not h2) (by kernel_rfl) ?_
    refine tr_sr hT hm [] [8] [(8, .d (bv false))] .nil (by kernel_rfl) (by kernel_rfl) ?_
    refine tr_ret (q_r (rg_r ?_))
    obtain rfl := Option.some.inj hM
    exact retg (names := []) .nil (by kernel_rfl)

theorem ok70 : CallOk Try.prog 70 := callOk_of Try.func70 (by kernel_rfl) (by kernel_rfl)
theorem laws_markInt64S_c (a0 : List Int) (a1 : Int) (r : Int × (List Int)) (hM : M.laws_markInt64S a0 a1 = some r) :
    FnC Try.prog 70 [(0, .arr 1 (a0.flatMap eI.o) [])] [.rs 0 0 a0.length, iv a1] [(0, .arr 1 (r.2.flatMap eI.o) [])] (iv r.1) := by
  refine fnc_startG (N := 19) (np := 500) hT Try.func70 rfl rfl (by kernel_rfl) ?_
  unfold M.laws_markInt64S at hM
  refine tr_start (ks := [0, 1, 2]) (st' := [(0, .d (.rs 0 0 a0.length)), (1, .r (.arr 1 (a0.flatMap eI.o) [])), (2, .d (iv a1))]) (by kernel_rfl) ?_
  refine tr_sr hT hm [] [0, 1, 2] [(0, .d (.rs 0 0 a0.length)), (1, .r (.arr 1 (a0.flatMap eI.o) [])), (2, .d (iv a1))] .nil (by kernel_rfl) (by kernel_rfl) ?_
  refine tr_seq ?_
  refine tr_sr hT hm [] [0, 1, 2, 10] [(0, .d (.rs 0 0 a0.length)), (1, .r (.arr 1 (a0.flatMap eI.o) [])), (2, .d (iv a1)), (10, .d (iv 0))] .nil (by kernel_rfl) (by kernel_rfl) ?_
  refine tr_block ?_
  refine tr_iterS (fun (s1 : (List Int) × Int × Int) => [(0, .d (.rs 0 0 s1.1.length)), (1, .r (.arr 1 (s1.1.flatMap eI.o) [])), (2, .d (iv s1.2.1)), (10, .d (iv s1.2.2))]) (a0, a1, 0) [0, 1, 2, 10] (by kernel_rfl) hM ?_
  intro n4 next2 ih3 s1 hM
  refine tr_seq ?_
  refine tr_sr hT hm [] [0, 1, 2, 10, 18] [(0, .d (.rs 0 0 s1.1.length)), (1, .r (.arr 1 (s1.1.flatMap eI.o) [])), (2, .d (iv s1.2.1)), (10, .d (iv s1.2.2)), (18, .d (bv (decide (s1.2.2 < (s1.1.length : Int)))))] .nil (by kernel_rfl) (by kernel_rfl) ?_
  rcases Bool.eq_false_or_eq_true (decide (s1.2.2 < (s1.1.length : Int))) with h5 | h5
  · have hM := ite_true' hM h5
    refine tr_condTe (e := decide (s1.2.2 < (s1.1.length : Int))) h5 (by kernel_rfl) ?_
    refine tr_skip (q_n ?_)
    refine tr_seq ?_
    refine tr_block ?_
    obtain ⟨y6, hy6, hM⟩ := bind_some' hM
    have hy6' := idx_some hy6
    refine tr_sr hT hm [] [0, 1, 2, 10] [(0, .d (.rs 0 0 s1.1.length)), (1, .r (.arr 1 ((s1.1.flatMap eI.o).take (0 + s1.2.2.toNat * 1) ++ [iv s1.2.1] ++ (s1.1.flatMap eI.o).drop (0 + s1.2.2.toNat * 1 + 1)) [])), (2, .d (iv s1.2.1)), (10, .d (iv s1.2.2))] (.cons hy6'.1 (.cons hy6'.2.1 (.cons (store_le eI_ok hy6'.2.2) .nil))) (by kernel_rfl) (by kernel_rfl) ?_
    refine Tr.by (imp_cvE (r := 0) (sz := 1) (refs := []) (set_flat eI_ok.lenO (y := s1.2.1) hy6'.2.2) (menO_flat eI_ok _) (by kernel_rfl)) ?_
    refine Tr.by (imp_cvD (k := 0) (congrArg (D.rs 0 0) (List.length_set.symm : s1.1.length = (s1.1.set s1.2.2.toNat s1.2.1).length)) (by kernel_rfl)) ?_
    refine tr_r hT hm [] [0, 1, 2, 10] [(0, .d (.rs 0 0 ((s1.1.set s1.2.2.toNat s1.2.1).length))), (1, .r (.arr 1 ((s1.1.set s1.2.2.toNat s1.2.1).flatMap eI.o) [])), (2, .d (iv (IntKind.i64.wrap (s1.2.1 + 1)))), (10, .d (iv s1.2.2))] .nil (by kernel_rfl) (by kernel_rfl) (b_n (q_n ?_))
    refine tr_r hT hm [] [0, 1, 2, 10] [(0, .d (.rs 0 0 ((s1.1.set s1.2.2.toNat s1.2.1).length))), (1, .r (.arr 1 ((s1.1.set s1.2.2.toNat s1.2.1).flatMap eI.o) [])), (2, .d (iv (IntKind.i64.wrap (s1.2.1 + 1)))), (10, .d (iv (IntKind.i64.wrap (s1.2.2 + 1))))] .nil (by kernel_rfl) (by kernel_rfl) (l_n ?_)
    exact trl_start (ks := [0, 1, 2, 10]) (by kernel_rfl) (ih3 (s1.1.set s1.2.2.toNat s1.2.1, IntKind.i64.wrap (s1.2.1 + 1), IntKind.i64.wrap (s1.2.2 + 1)) hM)
  · have hM := ite_false' hM h5
    refine tr_condFe (e := decide (s1.2.2 < (s1.1.length : Int))) h5 (by kernel_rfl) ?_
    refine tr_exit (q_x (l_x (b_h (q_n ?_))))
    refine tr_sr hT hm [] [1, 8] [(1, .r (.arr 1 (s1.1.flatMap eI.o) [])), (8, .d (iv s1.2.1))] .nil (by kernel_rfl) (by kernel_rfl) ?_
    refine tr_ret (rg_r ?_)
    obtain rfl := Option.some.inj hM
    exact retg (names := [0]) .nil (by kernel_rfl)

theorem ok71 : CallOk Try.prog 71 := callOk_of Try.func71 (by kernel_rfl) (by kernel_rfl)
theorem laws_markInt64SS_c (a0 : List (List Int)) (a1 : Int) (r : Int × (List (List Int))) (hM : M.laws_markInt64SS a0 a1 = some r) :
    FnC Try.prog 71 [(0, .arr 1 (a0.flatMap (eS eI).o) [])] [.rs 0 0 a0.length, iv a1] [(0, .arr 1 (r.2.flatMap (eS eI).o) [])] (iv r.1) := by
  refine fnc_startG (N := 19) (np := 500) hT Try.func71 rfl rfl (by kernel_rfl) ?_
  unfold M.laws_markInt64SS at hM
  refine tr_start (ks := [0, 1, 2]) (st' := [(0, .d (.rs 0 0 a0.length)), (1, .r (.arr 1 (a0.flatMap (eS eI).o) [])), (2, .d (iv a1))]) (by kernel_rfl) ?_
  refine tr_sr hT hm [] [0, 1, 2] [(0, .d (.rs 0 0 a0.length)), (1, .r (.arr 1 (a0.flatMap (eS eI).o) [])), (2, .d (iv a1))] .nil (by kernel_rfl) (by kernel_rfl) ?_
  refine tr_seq ?_
  refine tr_sr hT hm [] [0, 1, 2, 10] [(0, .d (.rs 0 0 a0.length)), (1, .r (.arr 1 (a0.flatMap (eS eI).o) [])), (2, .d (iv a1)), (10, .d (iv 0))] .nil (by kernel_rfl) (by kernel_rfl) ?_
  refine tr_block ?_
  refine tr_iterS (fun (s1 : (List (List Int)) × Int × Int) => [(0, .d (.rs 0 0 s1.1.length)), (1, .r (.arr 1 (s1.1.flatMap (eS eI).o) [])), (2, .d (iv s1.2.1)), (10, .d (iv s1.2.2))]) (a0, a1, 0) [0, 1, 2, 10] (by kernel_rfl) hM ?_
  intro n4 next2 ih3 s1 hM
  refine tr_seq ?_
  refine tr_sr hT hm [] [0, 1, 2, 10, 18] [(0, .d (.rs 0 0 s1.1.length)), (1, .r (.arr 1 (s1.1.flatMap (eS eI).o) [])), (2, .d (iv s1.2.1)), (10, .d (iv s1.2.2)), (18, .d (bv (decide (s1.2.2 < (s1.1.length : Int)))))] .nil (by kernel_rfl) (by kernel_rfl) ?_
  rcases Bool.eq_false_or_eq_true (decide (s1.2.2 < (s1.1.length : Int))) with h5 | h5
  · have hM := ite_true' hM h5
    refine tr_condTe (e := decide (s1.2.2 < (s1.1.length : Int))) h5 (by kernel_rfl) ?_
    refine tr_skip (q_n ?_)
    refine tr_seq ?_
    refine tr_block ?_
    obtain ⟨y6, hy6, hM⟩ := bind_some' hM
    have hy6' := idx_some hy6
    refine Tr.by (imp_rowOut (r := 0) (q := 700012) (i := s1.2.2) (xs := s1.1) (e := eI) (eS_ok eI_ok) hy6'.2.2 (by kernel_rfl) (by kernel_rfl)) ?_
    obtain ⟨v7, hv7, hM⟩ := bind_some' hM
    refine tr_r hT hm [(3, .val (.rs 700012 0 y6.length)), (5, .call [] [(0, 700012)] [.rs 0 0 y6.length, iv s1.2.1] [(0, .arr 1 (v7.2.flatMap eI.o) [])] (iv v7.1))] [0, 1, 2, 10, 1400025] [(0, .d (.rs 0 0 s1.1.length)), (1, .r (.arr 1 ((s1.1.flatMap (eS eI).o).set (0 + s1.2.2.toNat * 1) (.rs 700012 0 y6.length)) [700012])), (2, .d (iv v7.1)), (10, .d (iv s1.2.2)), (1400025, .r (.arr 1 (v7.2.flatMap eI.o) []))] (.cons hy6'.1 (.cons hy6'.2.1 (.cons (set_at (d := .rs 700012 0 y6.length) (lt_flat (eS_ok eI_ok) (by kernel_rfl) hy6'.2.2)) (cc (B := []) (ρ := [(0, 700012)]) (rB := []) ok70 (laws_markInt64S_c y6 s1.2.1 _ hv7) (.cons (.pass (.rs rfl)) (.cons (.same rfl) .nil)) (.inl rfl) .nil)))) (by kernel_rfl) (by kernel_rfl) (b_n (q_n ?_))
    refine Tr.by (imp_rowBack (r := 0) (q := 700012) (n := y6.length) (i := s1.2.2) (xs := s1.1) (e := eI) (x' := v7.2) eI_ok hy6'.2.2 (M.len_markInt64S hv7) (by kernel_rfl) (by kernel_rfl) (by kernel_rfl)) ?_
    refine Tr.by (imp_cvD (k := 0) (congrArg (D.rs 0 0) (List.length_set.symm : s1.1.length = (s1.1.set s1.2.2.toNat v7.2).length)) (by kernel_rfl)) ?_
    refine tr_r hT hm [] [0, 1, 2, 10] [(0, .d (.rs 0 0 ((s1.1.set s1.2.2.toNat v7.2).length))), (1, .r (.arr 1 ((s1.1.set s1.2.2.toNat v7.2).flatMap (eS eI).o) [])), (2, .d (iv v7.1)), (10, .d (iv (IntKind.i64.wrap (s1.2.2 + 1))))] .nil (by kernel_rfl) (by kernel_rfl) (l_n ?_)
    exact trl_start (ks := [0, 1, 2, 10]) (by kernel_rfl) (ih3 (s1.1.set s1.2.2.toNat v7.2, v7.1, IntKind.i64.wrap (s1.2.2 + 1)) hM)
  · have hM := ite_false' hM h5
    refine tr_condFe (e := decide (s1.2.2 < (s1.1.length : Int))) h5 (by kernel_rfl) ?_
    refine tr_exit (q_x (l_x (b_h (q_n ?_))))
    refine tr_sr hT hm [] [1, 8] [(1, .r (.arr 1 (s1.1.flatMap (eS eI).o) [])), (8, .d (iv s1.2.1))] .nil (by kernel_rfl) (by kernel_rfl) ?_
    refine tr_ret (rg_r ?_)
    obtain rfl := Option.some.inj hM
    exact retg (names := [0]) .nil (by kernel_rfl)

theorem ok29 : CallOk Try.prog 29 := callOk_of Try.func29 (by kernel_rfl) (by kernel_rfl)
theorem laws_markCategory_c (a0 : XCategory) (a1 : Int) (r : Int × XCategory) (hM : M.laws_markCategory a0 a1 = some r) :
    FnC Try.prog 29 [(101, .arr 1 (a0.From.flatMap eI.o) []), (102, .arr 1 (a0.To.flatMap eI.o) []), (103, .arr 1 (a0.Identity.flatMap eI.o) []), (104, .arr 1 (a0.Composites.flatMap (eS eI).o) [])] [.agg [iv a0.Objects, .rs 101 0 a0.From.length, .rs 102 0 a0.To.length, .rs 103 0 a0.Identity.length, .rs 104 0 a0.Composites.length], iv a1] [(101, .arr 1 (r.2.From.flatMap eI.o) []), (102, .arr 1 (r.2.To.flatMap eI.o) []), (103, .arr 1 (r.2.Identity.flatMap eI.o) []), (104, .arr 1 (r.2.Composites.flatMap (eS eI).o) [])] (iv r.1) := by
  refine fnc_startG (N := 22) (np := 500) hT Try.func29 rfl rfl (by kernel_rfl) ?_
  unfold M.laws_markCategory at hM
  refine tr_start (ks := [0, 2, 203, 205, 207, 209]) (st' := ([(0, .d (.agg (rsC 100 (eXCategory.o a0)))), (2, .d (iv a1))] ++ rsS 100 (eXCategory.o a0))) (by kernel_rfl) ?_
  refine tr_sr hT hm [] [2, 4, 203, 205, 207, 209, 2005] ([(2, .d (iv a1)), (4, .d (.rp 1002 0))] ++ rsS 100 (eXCategory.o a0) ++ [bxO 2005 100 (eXCategory.o a0)]) .nil (by kernel_rfl) (by kernel_rfl) ?_
  obtain ⟨v1, hv1, hM⟩ := bind_some' hM
  refine tr_sr hT hm [(3, .call [] [(0, 101)] [.rs 0 0 a0.From.length, iv a1] [(0, .arr 1 (v1.2.flatMap eI.o) [])] (iv v1.1))] [2, 4, 203, 205, 207, 209, 2005] [(2, .d (iv v1.1)), (4, .d (.rp 1002 0)), (203, .r (.arr 1 (v1.2.flatMap eI.o) [])), (205, .r (.arr 1 (a0.To.flatMap eI.o) [])), (207, .r (.arr 1 (a0.Identity.flatMap eI.o) [])), (209, .r (.arr 1 (a0.Composites.flatMap (eS eI).o) [])), bxO 2005 100 (eXCategory.o a0)] (cc (B := []) (ρ := [(0, 101)]) (rB := []) ok70 (laws_markInt64S_c a0.From a1 _ hv1) (.cons (.pass (.rs rfl)) (.cons (.same rfl) .nil)) (.inl rfl) .nil) (by kernel_rfl) (by kernel_rfl) ?_
  refine Tr.by (imp_cvB (r := 1002) (sz := 1) (cells := [iv a0.Objects, .rs 101 0 a0.From.length, .rs 102 0 a0.To.length, .rs 103 0 a0.Identity.length, .rs 104 0 a0.Composites.length]) (cells' := [iv a0.Objects, .rs 101 0 v1.2.length, .rs 102 0 a0.To.length, .rs 103 0 a0.Identity.length, .rs 104 0 a0.Composites.length]) (refs := [101, 102, 103, 104]) (refs' := [101, 102, 103, 104]) (.cons (.refl _) (.cons (Sub.of_eq (congrArg (D.rs 101 0) ((M.len_markInt64S hv1) : a0.From.length = v1.2.length))) (.cons (.refl _) (.cons (.refl _) (.cons (.refl _) .nil))))) (by kernel_rfl) (by kernel_rfl) (by kernel_rfl)) ?_
  obtain ⟨v2, hv2, hM⟩ := bind_some' hM
  refine tr_sr hT hm [(3, .call [] [(0, 102)] [.rs 0 0 a0.To.length, iv v1.1] [(0, .arr 1 (v2.2.flatMap eI.o) [])] (iv v2.1))] [2, 4, 203, 205, 207, 209, 2005] [(2, .d (iv v2.1)), (4, .d (.rp 1002 0)), (203, .r (.arr 1 (v1.2.flatMap eI.o) [])), (205, .r (.arr 1 (v2.2.flatMap eI.o) [])), (207, .r (.arr 1 (a0.Identity.flatMap eI.o) [])), (209, .r (.arr 1 (a0.Composites.flatMap (eS eI).o) [])), (2005, .r (.arr 1 [iv a0.Objects, .rs 101 0 v1.2.length, .rs 102 0 a0.To.length, .rs 103 0 a0.Identity.length, .rs 104 0 a0.Composites.length] [101, 102, 103, 104]))] (cc (B := []) (ρ := [(0, 102)]) (rB := []) ok70 (laws_markInt64S_c a0.To v1.1 _ hv2) (.cons (.pass (.rs rfl)) (.cons (.same rfl) .nil)) (.inl rfl) .nil) (by kernel_rfl) (by kernel_rfl) ?_
  refine Tr.by (imp_cvB (r := 1002) (sz := 1) (cells := [iv a0.Objects, .rs 101 0 v1.2.length, .rs 102 0 a0.To.length, .rs 103 0 a0.Identity.length, .rs 104 0 a0.Composites.length]) (cells' := [iv a0.Objects, .rs 101 0 v1.2.length, .rs 102 0 v2.2.length, .rs 103 0 a0.Identity.length, .rs 104 0 a0.Composites.length]) (refs := [101, 102, 103, 104]) (refs' := [101, 102, 103, 104]) (.cons (.refl _) (.cons (.refl _) (.cons (Sub.of_eq (congrArg (D.rs 102 0) ((M.len_markInt64S hv2) : a0.To.length = v2.2.length))) (.cons (.refl _) (.cons (.refl _) .nil))))) (by kernel_rfl) (by kernel_rfl) (by kernel_rfl)) ?_
  obtain ⟨v3, hv3, hM⟩ := bind_some' hM
  refine tr_sr hT hm [(3, .call [] [(0, 103)] [.rs 0 0 a0.Identity.length, iv v2.1] [(0, .arr 1 (v3.2.flatMap eI.o) [])] (iv v3.1))] [2, 4, 203, 205, 207, 209, 2005] [(2, .d (iv v3.1)), (4, .d (.rp 1002 0)), (203, .r (.arr 1 (v1.2.flatMap eI.o) [])), (205, .r (.arr 1 (v2.2.flatMap eI.o) [])), (207, .r (.arr 1 (v3.2.flatMap eI.o) [])), (209, .r (.arr 1 (a0.Composites.flatMap (eS eI).o) [])), (2005, .r (.arr 1 [iv a0.Objects, .rs 101 0 v1.2.length, .rs 102 0 v2.2.length, .rs 103 0 a0.Identity.length, .rs 104 0 a0.Composites.length] [101, 102, 103, 104]))] (cc (B := []) (ρ := [(0, 103)]) (rB := []) ok70 (laws_markInt64S_c a0.Identity v2.1 _ hv3) (.cons (.pass (.rs rfl)) (.cons (.same rfl) .nil)) (.inl rfl) .nil) (by kernel_rfl) (by kernel_rfl) ?_
  refine Tr.by (imp_cvB (r := 1002) (sz := 1) (cells := [iv a0.Objects, .rs 101 0 v1.2.length, .rs 102 0 v2.2.length, .rs 103 0 a0.Identity.length, .rs 104 0 a0.Composites.length]) (cells' := [iv a0.Objects, .rs 101 0 v1.2.length, .rs 102 0 v2.2.length, .rs 103 0 v3.2.length, .rs 104 0 a0.Composites.length]) (refs := [101, 102, 103, 104]) (refs' := [101, 102, 103, 104]) (.cons (.refl _) (.cons (.refl _) (.cons (.refl _) (.cons (Sub.of_eq (congrArg (D.rs 103 0) ((M.len_markInt64S hv3) : a0.Identity.length = v3.2.length))) (.cons (.refl _) .nil))))) (by kernel_rfl) (by kernel_rfl) (by kernel_rfl)) ?_
  obtain ⟨v4, hv4, hM⟩ := bind_some' hM
  refine tr_sr hT hm [(3, .call [] [(0, 104)] [.rs 0 0 a0.Composites.length, iv v3.1] [(0, .arr 1 (v4.2.flatMap (eS eI).o) [])] (iv v4.1))] [2, 203, 205, 207, 209] [(2, .d (iv v4.1)), (203, .r (.arr 1 (v1.2.flatMap eI.o) [])), (205, .r (.arr 1 (v2.2.flatMap eI.o) [])), (207, .r (.arr 1 (v3.2.flatMap eI.o) [])), (209, .r (.arr 1 (v4.2.flatMap (eS eI).o) []))] (cc (B := []) (ρ := [(0, 104)]) (rB := []) ok71 (laws_markInt64SS_c a0.Composites v3.1 _ hv4) (.cons (.pass (.rs rfl)) (.cons (.same rfl) .nil)) (.inl rfl) .nil) (by kernel_rfl) (by kernel_rfl) ?_
  refine tr_sr hT hm [] [8, 203, 205, 207, 209] [(8, .d (iv v4.1)), (203, .r (.arr 1 (v1.2.flatMap eI.o) [])), (205, .r (.arr 1 (v2.2.flatMap eI.o) [])), (207, .r (.arr 1 (v3.2.flatMap eI.o) [])), (209, .r (.arr 1 (v4.2.flatMap (eS eI).o) []))] .nil (by kernel_rfl) (by kernel_rfl) ?_
  refine tr_ret (rg_r ?_)
  obtain rfl := Option.some.inj hM
  exact retg (names := [101, 102, 103, 104]) .nil (by kernel_rfl)

end Go.Proofs.Ytggojehmbpbefaa
