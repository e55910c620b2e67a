/- The contract of strings.Join, out of the library's: laid at this program by the library's own tool. -/
import Derived.Test.YtknmijgiefkijaaDoorGxEM0
import Derived.Test.YtknmijgiefkijaaDoorGxdAW
import Derived.Shelf.Strings.OnBuilder
namespace Go.Proofs
open Go.Shelf
def Tryd.lays156_ren : Go.Shelf.Ren := ⟨fun | 156 => 35 | 165 => 38 | 166 => 39 | 169 => 40 | 240 => 45 | 241 => 46 | 276 => 52 | 277 => 53 | n => n, fun | 31 => 64 | 9 => 9 | 3 => 3 | 4 => 4 | 0 => 0 | 20 => 20 | 72 => 70 | 76 => 74 | 70 => 68 | 37 => 62 | 75 => 73 | 127 => 83 | 164 => 92 | 5 => 5 | 80 => 60 | n => n, fun | n => n⟩
theorem Tryd.lays156 : Go.Proofs.Lays.n156 Tryd.prog Tryd.lays156_ren := {
  mixed := by kernel_rfl
  f156 := Tryd.func35.trans (congrArg some (by kernel_rfl))
  f165 := Tryd.func38.trans (congrArg some (by kernel_rfl))
  f166 := Tryd.func39.trans (congrArg some (by kernel_rfl))
  f169 := Tryd.func40.trans (congrArg some (by kernel_rfl))
  f240 := Tryd.func45.trans (congrArg some (by kernel_rfl))
  f241 := Tryd.func46.trans (congrArg some (by kernel_rfl))
  f276 := Tryd.func52.trans (congrArg some (by kernel_rfl))
  f277 := Tryd.func53.trans (congrArg some (by kernel_rfl))
  t0 := Tryd.underlying0
  a0 := Tryd.isAgg0
  z0 := Tryd.sizeOf0
  v0 := Tryd.zeroValue0
  t3 := Tryd.underlying3
  a3 := Tryd.isAgg3
  z3 := Tryd.sizeOf3
  v3 := Tryd.zeroValue3
  t4 := Tryd.underlying4
  a4 := Tryd.isAgg4
  z4 := Tryd.sizeOf4
  v4 := Tryd.zeroValue4
  t9 := Tryd.underlying9
  a9 := Tryd.isAgg9
  z9 := Tryd.sizeOf9
  v9 := Tryd.zeroValue9
  t20 := Tryd.underlying20
  a20 := Tryd.isAgg20
  z20 := Tryd.sizeOf20
  v20 := Tryd.zeroValue20
  t31 := Tryd.underlying64
  a31 := Tryd.isAgg64
  z31 := Tryd.sizeOf64
  v31 := Tryd.zeroValue64
  t37 := Tryd.underlying62
  a37 := Tryd.isAgg62
  z37 := Tryd.sizeOf62
  v37 := Tryd.zeroValue62
  t70 := Tryd.underlying68
  a70 := Tryd.isAgg68
  z70 := Tryd.sizeOf68
  v70 := Tryd.zeroValue68
  t72 := Tryd.underlying70
  a72 := Tryd.isAgg70
  z72 := Tryd.sizeOf70
  v72 := Tryd.zeroValue70
  t75 := Tryd.underlying73
  a75 := Tryd.isAgg73
  z75 := Tryd.sizeOf73
  v75 := Tryd.zeroValue73
  t76 := Tryd.underlying74
  a76 := Tryd.isAgg74
  z76 := Tryd.sizeOf74
  v76 := Tryd.zeroValue74
  t127 := Tryd.underlying83
  a127 := Tryd.isAgg83
  z127 := Tryd.sizeOf83
  v127 := Tryd.zeroValue83
  t164 := Tryd.underlying92
  a164 := Tryd.isAgg92
  z164 := Tryd.sizeOf92
  v164 := Tryd.zeroValue92 }
theorem Tryd.Builder_Extra_156 : Builder.Extra Tryd.prog Tryd.lays156_ren := {
  sizeBuilder := by kernel_rfl
  liesBuilder := by kernel_rfl
  t5 := Tryd.underlying5
  a5 := Tryd.isAgg5
  z5 := Tryd.sizeOf5
  v5 := Tryd.zeroValue5
  infoByte := by kernel_rfl
  cellsByte := by kernel_rfl
  sizeByte := by kernel_rfl
  neB5 := by decide }
end Go.Proofs
namespace Go.Proofs.YtknmijgiefkijaaDoor.WdA
open Go.Gx Go.RowKit
theorem ok35 : CallOk Tryd.prog 35 := callOk_of Tryd.func35 (by kernel_rfl) (by kernel_rfl)

theorem strs_flat : ∀ l : List ByteArray, l.flatMap eStr.b = l.map fun x => D.v (.string x)
  | [] => rfl
  | x :: l => by rw [List.flatMap_cons, strs_flat l]; rfl

theorem strings_Join_c (a0 : List ByteArray) (a1 : ByteArray) (r : ByteArray) (hM : M.strings_Join a0 a1 = some r) :
    FnC Tryd.prog 35 [] [.sl a0.length 0 (a0.flatMap eStr.b), .v (.string a1)] [] (.v (.string r)) := by
  intro w S β Fs vs hR hA
  unfold M.strings_Join at hM
  obtain ⟨⟨h1, h2⟩, hM⟩ := chk_some hM
  obtain rfl := Option.some.inj hM
  have fin : ∀ w', Below w.heap.size w w' → ∃ y S' Fs' F, (Ending.returned (.string ⟨(joinS a0 a1).toArray⟩)) = .returned y ∧ Ext w w' (owned Fs) ∧ (∀ b, S b → S' b) ∧ (∀ b, S' b → b < w'.heap.size ∧ (S b ∨ owned Fs b ∨ w.heap.size ≤ b)) ∧
      Roots (Gx.look (rootSt [])) w' S' β Fs' ∧ (∀ r b, b ∈ Fs' r → owned Fs b ∨ w.heap.size ≤ b) ∧
      Rep w' S' (.v (.string ⟨(joinS a0 a1).toArray⟩)) β y F ∧ F.Nodup ∧ ∀ b ∈ F, ¬ S' b ∧ b < w'.heap.size ∧ (owned Fs b ∨ w.heap.size ≤ b) ∧ ∀ r, b ∉ Fs' r := fun w' hw => by
    refine ⟨_, S, Fs, [], rfl, ⟨hw.os, hw.tape, hw.output, hw.size, fun b hb _ => hw.block b hb⟩, fun _ h => h, fun b hb => ⟨Nat.lt_of_lt_of_le (hR.sOk b hb) hw.size, .inl hb⟩, ?_, fun r b hb => .inl ⟨r, hb⟩, by rw [Rep_v]; exact ⟨rfl, rfl⟩, List.nodup_nil, by simp⟩
    exact ⟨fun r x hx => (by cases hx), hR.noroot, hR.nodup, hR.disj, fun r b hb => ⟨(hR.own r b hb).1, Nat.lt_of_lt_of_le (hR.own r b hb).2 hw.size⟩, fun b hb => Nat.lt_of_lt_of_le (hR.sOk b hb) hw.size⟩
  unfold RepT at hA
  obtain ⟨y, ys, F1, F2, rfl, hF, ha, hb⟩ := hA
  simp only [List.nil_eq, List.append_eq_nil_iff] at hF
  obtain ⟨rfl, rfl⟩ := hF
  unfold RepT at hb
  obtain ⟨y2, ys2, F3, F4, rfl, hF, hb1, hb2⟩ := hb
  simp only [List.nil_eq, List.append_eq_nil_iff] at hF
  obtain ⟨rfl, rfl⟩ := hF
  unfold RepT at hb2
  obtain ⟨rfl, _⟩ := hb2
  rw [Rep_v] at hb1
  obtain ⟨rfl, _⟩ := hb1
  unfold Rep at ha
  obtain ⟨_, _, a, cap, rfl, hcap, ha⟩ := ha
  by_cases h0 : a0.length = 0
  · obtain rfl := List.eq_nil_of_length_eq_zero h0
    refine (Any.strings_Join_none Tryd.lays156 Tryd.Builder_Extra_156 a cap a1 w).mono fun e w' ⟨he, hw⟩ => ?_
    subst he hw
    exact fin _ (Below.refl _ _)
  · rcases ha with ha | ⟨b, o, ys, rfl, hs, hg, hr⟩
    · exact absurd ha h0
    · rw [strs_flat] at hr
      refine (Any.strings_Join Tryd.lays156 Tryd.Builder_Extra_156 b (o + 0) cap a0 a1 w (fun j x hx => ?_) (hR.sOk b hs) h1 hcap h2).mono fun e w' ⟨he, hw⟩ => ?_
      · obtain ⟨y, hy, _, hyr⟩ := RepL_nilF_get hr (i := j) (d := .v (.string x)) (by rw [List.getElem?_map, hx]; rfl)
        rw [Rep_v] at hyr
        obtain ⟨rfl, _⟩ := hyr
        rw [Nat.add_zero]
        exact hg.cell hy
      · subst he
        exact fin _ hw
end Go.Proofs.YtknmijgiefkijaaDoor.WdA
