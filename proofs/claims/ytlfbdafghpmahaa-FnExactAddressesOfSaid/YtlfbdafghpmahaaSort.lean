/- slices.Sort and slices.Compact at whole numbers, of a row of the call's own: the shelf's contracts, said in the print's words. -/
import Derived.Test.YtlfbdafghpmahaaV2
import Derived.Test.YtlfbdafghpmahaaK
import Derived.Shelf.Sort.Plain
import Derived.Shelf.Slices.CompactI
import Derived.Shelf.Slices.In.SortNone
import Derived.Sort.OwnSorted
import Derived.Sort.Grow
import Derived.Lib.OwnBridge
namespace Go.Proofs
open Go.Shelf
def Try.lays189_ren : Go.Shelf.Ren := ⟨fun | 189 => 54 | 125 => 100 | 257 => 99 | 128 => 136 | 129 => 137 | 294 => 127 | 295 => 128 | 296 => 129 | 297 => 130 | 298 => 131 | 299 => 132 | 216 => 133 | 300 => 134 | 301 => 135 | 328 => 159 | 329 => 160 | 330 => 161 | 331 => 162 | 332 => 163 | 215 => 150 | 343 => 173 | n => n, fun | 28 => 24 | 3 => 3 | 46 => 130 | 0 => 0 | 51 => 166 | 53 => 168 | 4 => 4 | 183 => 158 | 182 => 157 | 131 => 163 | 5 => 5 | 9 => 9 | 218 => 181 | 222 => 185 | 228 => 193 | 229 => 194 | n => n, fun | n => n⟩
theorem Try.lays189 : Go.Proofs.Lays.n189 Try.prog Try.lays189_ren := {
  mixed := by kernel_rfl
  f125 := Try.func100.trans (congrArg some (by kernel_rfl))
  f128 := Try.func136.trans (congrArg some (by kernel_rfl))
  f129 := Try.func137.trans (congrArg some (by kernel_rfl))
  f189 := Try.func54.trans (congrArg some (by kernel_rfl))
  f215 := Try.func150.trans (congrArg some (by kernel_rfl))
  f216 := Try.func133.trans (congrArg some (by kernel_rfl))
  f257 := Try.func99.trans (congrArg some (by kernel_rfl))
  f294 := Try.func127.trans (congrArg some (by kernel_rfl))
  f295 := Try.func128.trans (congrArg some (by kernel_rfl))
  f296 := Try.func129.trans (congrArg some (by kernel_rfl))
  f297 := Try.func130.trans (congrArg some (by kernel_rfl))
  f298 := Try.func131.trans (congrArg some (by kernel_rfl))
  f299 := Try.func132.trans (congrArg some (by kernel_rfl))
  f300 := Try.func134.trans (congrArg some (by kernel_rfl))
  f301 := Try.func135.trans (congrArg some (by kernel_rfl))
  f328 := Try.func159.trans (congrArg some (by kernel_rfl))
  f329 := Try.func160.trans (congrArg some (by kernel_rfl))
  f330 := Try.func161.trans (congrArg some (by kernel_rfl))
  f331 := Try.func162.trans (congrArg some (by kernel_rfl))
  f332 := Try.func163.trans (congrArg some (by kernel_rfl))
  f343 := Try.func173.trans (congrArg some (by kernel_rfl))
  t0 := Try.underlying0
  a0 := Try.isAgg0
  z0 := Try.sizeOf0
  v0 := Try.zeroValue0
  t3 := Try.underlying3
  a3 := Try.isAgg3
  z3 := Try.sizeOf3
  v3 := Try.zeroValue3
  t4 := Try.underlying4
  a4 := Try.isAgg4
  z4 := Try.sizeOf4
  v4 := Try.zeroValue4
  t5 := Try.underlying5
  a5 := Try.isAgg5
  z5 := Try.sizeOf5
  v5 := Try.zeroValue5
  t9 := Try.underlying9
  a9 := Try.isAgg9
  z9 := Try.sizeOf9
  v9 := Try.zeroValue9
  t28 := Try.underlying24
  a28 := Try.isAgg24
  z28 := Try.sizeOf24
  v28 := Try.zeroValue24
  t46 := Try.underlying130
  a46 := Try.isAgg130
  z46 := Try.sizeOf130
  v46 := Try.zeroValue130
  t51 := Try.underlying166
  a51 := Try.isAgg166
  z51 := Try.sizeOf166
  v51 := Try.zeroValue166
  t53 := Try.underlying168
  a53 := Try.isAgg168
  z53 := Try.sizeOf168
  v53 := Try.zeroValue168
  t131 := Try.underlying163
  a131 := Try.isAgg163
  z131 := Try.sizeOf163
  v131 := Try.zeroValue163
  t182 := Try.underlying157
  a182 := Try.isAgg157
  z182 := Try.sizeOf157
  v182 := Try.zeroValue157
  t183 := Try.underlying158
  a183 := Try.isAgg158
  z183 := Try.sizeOf158
  v183 := Try.zeroValue158
  t218 := Try.underlying181
  a218 := Try.isAgg181
  z218 := Try.sizeOf181
  v218 := Try.zeroValue181
  t222 := Try.underlying185
  a222 := Try.isAgg185
  z222 := Try.sizeOf185
  v222 := Try.zeroValue185
  t228 := Try.underlying193
  a228 := Try.isAgg193
  z228 := Try.sizeOf193
  v228 := Try.zeroValue193
  t229 := Try.underlying194
  a229 := Try.isAgg194
  z229 := Try.sizeOf194
  v229 := Try.zeroValue194 }
def Try.lays20_ren : Go.Shelf.Ren := ⟨fun | 20 => 55 | n => n, fun | 22 => 24 | 3 => 3 | 4 => 4 | 0 => 0 | n => n, fun | n => n⟩
theorem Try.lays20 : Go.Proofs.Lays2.n20 Try.prog Try.lays20_ren := {
  mixed := by kernel_rfl
  f20 := Try.func55.trans (congrArg some (by kernel_rfl))
  t0 := Try.underlying0
  a0 := Try.isAgg0
  z0 := Try.sizeOf0
  v0 := Try.zeroValue0
  t3 := Try.underlying3
  a3 := Try.isAgg3
  z3 := Try.sizeOf3
  v3 := Try.zeroValue3
  t4 := Try.underlying4
  a4 := Try.isAgg4
  z4 := Try.sizeOf4
  v4 := Try.zeroValue4
  t22 := Try.underlying24
  a22 := Try.isAgg24
  z22 := Try.sizeOf24
  v22 := Try.zeroValue24
  i3 := by kernel_rfl }
end Go.Proofs
namespace Go.Proofs.Ytlfbdafghpmahaa.P
open Go.RowKit Go.Shelf Go.Sort Go.Proofs.YtlfbdafghpmahaaW.PrintWords

theorem below_grow_ {w : World} (os : Array Obj) : Below w.heap.size w (grow w os) := ⟨rfl, rfl, rfl, by simp, fun k hk => (heap_grow_old w os hk)⟩
theorem sortI (base : Nat) (v : Value) (xs : List Int) (w0 W : World) (ho : Kd.R (Kd.int .i64) 3 W base (fun _ => True) v xs) (hb : Below base w0 W) (hsz : xs.length < 4611686018427387904) :
    Calls Try.prog 54 #[v] W fun e w' => e = .returned (.tuple #[]) ∧ Kd.R (Kd.int .i64) 3 w' base (fun _ => True) v (xs.mergeSort fun x y => decide (x ≤ y)) ∧ Below base w0 w' := by
  have hown := Kd.own_of_R ho
  by_cases hv : v = .slice none 0 0
  · subst hv
    have hn : xs = [] := by
      rcases hown.2 with ⟨_, h⟩ | ⟨g, cap, cur, h, _⟩
      · cases xs with
        | nil => rfl
        | cons x r => simp at h
      · cases h
    subst hn
    refine (Any.slices_Sort_int_none Try.lays189 none 0 W).mono ?_
    rintro e w' ⟨rfl, rfl⟩
    exact ⟨rfl, by simpa using ho, hb⟩
  · obtain ⟨g, cap, rfl, hbg, hgl, hnc, hcm, hlen, hH⟩ := Lib.holds_of_ownsRow (enc := Value.int .i64) (zs := xs) hown hv
    refine (Any.slices_Sort_int Try.lays189 g 0 cap xs W hH hgl hsz).mono ?_
    rintro e w' ⟨rfl, n, os, rfl⟩
    have hl2 : (xs.mergeSort fun x y => decide (x ≤ y)).length = xs.length := List.length_mergeSort xs
    have h1 := Lib.ownsRow_putRow (enc := Value.int .i64) (q := n) (k := xs.length) (zs := xs) (ys := xs.mergeSort fun x y => decide (x ≤ y)) hown hl2 (Nat.le_refl _)
    rw [List.take_of_length_le (Nat.le_of_eq hl2)] at h1
    have h2 := pw_own_below h1 (below_grow_ os)
    refine ⟨rfl, Kd.R_of_own (h1 := fun _ => rfl) (by rw [hl2]; exact h2) (fun _ _ => trivial), ?_⟩
    have h3 := Lib.below_putRow (enc := Value.int .i64) (q := n) (d := (xs.mergeSort fun x y => decide (x ≤ y)).toArray) hb hbg
    exact h3.trans ((below_grow_ os).mono (by simp only [putRow, mapBlock, Sort.ahead, Array.size_modify]; omega))
theorem compactI (base : Nat) (v : Value) (xs : List Int) (w0 W : World) (ho : Kd.R (Kd.int .i64) 3 W base (fun _ => True) v xs) (hb : Below base w0 W) (hsz : xs.length ≤ 9223372036854775807) :
    Calls Try.prog 55 #[v] W fun e w' => ∃ v', e = .returned v' ∧ Kd.R (Kd.int .i64) 3 w' base (fun _ => True) v' (Lib.compact xs) ∧ Below base w0 w' := by
  have hown := Kd.own_of_R ho
  by_cases hv : v = .slice none 0 0
  · subst hv
    have hn : xs = [] := by
      rcases hown.2 with ⟨_, h⟩ | ⟨g, cap, cur, h, _⟩
      · cases xs with
        | nil => rfl
        | cons x r => simp at h
      · cases h
    subst hn
    refine (Any.slices_Compact_int_empty Try.lays20 none 0 W).mono ?_
    rintro e w' ⟨rfl, rfl⟩
    exact ⟨_, rfl, ho, hb⟩
  · obtain ⟨g, cap, rfl, hbg, hgl, hnc, hcm, hlen, hH⟩ := Lib.holds_of_ownsRow (enc := Value.int .i64) (zs := xs) hown hv
    refine (Any.slices_Compact_int Try.lays20 g 0 cap xs W hH hsz hnc).mono ?_
    rintro e w' ⟨rfl, q, rfl⟩
    have hle := Lib.compact_length_le xs
    have h1 := Lib.ownsRow_putRow (enc := Value.int .i64) (q := q) (k := (Lib.compact xs).length) (zs := xs) (ys := Lib.compact xs ++ List.replicate (xs.length - (Lib.compact xs).length) 0) hown (by simp; omega) hle
    rw [List.take_left] at h1
    refine ⟨_, rfl, Kd.R_of_own (h1 := fun _ => rfl) h1 (fun _ _ => trivial), ?_⟩
    exact Lib.below_putRow (enc := Value.int .i64) (q := q) hb hbg

end Go.Proofs.Ytlfbdafghpmahaa.P
