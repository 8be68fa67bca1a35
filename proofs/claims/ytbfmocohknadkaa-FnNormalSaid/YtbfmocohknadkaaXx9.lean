-- xprint.py
import Derived.Shelf.SlSortCmp.WholeK
import Derived.Sort.LotA
import Derived.Test.YtbfmocohknadkaaXx0
import Derived.Test.YtbfmocohknadkaaXx3
namespace Go.Proofs.Ytbfmocohknadkaa.X
open Go.RowKit Go.Proofs.YtbfmocohknadkaaW.PrintWords Go.Proofs.YtbfmocohknadkaaW.PrintLast Go.Proofs.YtbfmocohknadkaaW.PrintMore
attribute [local go_sem] max2_int min2_int max_two min_two max_three min_three max_four min_four   -- for this text's walks alone
set_option linter.unusedVariables false
set_option linter.unusedSimpArgs false

/-! ### CommonCell: function -1, by hand -/
/-- a cell's two words -/
def encC_ (x : S57) : List Value := [.int .i64 x.f0, .int .i64 x.f1]
def flatC_ (l : List S57) : List Value := (l.map encC_).flatten
theorem flatC_length : ∀ l : List S57, (flatC_ l).length = l.length * 2 := by
 intro l
 induction l with
 | nil => rfl
 | cons c r ih => show (encC_ c ++ flatC_ r).length = _; rw [List.length_append, ih, List.length_cons]; show 2 + r.length * 2 = _; omega
theorem flatC_get : ∀ (l : List S57) (j : Nat) (x : S57), l[j]? = some x → (flatC_ l)[2 * j]? = some (.int .i64 x.f0) ∧ (flatC_ l)[2 * j + 1]? = some (.int .i64 x.f1) := by
 intro l
 induction l with
 | nil => intro j x h; simp at h
 | cons c r ih =>
  intro j x h
  cases j with
  | zero => simp only [List.getElem?_cons_zero, Option.some.injEq] at h; subst h; exact ⟨rfl, rfl⟩
  | succ j =>
   rw [List.getElem?_cons_succ] at h
   have := ih j x h
   exact this
theorem flatC_one (l : List S57) : ∀ u ∈ flatC_ l, u.oneCell' = true := by
 intro u hu
 obtain ⟨c, hc, hu⟩ := List.mem_flatten.1 hu
 obtain ⟨x, hx, rfl⟩ := List.mem_map.1 hc
 simp [encC_] at hu
 rcases hu with rfl | rfl <;> rfl
theorem flatC_reps {α : Type} (R : S57 → List Value → Prop) (hR : ∀ x, R x (encC_ x)) : ∀ l : List S57, Reps R 2 l (flatC_ l) := by
 intro l
 refine ⟨flatC_length l, ?_⟩
 induction l with
 | nil => intro j p h; simp at h
 | cons c r ih =>
  intro j p h
  cases j with
  | zero => simp only [List.getElem?_cons_zero, Option.some.injEq] at h; subst h; exact hR c
  | succ j =>
   rw [List.getElem?_cons_succ] at h
   have e : (flatC_ (c :: r)).drop ((j + 1) * 2) = (flatC_ r).drop (j * 2) := by
    show (encC_ c ++ flatC_ r).drop _ = _
    rw [show (j + 1) * 2 = (encC_ c).length + j * 2 from by show _ = 2 + j * 2; omega, List.drop_append]
    simp
   rw [e]; exact ih j p h
theorem kC_M (w : World) (base : Nat) (ok : Nat → Prop) (x : S57) : k57.M w base ok x (encC_ x) := ⟨[.int .i64 x.f0], [.int .i64 x.f1], rfl, rfl, rfl⟩
theorem kC_M_inv {w : World} {base : Nat} {ok : Nat → Prop} {x : S57} {cs : List Value} (h : k57.M w base ok x cs) : cs = encC_ x := by
 obtain ⟨a, b, rfl, h1, h2⟩ := h
 have h1' : a = [.int .i64 x.f0] := h1
 have h2' : b = [.int .i64 x.f1] := h2
 rw [h1', h2']; rfl
/-- a row of cells of the call's own, by its cells -/
theorem ownC_R {w : World} {base : Nat} {ok : Nat → Prop} {v : Value} {l : List S57} (h : w.ownsRow base 57 2 v l.length (flatC_ l)) (hok : ∀ k, v.ownBlock = some k → ok k) : Kd.R k57 57 w base ok v l :=
 ⟨hok, flatC_ l, h, flatC_reps (α := Unit) _ (fun x => kC_M w base _ x) l⟩
theorem flatC_of_reps {R : S57 → List Value → Prop} (hR : ∀ x cs, R x cs → cs = encC_ x) : ∀ (l : List S57) (cs : List Value), Reps R 2 l cs → cs = flatC_ l := by
 intro l
 induction l with
 | nil => intro cs h; have := h.1; simp at this; rw [this]; rfl
 | cons c r ih =>
  intro cs h
  have h0 := hR _ _ (h.2 0 c rfl)
  rw [Nat.zero_mul, List.drop_zero] at h0
  have h1 : Reps R 2 r (cs.drop 2) := by
   refine ⟨?_, fun j p hj => ?_⟩
   ·rw [List.length_drop, h.1, List.length_cons]; omega
   ·have := h.2 (j + 1) p (by rw [List.getElem?_cons_succ]; exact hj)
    rw [List.drop_drop, show 2 + j * 2 = (j + 1) * 2 from by omega]; exact this
  have e := ih _ h1
  rw [← List.take_append_drop 2 cs, h0, e]; rfl

/-! ### slices_SortFunc_Cell: function 117, by hand -/
-- IMPORT Derived.Shelf.SlSortCmp.WholeK
-- IMPORT Derived.Sort.LotA
def laySortCell_ren : Go.Shelf.Ren := ⟨fun | 6 => 117 | 15 => 129 | 14 => 128 | 28 => 144 | 29 => 145 | 20 => 136 | 21 => 137 | 22 => 138 | 23 => 139 | 24 => 140 | 25 => 141 | 26 => 142 | 27 => 143 | 46 => 148 | 47 => 149 | 48 => 150 | 49 => 151 | 50 => 152 | 57 => 153 | n => n, fun | 22 => 30 | 24 => 57 | 25 => 88 | 3 => 3 | 39 => 108 | 0 => 0 | 53 => 124 | 55 => 127 | 4 => 4 | 46 => 133 | 45 => 132 | 50 => 93 | 5 => 5 | 9 => 9 | 66 => 143 | 70 => 147 | 76 => 149 | 77 => 150 | n => n, fun | n => n⟩
theorem laySortCell : Go.Proofs.SlLaysF0.n6 Try.prog laySortCell_ren := {
 mixed := by kernel_rfl
 f6 := ⟨Try.f117.name, by decide, Try.func117.trans (congrArg some (by kernel_rfl))⟩
 f14 := ⟨Try.f128.name, by decide, Try.func128.trans (congrArg some (by kernel_rfl))⟩
 f15 := Try.func129.trans (congrArg some (by kernel_rfl))
 f20 := ⟨Try.f136.name, by decide, Try.func136.trans (congrArg some (by kernel_rfl))⟩
 f21 := ⟨Try.f137.name, by decide, Try.func137.trans (congrArg some (by kernel_rfl))⟩
 f22 := ⟨Try.f138.name, by decide, Try.func138.trans (congrArg some (by kernel_rfl))⟩
 f23 := ⟨Try.f139.name, by decide, Try.func139.trans (congrArg some (by kernel_rfl))⟩
 f24 := ⟨Try.f140.name, by decide, Try.func140.trans (congrArg some (by kernel_rfl))⟩
 f25 := ⟨Try.f141.name, by decide, Try.func141.trans (congrArg some (by kernel_rfl))⟩
 f26 := ⟨Try.f142.name, by decide, Try.func142.trans (congrArg some (by kernel_rfl))⟩
 f27 := ⟨Try.f143.name, by decide, Try.func143.trans (congrArg some (by kernel_rfl))⟩
 f28 := Try.func144.trans (congrArg some (by kernel_rfl))
 f29 := Try.func145.trans (congrArg some (by kernel_rfl))
 f46 := ⟨Try.f148.name, by decide, Try.func148.trans (congrArg some (by kernel_rfl))⟩
 f47 := Try.func149.trans (congrArg some (by kernel_rfl))
 f48 := Try.func150.trans (congrArg some (by kernel_rfl))
 f49 := ⟨Try.f151.name, by decide, Try.func151.trans (congrArg some (by kernel_rfl))⟩
 f50 := ⟨Try.f152.name, by decide, Try.func152.trans (congrArg some (by kernel_rfl))⟩
 f57 := ⟨Try.f153.name, by decide, Try.func153.trans (congrArg some (by kernel_rfl))⟩
 t0 := Try.underlying0
 a0 := Try.isAgg0
 z0 := Try.sizeOf0
 v0 := Try.zeroValue0
 t3 := Try.underlying3
 a3 := Try.isAgg3
 z3 := Try.sizeOf3
 v3 := Try.zeroValue3
 t4 := Try.underlying4
 a4 := Try.isAgg4
 z4 := Try.sizeOf4
 v4 := Try.zeroValue4
 t5 := Try.underlying5
 a5 := Try.isAgg5
 z5 := Try.sizeOf5
 v5 := Try.zeroValue5
 t9 := Try.underlying9
 a9 := Try.isAgg9
 z9 := Try.sizeOf9
 v9 := Try.zeroValue9
 t22 := Try.underlying30
 a22 := Try.isAgg30
 z22 := Try.sizeOf30
 v22 := Try.zeroValue30
 t25 := Try.underlying88
 a25 := Try.isAgg88
 z25 := Try.sizeOf88
 v25 := Try.zeroValue88
 t39 := Try.underlying108
 a39 := Try.isAgg108
 z39 := Try.sizeOf108
 v39 := Try.zeroValue108
 t45 := Try.underlying132
 a45 := Try.isAgg132
 z45 := Try.sizeOf132
 v45 := Try.zeroValue132
 t46 := Try.underlying133
 a46 := Try.isAgg133
 z46 := Try.sizeOf133
 v46 := Try.zeroValue133
 t50 := Try.underlying93
 a50 := Try.isAgg93
 z50 := Try.sizeOf93
 v50 := Try.zeroValue93
 t53 := Try.underlying124
 a53 := Try.isAgg124
 z53 := Try.sizeOf124
 v53 := Try.zeroValue124
 t55 := Try.underlying127
 a55 := Try.isAgg127
 z55 := Try.sizeOf127
 v55 := Try.zeroValue127
 t66 := Try.underlying143
 a66 := Try.isAgg143
 z66 := Try.sizeOf143
 v66 := Try.zeroValue143
 t70 := Try.underlying147
 a70 := Try.isAgg147
 z70 := Try.sizeOf147
 v70 := Try.zeroValue147
 t76 := Try.underlying149
 a76 := Try.isAgg149
 z76 := Try.sizeOf149
 v76 := Try.zeroValue149
 t77 := Try.underlying150
 a77 := Try.isAgg150
 z77 := Try.sizeOf150
 v77 := Try.zeroValue150 }
def ltbC_ (a b : S57) : Bool := decide (a.f1 < b.f1 ∨ a.f1 = b.f1 ∧ a.f0 < b.f0)
def cfC_ (a b : S57) : Int := if ltbC_ a b = true then -1 else if ltbC_ b a = true then 1 else 0
def slices_SortFunc_Cell.f (l0 : List S57) : Option (List S57) := if l0.length ≤ 8796093022208 then some (l0.mergeSort fun x y => !ltbC_ y x) else none
theorem cmp_Compare_val (a b : Int) : cmp_Compare_int64.f a b = some (if a < b then -1 else if b < a then 1 else 0) := by
 unfold cmp_Compare_int64.f cmp_isNaN_int64.f
 simp only [bne_self_eq_false, Option.bind_some, Bool.false_eq_true, if_false]
 by_cases h : a < b
 ·simp [h]
 ·by_cases g : b < a <;> simp [h, g]
theorem ltOf_cfC (x y : S57) : Go.Proofs.ltOf cfC_ x y = ltbC_ x y := by
 unfold Go.Proofs.ltOf cfC_
 by_cases h : ltbC_ x y = true
 ·simp [h]
 ·by_cases g : ltbC_ y x = true <;> simp [h, g]
theorem swo_cfC : Go.Sort.SWO (Go.Proofs.ltOf cfC_) where
 irrefl x := by rw [ltOf_cfC]; unfold ltbC_; simp
 trans x y z h1 h2 := by rw [ltOf_cfC] at *; unfold ltbC_ at *; simp at *; omega
 ntrans x y z h1 h2 := by rw [ltOf_cfC] at *; unfold ltbC_ at *; simp at *; omega
set_option maxHeartbeats 1000000 in
theorem compareCells_grow (x y : S57) (W : World) : Calls Try.prog 102 #[.agg #[.int .i64 x.f0, .int .i64 x.f1], .agg #[.int .i64 y.f0, .int .i64 y.f1]] W fun e w' => e = .returned (.int .i64 (cfC_ x y)) ∧ ∃ q os', w' = Go.Sort.grow (W.drewN q) os' := by
 have h1 := fun W' => cmp_Compare_int64.calls x.f1 y.f1 _ W' (cmp_Compare_val _ _)
 have h2 := fun W' => cmp_Compare_int64.calls x.f0 y.f0 _ W' (cmp_Compare_val _ _)
 generalize hr1 : (if x.f1 < y.f1 then (-1 : Int) else if y.f1 < x.f1 then 1 else 0) = r1 at h1
 generalize hr2 : (if x.f0 < y.f0 then (-1 : Int) else if y.f0 < x.f0 then 1 else 0) = r2 at h2
 have hcf : cfC_ x y = if r1 = 0 then r2 else r1 := by
  rw [← hr1, ← hr2]; unfold cfC_ ltbC_
  simp only [decide_eq_true_eq]
  repeat' split
  all_goals omega
 clear hr1 hr2
 rw [hcf]
 clear hcf
 by_cases c : r1 = 0
 ·subst c
  rw [if_pos rfl]
  go_enter Try.func102, Try.ntmps102
  go_wp2_with fail
  refine (h1 _).mono ?_
  rintro e w' ⟨rfl, ⟨n, rfl⟩⟩
  go_wp2_with fail
  refine (h2 _).mono ?_
  rintro e w' ⟨rfl, ⟨m, rfl⟩⟩
  go_wp2_with fail
  go_ret
  exact ⟨rfl, n + m, #[.cells #[.int .i64 x.f0, .int .i64 x.f1] 57 (0, 0), .cells #[.int .i64 y.f0, .int .i64 y.f1] 57 (0, 0)], by rw [Go.Sort.alloc_eq_grow, Go.Sort.alloc_eq_grow, Go.Sort.grow_grow]; simp only [World.drewN, Go.Sort.grow, Nat.add_assoc]; rfl⟩
 ·rw [if_neg c]
  have c' : (r1 == 0) = false := beq_eq_false_iff_ne.mpr c
  go_enter Try.func102, Try.ntmps102
  go_wp2_with fail
  refine (h1 _).mono ?_
  rintro e w' ⟨rfl, ⟨n, rfl⟩⟩
  go_wp2_with fail
  go_ret
  exact ⟨rfl, n, #[.cells #[.int .i64 x.f0, .int .i64 x.f1] 57 (0, 0), .cells #[.int .i64 y.f0, .int .i64 y.f1] 57 (0, 0)], by rw [Go.Sort.alloc_eq_grow, Go.Sort.alloc_eq_grow, Go.Sort.grow_grow]; rfl⟩
theorem flatK_flatC [Inhabited S57] (d : Array S57) (j : Nat) (hj : j < d.size * 2) : (flatC_ d.toList)[j]? = some ((Go.Sort.flatK encC_ 2 d)[j]!) := by
 rw [Go.Sort.get_flatK _ _ _ _ hj]
 have hx : d.toList[j / 2]? = some (d[j / 2]!) := by
  rw [getElem!_pos d (j / 2) (by omega), Array.getElem?_toList, Array.getElem?_eq_getElem (by omega)]
 obtain ⟨g0, g1⟩ := flatC_get d.toList (j / 2) _ hx
 have h2 : j % 2 = 0 ∨ j % 2 = 1 := by omega
 rcases h2 with h2 | h2
 ·rw [h2]
  have : j = 2 * (j / 2) := by omega
  rw [← this] at g0; exact g0
 ·rw [h2]
  have : j = 2 * (j / 2) + 1 := by omega
  rw [← this] at g1; exact g1
theorem sortWorld_block [Inhabited S57] {w : World} {g : Nat} {cur : Array Value} {e : TypeId} (hblk : w.heap[g]? = some (.cells cur e (0, 0))) (n : Nat) (d : Array S57) (os : Array Obj) :
  (sortWorldK encC_ 2 w g 0 n d os).heap[g]? = some (.cells (Go.Sort.putCells id 0 (Go.Sort.flatK encC_ 2 d) cur) e (0, 0)) ∧ w.grownBy (sortWorldK encC_ 2 w g 0 n d os) (some g) := by
 have hlt : g < w.heap.size := by
  rcases Nat.lt_or_ge g w.heap.size with h | h
  ·exact h
  ·rw [Array.getElem?_eq_none h] at hblk; exact absurd hblk (by simp)
 have hb : ∀ k, k < w.heap.size → (sortWorldK encC_ 2 w g 0 n d os).heap[k]? = (w.heap.modify g (Go.Sort.onCells (Go.Sort.putCells id 0 (Go.Sort.flatK encC_ 2 d))))[k]? := by
  intro k hk
  unfold sortWorldK
  rw [Go.Sort.heap_grow_old]
  ·rfl
  ·unfold Go.Sort.putRowK; rw [Go.Sort.size_putRow]; exact hk
 refine ⟨?_, ⟨rfl, rfl, rfl, ?_, ?_⟩⟩
 ·rw [hb g hlt, Array.getElem?_modify, if_pos rfl, hblk]; rfl
 ·unfold sortWorldK Go.Sort.grow Go.Sort.putRowK; simp only [Array.size_append]; rw [Go.Sort.size_putRow]; show w.heap.size ≤ w.heap.size + _; omega
 ·intro k hk hne
  rw [hb k hk, Array.getElem?_modify, if_neg (fun h => hne (by rw [h]))]
set_option maxHeartbeats 2000000 in
set_option maxRecDepth 100000 in
/-- nothing is sorted at nil -/
theorem sortFunc_nil (w : World) : Calls Try.prog 117 #[.slice none 0 0, .func (.func 102) #[] #[]] w fun e w' => e = .returned (.tuple #[]) ∧ ∃ n, w' = w.drewN n := by
 have hl : ∀ W : World, Calls Try.prog 129 #[.int .u64 0] W fun e w' => e = .returned (.int .i64 0) ∧ w' = W := fun W => Any.bits_Len (SlLaysF0.n15.bits (P := Try.prog) (ρ := laySortCell_ren) { laySortCell with }) 0 W (by omega) (by omega)
 have hi : ∀ W : World, Calls Try.prog 136 #[.slice none 0 0, .int .i64 0, .int .i64 0, .func (.func 102) #[] #[]] W fun e w' => e = .returned (.tuple #[]) ∧ w' = W := by
  intro W
  go_enter Try.func136, Try.ntmps136
  go_wp2
  go_loopg [8] 0 (fun gk v8 w' => v8 = .int .i64 1 ∧ w' = W)
  case atStart => exact ⟨rfl, rfl⟩
  case round =>
   obtain ⟨rfl, rfl⟩ := hrel
   go_wp2
   go_end0
   exact ⟨rfl, rfl⟩
 have hp : ∀ W : World, Calls Try.prog 128 #[.slice none 0 0, .int .i64 0, .int .i64 0, .int .i64 0, .func (.func 102) #[] #[]] W fun e w' => e = .returned (.tuple #[]) ∧ w' = W := by
  intro W
  go_enter Try.func128, Try.ntmps128
  go_wp2
  go_loopg [1, 2, 3] 0 (fun gk v1 v2 v3 w' => v1 = .int .i64 0 ∧ v2 = .int .i64 0 ∧ v3 = .int .i64 0 ∧ w' = W)
  case atStart => exact ⟨rfl, rfl, rfl, rfl⟩
  case round =>
   obtain ⟨rfl, rfl, rfl, rfl⟩ := hrel
   go_wp2_with fail
   refine (hi _).mono ?_
   rintro e w' ⟨rfl, rfl⟩
   go_wp2_with fail
   refine bodyPost_ret (results_none rfl _ _ _) rfl ?_
   exact ⟨rfl, rfl⟩
 go_enter Try.func117, Try.ntmps117
 go_wp2_with fail
 refine (hl _).mono ?_
 rintro e w' ⟨rfl, rfl⟩
 go_wp2_with fail
 refine (hp _).mono ?_
 rintro e w' ⟨rfl, rfl⟩
 go_wp2_with fail
 go_end0
 exact ⟨rfl, 0, rfl⟩
set_option maxHeartbeats 2000000 in
set_option maxRecDepth 100000 in
theorem slices_SortFunc_Cell.calls (P0_ : Nat → Prop) (u9000_ : Value) (l0 : List (S57))  (r : List (S57)) (w0 w : World) (hB : Below w0.heap.size w0 w) (ho0 : Kd.R k57 57 w w0.heap.size P0_ u9000_ l0) (h : slices_SortFunc_Cell.f l0 = some r) :
  Calls Try.prog 117 #[u9000_, .func (.func 102) #[] #[]] w fun e w' => e = .returned (.tuple #[]) ∧ Kd.R k57 57 w' w0.heap.size (fun k_ => (P0_ k_ ∨ w.heap.size ≤ k_)) u9000_ r ∧ Below w0.heap.size w0 w' ∧ Kept w w' (fun k_ => P0_ k_) := by
 unfold slices_SortFunc_Cell.f at h
 by_cases hb : l0.length ≤ 8796093022208
 rotate_left
 ·rw [if_neg hb] at h; exact absurd h (by simp)
 rw [if_pos hb] at h
 obtain rfl := Option.some.inj h
 have ho1 := ho0
 obtain ⟨hok, inner, ⟨hlen, hv⟩, hreps⟩ := ho0
 have hin : inner = flatC_ l0 := flatC_of_reps (fun x cs hx => kC_M_inv hx) l0 inner hreps
 rcases hv with ⟨rfl, hn⟩ | ⟨g, cap, cur, rfl, hge, hblk, hcap, hmax, hcur, htake⟩
 ·have hl : l0 = [] := List.length_eq_zero_iff.1 hn
  subst hl
  refine (sortFunc_nil w).mono ?_
  rintro e w' ⟨rfl, n, rfl⟩
  have e : ([] : List S57).mergeSort (fun x y => !ltbC_ y x) = [] := by simp
  rw [e]
  exact ⟨rfl, Kd.R_nil _ _ _ _ _, pw_below_drewN hB n, Kept.of_below (pw_below_drewN (Below.refl _ _) n) _⟩
 ·letI : Inhabited S57 := ⟨⟨0, 0⟩⟩
  have hlt : g < w.heap.size := blk_lt hblk
  have hH : Go.Sort.HoldsK encC_ 2 w g 0 l0.toArray := by
   intro j hj
   rw [Go.Sort.size_flatK, List.size_toArray] at hj
   refine ⟨(blk_cell hblk (0 + j)).trans ?_, blk_frozen hblk _⟩
   have e := flatK_flatC l0.toArray j (by rw [List.size_toArray]; exact hj)
   rw [← hin, ← htake, List.getElem?_take, if_pos (by show j < l0.length * 2; exact hj), Array.getElem?_toList] at e
   rw [Nat.zero_add]; exact e
  have hcon := AnyQ.slices_SortFunc laySortCell 2 Try.isAgg57 Try.sizeOf57 encC_ (fun _ => rfl) (fun x v hv => by simp [encC_] at hv; rcases hv with rfl | rfl <;> rfl) cfC_ swo_cfC 102 #[] g 0 cap l0.toArray w (enters_of Try.func102 (by kernel_rfl) rfl) (fun _ _ _ _ x y => compareCells_grow x y _) hH hlt (by rw [List.size_toArray]; omega)
  change Calls Try.prog 117 _ _ _ at hcon
  rw [List.size_toArray] at hcon
  refine hcon.mono ?_
  rintro e w' ⟨rfl, d', n, os, hp, hs, rfl⟩
  have hd : d'.toList = l0.mergeSort fun x y => !ltbC_ y x := by
   have := Go.Sort.sorted_unique_holds (lt := ltOf cfC_) swo_cfC (fun x y h1 h2 => by
    rw [ltOf_cfC] at h1 h2
    unfold ltbC_ at h1 h2
    simp only [decide_eq_false_iff_not] at h1 h2
    have e0 : x.f0 = y.f0 := by omega
    have e1 : x.f1 = y.f1 := by omega
    cases x; cases y; cases e0; cases e1; rfl) l0.toArray d' (by rw [List.size_toArray]; exact hp) (by rw [List.size_toArray]; exact hs)
   rw [this]; congr 1; funext x y; rw [ltOf_cfC]
  obtain ⟨hb1, hg1⟩ := sortWorld_block hblk n d' os
  have hbel := hB.grown hg1 hB.size (fun k hk => by cases hk; exact hge)
  have hlen' : d'.size = l0.length := by have := hp.1; rw [List.size_toArray] at this; exact this
  rw [← hd]
  refine ⟨rfl, ownC_R ⟨?_, Or.inr ⟨g, cap, _, ?_, hge, hb1, ?_, hmax, ?_, ?_⟩⟩ ?_, hbel, ?_⟩
  ·rw [flatC_length]
  ·exact congrArg (fun n => Value.slice (some ⟨g, 0, none⟩) n cap) (by rw [Array.length_toList]; exact hlen'.symm)
  ·rw [Array.length_toList, hlen']; exact hcap
  ·unfold Go.Sort.putCells; rw [Array.size_mapIdx]; exact hcur
  ·apply List.ext_getElem?
   intro j
   rw [List.getElem?_take, Array.getElem?_toList]
   unfold Go.Sort.putCells
   by_cases hj : j < d'.toList.length * 2
   ·rw [if_pos hj, Array.length_toList] at *
    rw [flatK_flatC d' j hj, Array.getElem?_mapIdx, Array.getElem?_eq_getElem (by rw [hcur]; show j < cap * 2; omega)]
    simp only [Option.map_some, Go.Sort.size_flatK, Nat.zero_add, Nat.zero_le, true_and, Nat.sub_zero, id]
    rw [if_pos hj]
   ·rw [if_neg hj, List.getElem?_eq_none (by rw [flatC_length]; omega)]
  ·intro k hk; exact Or.inl (hok k hk)
  ·refine ⟨hg1.size, fun i hi hn => hg1.block i hi (fun he => hn (by cases he; exact hok g rfl))⟩

end Go.Proofs.Ytbfmocohknadkaa.X
