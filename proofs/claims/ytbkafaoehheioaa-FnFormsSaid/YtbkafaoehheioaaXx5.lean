-- xprint.py
import Derived.Lib.SliceRun
import Derived.Lib.Walk
import Derived.Shelf.SlSortCmp.NoneTotal
import Derived.Test.YtbkafaoehheioaaXx0
import Derived.Test.YtbkafaoehheioaaXx2
import Derived.Test.YtbkafaoehheioaaXx4
namespace Go.Proofs.Ytbkafaoehheioaa.X
open Go.RowKit Go.Proofs.YtbkafaoehheioaaW.PrintWords Go.Proofs.YtbkafaoehheioaaW.PrintLast Go.Proofs.YtbkafaoehheioaaW.PrintMore
attribute [local go_sem] max2_int min2_int max_two min_two max_three min_three max_four min_four   -- for this text's walks alone
set_option linter.unusedVariables false
set_option linter.unusedSimpArgs false

/-! ### impl_tidyShapes: function 63, by hand -/
-- IMPORT Derived.Shelf.SlSortCmp.NoneTotal
-- IMPORT Derived.Lib.SliceRun
-- COMMONS none

def laySortShape_ren : Go.Shelf.Ren := ⟨fun | 6 => 101 | 15 => 128 | 14 => 127 | 28 => 147 | 29 => 148 | 20 => 139 | 21 => 140 | 22 => 141 | 23 => 142 | 24 => 143 | 25 => 144 | 26 => 145 | 27 => 146 | 46 => 160 | 47 => 161 | 48 => 162 | 49 => 163 | 50 => 164 | 57 => 168 | n => n, fun | 22 => 24 | 24 => 27 | 25 => 70 | 3 => 3 | 39 => 101 | 0 => 0 | 53 => 128 | 55 => 131 | 4 => 4 | 46 => 137 | 45 => 136 | 50 => 76 | 5 => 5 | 9 => 9 | 66 => 154 | 70 => 158 | 76 => 162 | 77 => 163 | n => n, fun | n => n⟩
theorem laySortShape : Go.Proofs.SlLaysF.n6 Try.prog laySortShape_ren := {
 mixed := by kernel_rfl
 f6 := ⟨Try.f101.name, by decide, Try.func101.trans (congrArg some (by kernel_rfl))⟩
 f14 := ⟨Try.f127.name, by decide, Try.func127.trans (congrArg some (by kernel_rfl))⟩
 f15 := Try.func128.trans (congrArg some (by kernel_rfl))
 f20 := ⟨Try.f139.name, by decide, Try.func139.trans (congrArg some (by kernel_rfl))⟩
 f21 := ⟨Try.f140.name, by decide, Try.func140.trans (congrArg some (by kernel_rfl))⟩
 f22 := ⟨Try.f141.name, by decide, Try.func141.trans (congrArg some (by kernel_rfl))⟩
 f23 := ⟨Try.f142.name, by decide, Try.func142.trans (congrArg some (by kernel_rfl))⟩
 f24 := ⟨Try.f143.name, by decide, Try.func143.trans (congrArg some (by kernel_rfl))⟩
 f25 := ⟨Try.f144.name, by decide, Try.func144.trans (congrArg some (by kernel_rfl))⟩
 f26 := ⟨Try.f145.name, by decide, Try.func145.trans (congrArg some (by kernel_rfl))⟩
 f27 := ⟨Try.f146.name, by decide, Try.func146.trans (congrArg some (by kernel_rfl))⟩
 f28 := Try.func147.trans (congrArg some (by kernel_rfl))
 f29 := Try.func148.trans (congrArg some (by kernel_rfl))
 f46 := ⟨Try.f160.name, by decide, Try.func160.trans (congrArg some (by kernel_rfl))⟩
 f47 := Try.func161.trans (congrArg some (by kernel_rfl))
 f48 := Try.func162.trans (congrArg some (by kernel_rfl))
 f49 := ⟨Try.f163.name, by decide, Try.func163.trans (congrArg some (by kernel_rfl))⟩
 f50 := ⟨Try.f164.name, by decide, Try.func164.trans (congrArg some (by kernel_rfl))⟩
 f57 := ⟨Try.f168.name, by decide, Try.func168.trans (congrArg some (by kernel_rfl))⟩
 t0 := Try.underlying0
 a0 := Try.isAgg0
 z0 := Try.sizeOf0
 v0 := Try.zeroValue0
 t3 := Try.underlying3
 a3 := Try.isAgg3
 z3 := Try.sizeOf3
 v3 := Try.zeroValue3
 t4 := Try.underlying4
 a4 := Try.isAgg4
 z4 := Try.sizeOf4
 v4 := Try.zeroValue4
 t5 := Try.underlying5
 a5 := Try.isAgg5
 z5 := Try.sizeOf5
 v5 := Try.zeroValue5
 t9 := Try.underlying9
 a9 := Try.isAgg9
 z9 := Try.sizeOf9
 v9 := Try.zeroValue9
 t22 := Try.underlying24
 a22 := Try.isAgg24
 z22 := Try.sizeOf24
 v22 := Try.zeroValue24
 a24 := Try.isAgg27
 z24 := Try.sizeOf27
 t25 := Try.underlying70
 a25 := Try.isAgg70
 z25 := Try.sizeOf70
 v25 := Try.zeroValue70
 t39 := Try.underlying101
 a39 := Try.isAgg101
 z39 := Try.sizeOf101
 v39 := Try.zeroValue101
 t45 := Try.underlying136
 a45 := Try.isAgg136
 z45 := Try.sizeOf136
 v45 := Try.zeroValue136
 t46 := Try.underlying137
 a46 := Try.isAgg137
 z46 := Try.sizeOf137
 v46 := Try.zeroValue137
 t50 := Try.underlying76
 a50 := Try.isAgg76
 z50 := Try.sizeOf76
 v50 := Try.zeroValue76
 t53 := Try.underlying128
 a53 := Try.isAgg128
 z53 := Try.sizeOf128
 v53 := Try.zeroValue128
 t55 := Try.underlying131
 a55 := Try.isAgg131
 z55 := Try.sizeOf131
 v55 := Try.zeroValue131
 t66 := Try.underlying154
 a66 := Try.isAgg154
 z66 := Try.sizeOf154
 v66 := Try.zeroValue154
 t70 := Try.underlying158
 a70 := Try.isAgg158
 z70 := Try.sizeOf158
 v70 := Try.zeroValue158
 t76 := Try.underlying162
 a76 := Try.isAgg162
 z76 := Try.sizeOf162
 v76 := Try.zeroValue162
 t77 := Try.underlying163
 a77 := Try.isAgg163
 z77 := Try.sizeOf163
 v77 := Try.zeroValue163 }
theorem sortW_block {α : Type} [Inhabited α] (enc : α → Value) {w : World} {g : Nat} {cur : Array Value} {e : TypeId} (hblk : w.heap[g]? = some (.cells cur e (0, 0))) (n : Nat) (d : Array α) (os : Array Obj) :
  (sortWorld enc w g 0 n d os).heap[g]? = some (.cells (Go.Sort.putCells enc 0 d cur) e (0, 0)) ∧ w.grownBy (sortWorld enc w g 0 n d os) (some g) := by
 have hlt : g < w.heap.size := by
  rcases Nat.lt_or_ge g w.heap.size with h | h
  ·exact h
  ·rw [Array.getElem?_eq_none h] at hblk; exact absurd hblk (by simp)
 have hb : ∀ k, k < w.heap.size → (sortWorld enc w g 0 n d os).heap[k]? = (w.heap.modify g (Go.Sort.onCells (Go.Sort.putCells enc 0 d)))[k]? := by
  intro k hk
  unfold sortWorld
  rw [Go.Sort.heap_grow_old]
  ·rfl
  ·rw [Go.Sort.size_putRow]; exact hk
 refine ⟨?_, ⟨rfl, rfl, rfl, ?_, ?_⟩⟩
 ·rw [hb g hlt, Array.getElem?_modify, if_pos rfl, hblk]; rfl
 ·unfold sortWorld Go.Sort.grow; simp only [Array.size_append]; rw [Go.Sort.size_putRow]; show w.heap.size ≤ w.heap.size + _; omega
 ·intro k hk hne
  rw [hb k hk, Array.getElem?_modify, if_neg (fun h => hne (by rw [h]))]
/-- an element of a row of rows, with what is known of it -/
structure El_ (w : World) (base g : Nat) : Type where
 v : Value
 l : List S55
 h : Kd.R k55 55 w base (fun k => some k ≠ some g) v l
def elP_ {w : World} {base g : Nat} (x : El_ w base g) : Value × List S55 := (x.v, x.l)
set_option maxHeartbeats 2000000 in
set_option maxRecDepth 100000 in
theorem sort_rows (g cap : Nat) (es : List (Value × List S55)) (w0 w : World) (hB : Below w0.heap.size w0 w) (hown : w.ownsRow w0.heap.size 27 1 (.slice (some ⟨g, 0, none⟩) es.length cap) es.length (es.map Prod.fst)) (hPR : PR_ w w0.heap.size (some g) es) (hn : 0 < es.length) (hsz : es.length ≤ 1000000) :
  Calls Try.prog 101 #[.slice (some ⟨g, 0, none⟩) es.length cap, .func (.func 65) #[] #[]] w fun e w' => e = .returned (.tuple #[]) ∧
   ∃ es' : List (Value × List S55), es'.Perm es ∧ (es'.map Prod.snd).Pairwise (fun a b => ¬ cfS_ b a < 0) ∧ w'.ownsRow w0.heap.size 27 1 (.slice (some ⟨g, 0, none⟩) es.length cap) es.length (es'.map Prod.fst) ∧ PR_ w' w0.heap.size (some g) es' ∧ Below w0.heap.size w0 w' := by
 obtain ⟨ho1, hv⟩ := hown
 rcases hv with ⟨hv, _⟩ | ⟨g', cap', cur, hv, hge, hblk, hcap, hmax, hcur, htake⟩
 ·exact absurd hv (by simp)
 obtain ⟨rfl, rfl⟩ : g' = g ∧ cap' = cap := by
  injection hv with a b c
  injection a with a
  injection a with a
  exact ⟨a.symm, c.symm⟩
 have hlt : g' < w.heap.size := blk_lt hblk
 obtain ⟨d, hd⟩ : ∃ d : Array (El_ w w0.heap.size g'), d.toList.map elP_ = es := by
  have key : ∀ l : List (Value × List S55), (∀ e ∈ l, e ∈ es) → ∃ d : List (El_ w w0.heap.size g'), d.map elP_ = l := by
   intro l
   induction l with
   | nil => intro _; exact ⟨[], rfl⟩
   | cons e r ih =>
    intro h
    obtain ⟨d, hd⟩ := ih (fun x hx => h x (List.mem_cons_of_mem _ hx))
    exact ⟨⟨e.1, e.2, hPR.own e (h e List.mem_cons_self)⟩ :: d, by rw [List.map_cons, hd]; rfl⟩
  obtain ⟨d, hd⟩ := key es (fun _ h => h)
  exact ⟨d.toArray, hd⟩
 have hds : d.size = es.length := by rw [← hd, List.length_map, Array.length_toList]
 have e0 : El_ w w0.heap.size g' := d[0]'(by omega)
 letI : Inhabited (El_ w w0.heap.size g') := ⟨e0⟩
 obtain ⟨enc, henc⟩ : ∃ enc : El_ w w0.heap.size g' → Value, enc = El_.v := ⟨_, rfl⟩
 have h1 : ∀ x, (enc x).oneCell' = true := fun x => by
  obtain ⟨A, c, hx⟩ := Kd.R_slice x.h
  rw [henc, hx]; rfl
 have hfst : es.map Prod.fst = d.toList.map enc := by rw [← hd, List.map_map, henc]; rfl
 have hH : Go.Sort.Holds enc w g' 0 d := by
  intro j hj
  refine ⟨(blk_cell hblk (0 + j)).trans ?_, blk_frozen hblk _⟩
  have e := congrArg (fun z => z[j]?) htake
  simp only [List.getElem?_take, Nat.mul_one] at e
  rw [if_pos (by omega), hfst, List.getElem?_map, Array.getElem?_toList, Array.getElem?_toList, Array.getElem?_eq_getElem hj] at e
  rw [Nat.zero_add, e, getElem!_pos d j hj]; rfl
 have swo : Go.Sort.SWO (Go.Proofs.ltOf fun x y : El_ w w0.heap.size g' => cfS_ x.l y.l) := by
  refine ⟨fun x => ?_, fun x y z a b => ?_, fun x y z a b => ?_⟩
  ·show decide (cfS_ x.l x.l < 0) = false; rw [cfS_self]; decide
  ·unfold Go.Proofs.ltOf at *; exact decide_eq_true (cfS_trans (of_decide_eq_true a) (of_decide_eq_true b))
  ·unfold Go.Proofs.ltOf at *; exact decide_eq_false (cfS_ntrans (of_decide_eq_false a) (of_decide_eq_false b))
 have hcmp : CmpLays1 Try.prog 65 #[] enc (fun x y => cfS_ x.l y.l) g' 0 d.size w := by
  intro m os dk hs x y
  have hg := (sortW_block enc hblk m dk os).2
  obtain ⟨A, c, hx, _, hCx⟩ := Kd.R_reads (Kd.R_step x.h (fun k hk hlt => hg.block k hlt hk))
  obtain ⟨B, c', hy, _, hCy⟩ := Kd.R_reads (Kd.R_step y.h (fun k hk hlt => hg.block k hlt hk))
  have := compareShapes_grow A c x.l B c' y.l _ hCx hCy
  rw [← hx, ← hy] at this
  rw [henc]
  rw [henc] at this
  exact this
 have hcon := Any.slices_SortFunc laySortShape enc h1 (fun x y => cfS_ x.l y.l) swo 65 #[] g' 0 cap' d w (enters_of Try.func65 (by kernel_rfl) rfl) hcmp hH hlt (by omega)
 change Calls Try.prog 101 _ _ _ at hcon
 rw [hds] at hcon
 refine hcon.mono ?_
 rintro e w' ⟨rfl, d', n, os, hp, hs, rfl⟩
 obtain ⟨hb1, hg1⟩ := sortW_block enc hblk n d' os
 have hd's : d'.size = es.length := hp.1.trans hds
 have hperm : d'.toList.Perm d.toList := by
  have := hp.2.2
  rw [← hds] at this
  rw [show d'.extract 0 d.size = d' by rw [← hp.1]; simp, show d.extract 0 d.size = d by simp] at this
  exact this
 have hpe : (d'.toList.map elP_).Perm es := by rw [← hd]; exact hperm.map _
 refine ⟨rfl, d'.toList.map elP_, hpe, ?_, ⟨?_, Or.inr ⟨g', cap', _, rfl, hge, hb1, hcap, hmax, ?_, ?_⟩⟩, (hPR.move (fun k hk hlt => hg1.block k hlt (fun h => hk (by injection h)))).perm hpe, hB.grown hg1 hB.size (fun k hk => by cases hk; exact hge)⟩
 ·rw [List.map_map, List.pairwise_map, List.pairwise_iff_getElem]
  intro i j hi hj hij
  rw [Array.length_toList] at hi hj
  have h3 := hs i j (Nat.zero_le _) hij (by omega)
  rw [getElem!_pos d' i hi, getElem!_pos d' j hj] at h3
  exact of_decide_eq_false h3
 ·rw [List.length_map, hpe.length_eq]; exact (Nat.mul_one _).symm
 ·unfold Go.Sort.putCells; rw [Array.size_mapIdx]; exact hcur
 ·apply List.ext_getElem?
  intro j
  rw [List.getElem?_take, Array.getElem?_toList]
  unfold Go.Sort.putCells
  by_cases hj : j < d'.size
  ·rw [if_pos (by omega), Array.getElem?_mapIdx, Array.getElem?_eq_getElem (by rw [hcur]; omega)]
   simp only [Option.map_some, Nat.zero_le, true_and, Nat.zero_add, Nat.sub_zero]
   rw [if_pos hj, List.map_map, List.getElem?_map, Array.getElem?_toList, Array.getElem?_eq_getElem hj, getElem!_pos d' j hj, henc]; rfl
  ·rw [if_neg (by omega), List.getElem?_eq_none (by simp; omega)]
theorem cfC_zero {a b : S55} (h : cfC_ a b = 0) : a = b := by
 rcases cfC_cases a b with ⟨_, c⟩ | ⟨_, _, c⟩ | ⟨e, _⟩
 ·rw [c] at h; simp at h
 ·rw [c] at h; simp at h
 ·exact e
theorem dropC2_cons (l : List S55) (j : Nat) (hj : j < l.length) : l.drop j = rd_T55 l (j : Nat) :: l.drop (j + 1) := by
 rw [List.drop_eq_getElem_cons hj]; congr 1
 unfold rd_T55; rw [List.getD_eq_getElem?_getD, Int.toNat_natCast, List.getElem?_eq_getElem hj]; rfl
theorem equal_l0 (xs ys : List S55) (hl : xs.length = ys.length) (hb : xs.length ≤ 9223372036854775807) : ∀ d j : Nat, j + d = xs.length → slices_Equal_Cell.l0 (d + 1) xs ys (xs.length : Int) (j : Nat) = some (decide (cfL_ (xs.drop j) (ys.drop j) = 0)) := by
 intro d
 induction d with
 | zero =>
  intro j hj
  simp only [slices_Equal_Cell.l0]
  rw [if_neg (by omega), List.drop_eq_nil_of_le (by omega)]; rfl
 | succ d ih =>
  intro j hj
  have ih2 := ih (j + 1) (by omega)
  rw [slices_Equal_Cell.l0, if_pos (by omega), if_pos (by omega), if_pos (by omega), if_pos (by omega), dropC2_cons xs j (by omega), dropC2_cons ys j (by omega)]
  have hw : wrap64 ((j : Int) + 1) = ((j + 1 : Nat) : Int) := by unfold wrap64; omega
  rw [hw, ih2]
  generalize rd_T55 xs (j : Int) = x
  generalize rd_T55 ys (j : Int) = y
  by_cases h : cfC_ x y = 0
  ·have e := cfC_zero h
   subst e
   have e0 : cfL_ (x :: xs.drop (j + 1)) (x :: ys.drop (j + 1)) = cfL_ (xs.drop (j + 1)) (ys.drop (j + 1)) := by
    show (if cfC_ x x = 0 then _ else _) = _
    rw [if_pos h]
   rw [e0]; simp
  ·have e0 : cfL_ (x :: xs.drop (j + 1)) (y :: ys.drop (j + 1)) = cfC_ x y := by
    show (if cfC_ x y = 0 then _ else _) = _
    rw [if_neg h]
   have e1 : decide (cfL_ (x :: xs.drop (j + 1)) (y :: ys.drop (j + 1)) = 0) = false := decide_eq_false (by rw [e0]; exact h)
   rw [e1, if_pos]
   have hne : ¬ (x.f0 = y.f0 ∧ x.f1 = y.f1) := fun g => h (by
    have : x = y := by cases x; cases y; cases g.1; cases g.2; rfl
    rw [this]; exact cfC_self y)
   by_cases h0 : x.f0 = y.f0
   ·have h1 : ¬ x.f1 = y.f1 := fun g => hne ⟨h0, g⟩
    simp [h0, h1]
   ·simp [h0]
theorem equal_some (xs ys : List S55) (hb : xs.length ≤ 9223372036854775807) : ∃ k, slices_Equal_Cell.f k xs ys = some (decide (cfS_ xs ys = 0)) := by
 by_cases h : xs.length = ys.length
 ·refine ⟨xs.length + 1, ?_⟩
  have e := equal_l0 xs ys h hb xs.length 0 (by omega)
  rw [List.drop_zero, List.drop_zero] at e
  have e2 : ((0 : Nat) : Int) = 0 := rfl
  rw [e2] at e
  unfold slices_Equal_Cell.f cfS_
  rw [if_pos (by omega), e, if_pos h]
 ·refine ⟨0, ?_⟩
  unfold slices_Equal_Cell.f cfS_
  rw [if_neg (by omega), if_neg h]
  by_cases g : xs.length < ys.length
  ·rw [if_pos g]; rfl
  ·rw [if_neg g]; rfl
set_option maxHeartbeats 1000000 in
theorem equalShapes_walk (k : Nat) (A : Option Addr) (c : Nat) (xs : List S55) (B : Option Addr) (c' : Nat) (ys : List S55) (b : Bool) (W : World) (hA : Kd.C k55 W A xs.length xs) (hc : xs.length ≤ c) (hB : Kd.C k55 W B ys.length ys) (hc' : ys.length ≤ c') (h : slices_Equal_Cell.f k xs ys = some b) :
  Calls Try.prog 103 #[.slice A xs.length c, .slice B ys.length c'] W fun e w' => e = .returned (.bool b) ∧ Drawn0 W w' := by
 go_enter Try.func103, Try.ntmps103
 go_wp2_with fail
 refine (slices_Equal_Cell.calls k A c xs B c' ys b W hA hc hB hc' h).mono ?_
 rintro e w1 ⟨rfl, hd⟩
 go_wp2_with fail
 go_ret
 exact ⟨rfl, hd⟩
theorem equal_rows {w : World} {base g : Nat} {es : List (Value × List S55)} (h : PR_ w base (some g) es) {x y : Value × List S55} (hx : x ∈ es) (hy : y ∈ es) (W : World) (hW : ∀ k, k ≠ g → k < w.heap.size → W.heap[k]? = w.heap[k]?) :
  Calls Try.prog 103 #[x.1, y.1] W fun e w' => e = .returned (.bool (decide (cfS_ x.2 y.2 = 0))) ∧ ∃ m, w' = W.drewN m := by
 have mv : ∀ z ∈ es, Kd.R k55 55 W base (fun k => some k ≠ some g) z.1 z.2 := fun z hz => Kd.R_step (h.own z hz) (fun k hk hlt => hW k (fun e => hk (by rw [e])) hlt)
 obtain ⟨A, c, ha, hc, hA⟩ := Kd.R_reads (mv x hx)
 obtain ⟨B, c', hb, hc', hB⟩ := Kd.R_reads (mv y hy)
 obtain ⟨k, hk⟩ := equal_some x.2 y.2 hA.2.1
 rw [ha, hb]
 exact (equalShapes_walk k A c x.2 B c' y.2 _ W hA hc hB hc' hk).mono fun e w' ⟨he, hd⟩ => ⟨he, hd.out⟩
def ddE_ (l : List (Value × List S55)) : Nat → List (Value × List S55)
 | 0 => []
 | i + 1 => if i ≠ 0 ∧ cfS_ (gE_ l i).2 (gE_ l (i - 1)).2 = 0 then ddE_ l i else ddE_ l i ++ [gE_ l i]
theorem ddE_sub (l : List (Value × List S55)) : ∀ i, i ≤ l.length → (ddE_ l i).Sublist (l.take i) := by
 intro i
 induction i with
 | zero => intro _; exact List.nil_sublist _
 | succ i ih =>
  intro h
  have e : l.take (i + 1) = l.take i ++ [gE_ l i] := by rw [List.take_add_one, gE_get l i (by omega)]; rfl
  unfold ddE_
  rw [e]
  split
  ·exact (ih (by omega)).trans (List.sublist_append_left _ _)
  ·exact (ih (by omega)).append (List.Sublist.refl _)
/-- the row's block in a world: what the first cells are -/
structure RowE_ (w : World) (g cap n : Nat) (m : List (Value × List S55)) (wr : World) : Prop where
 blk : ∃ cur, wr.heap[g]? = some (.cells cur 27 (0, 0)) ∧ cur.size = cap ∧ cur.toList.take n = m.map Prod.fst
 len : m.length = n
 grown : w.grownBy wr (some g)
theorem RowE_.cell {w wr : World} {g cap n : Nat} {m : List (Value × List S55)} (h : RowE_ w g cap n m wr) (p : Nat) (hp : p < n) (x : Value × List S55) (hx : m[p]? = some x) :
  wr.cell? ⟨g, p, none⟩ = some x.1 ∧ wr.frozen? ⟨g, p, none⟩ = false := by
 obtain ⟨cur, hb, hs, ht⟩ := h.blk
 refine ⟨(blk_cell hb _).trans ?_, blk_frozen hb _⟩
 have e := congrArg (fun z => z[p]?) ht
 simp only [List.getElem?_take, Array.getElem?_toList, List.getElem?_map] at e
 rw [if_pos hp, hx] at e
 exact e
theorem RowE_.drewN {w wr : World} {g cap n : Nat} {m : List (Value × List S55)} (h : RowE_ w g cap n m wr) (k : Nat) : RowE_ w g cap n m (wr.drewN k) :=
 ⟨h.blk, h.len, ⟨h.grown.os, h.grown.tape, h.grown.output, h.grown.size, h.grown.block⟩⟩
theorem RowE_.set {w wr : World} {g cap n : Nat} {m : List (Value × List S55)} (h : RowE_ w g cap n m wr) (p : Nat) (x : Value × List S55) : RowE_ w g cap n (m.set p x) (wr.setCell ⟨g, p, none⟩ x.1) := by
 obtain ⟨cur, hb, hs, ht⟩ := h.blk
 refine ⟨⟨_, blk_set hb _ _, by simp [hs], ?_⟩, by rw [List.length_set]; exact h.len, ?_⟩
 ·rw [List.map_set, ← ht, Array.toList_setIfInBounds, List.take_set]
 ·refine ⟨h.grown.os, h.grown.tape, h.grown.output, ?_, fun k hk hne => ?_⟩
  ·have := h.grown.size; simpa [World.setCell] using this
  ·have hkg : k ≠ g := fun e => hne (by rw [e])
   rw [Below.heap_setCell _ _ _ k hkg]; exact h.grown.block k hk hne
theorem clear_rows (w : World) (ty : TypeId) (b o n c : Nat) (hn : 0 < n) (hc : ∀ j, j < n → (w.cell? ⟨b, o + j, none⟩).isSome = true) (hf : ∀ j, j < n → w.frozen? ⟨b, o + j, none⟩ = false) :
  (Builtin.clear_ #[24] ty #[.slice (some ⟨b, o, none⟩) n c]).run Try.prog w = .ok (.tuple #[]) (w.setCells b o (List.replicate n (.slice none 0 0))) := by
 have hst := run_storeCells_cells (P := Try.prog) b o (List.replicate n (.slice none 0 0)) 0 w (by simpa using hc) (by simpa using hf) (by intro v hv'; rw [List.eq_of_mem_replicate hv']; rfl)
 simp only [Nat.add_zero] at hst
 obtain ⟨m, rfl⟩ : ∃ m, n = m + 1 := ⟨n - 1, by omega⟩
 have hz : (Builtin.zeroCells (Value.slice none 0 0).cells (m + 1)).toList = List.replicate (m + 1) (.slice none 0 0) := by
  apply List.ext_getElem
  ·simp [Builtin.zeroCells, Value.cells]
  ·intro i h1 h2
   simp [Builtin.zeroCells, Value.cells, Nat.mod_one]
 have hzv : ∀ W, (zeroValue 27).run Try.prog W = .ok (.slice none 0 0) W := fun W => by kernel_rfl
 simp [Builtin.clear_, run_underlying Try.underlying24, hzv, hz, hst]
theorem setRows_blk {e : TypeId} (g : Nat) : ∀ (vs : List Value) (o : Nat) (wr : World) (cur : Array Value), wr.heap[g]? = some (.cells cur e (0, 0)) → ∃ cur', (wr.setCells g o vs).heap[g]? = some (.cells cur' e (0, 0)) ∧ cur'.size = cur.size ∧ (∀ j, j < o → cur'[j]? = cur[j]?) ∧ (∀ k, k ≠ g → (wr.setCells g o vs).heap[k]? = wr.heap[k]?) ∧ (wr.setCells g o vs).heap.size = wr.heap.size ∧ (wr.setCells g o vs).os = wr.os ∧ (wr.setCells g o vs).tape = wr.tape ∧ (wr.setCells g o vs).output = wr.output := by
 intro vs
 induction vs with
 | nil => intro o wr cur h; exact ⟨cur, h, rfl, fun _ _ => rfl, fun _ _ => rfl, rfl, rfl, rfl, rfl⟩
 | cons v r ih =>
  intro o wr cur h
  obtain ⟨c', h1, h2, h3, h4, h5, h6, h7, h8⟩ := ih (o + 1) (wr.setCell ⟨g, o, none⟩ v) _ (blk_set h o v)
  refine ⟨c', h1, by rw [h2]; simp, fun j hj => ?_, fun k hk => ?_, ?_, h6, h7, h8⟩
  ·rw [h3 j (by omega), Array.getElem?_setIfInBounds_ne (by omega)]
  ·exact (h4 k hk).trans (Below.heap_setCell _ _ _ k hk)
  ·refine h5.trans ?_; simp [World.setCell]
set_option maxHeartbeats 4000000 in
set_option maxRecDepth 100000 in
theorem compact_rows (base g cap : Nat) (l : List (Value × List S55)) (w : World) (h2 : 2 ≤ l.length) (hn : l.length ≤ cap) (hmax : cap ≤ maxLen) (h : RowE_ w g cap l.length l w) (hPR : PR_ w base (some g) l) :
  Calls Try.prog 102 #[.slice (some ⟨g, 0, none⟩) l.length cap, .func (.func 103) #[] #[]] w fun e w' => e = .returned (.slice (some ⟨g, 0, none⟩) (ddE_ l l.length).length cap) ∧ RowE_ w g cap (ddE_ l l.length).length (ddE_ l l.length) w' := by
 have hu1 := Try.underlying24
 simp only [maxLen] at hmax
 have HN := Aside0.mk hn
 have HR := Aside0.mk h
 have hEq : ∀ (p q : Nat) (W : World), p < l.length → q < l.length → (∃ wr, w.grownBy wr (some g) ∧ ∃ n, W = wr.drewN n) → Calls Try.prog 103 #[(gE_ l p).1, (gE_ l q).1] W fun e w' => e = .returned (.bool (decide (cfS_ (gE_ l p).2 (gE_ l q).2 = 0))) ∧ ∃ m, w' = W.drewN m := by
  intro p q W hp hq ⟨wr, hg, n, hW⟩
  exact equal_rows hPR (gE_mem l p hp) (gE_mem l q hq) W (fun k hk hlt => by rw [hW]; exact hg.block k hlt (fun e => hk (by injection e)))
 have HEQ := Aside0.mk hEq
 have HSL : Aside0 (∀ p, p < l.length → ∃ A n c, (gE_ l p).1 = .slice A n c) := ⟨fun p hp => by
  obtain ⟨A, c, e⟩ := Kd.R_slice (hPR.own _ (gE_mem l p hp))
  exact ⟨A, _, c, e⟩⟩
 clear h hEq hPR
 go_enter Try.func102, Try.ntmps102
 have z1 : decide ((l.length : Int) < 2) = false := decide_eq_false (by omega)
 have z2 : decide (l.length < 2) = false := decide_eq_false (by omega)
 go_wp2_with fail
 go_loopg [5] l.length (fun gk v5 wr => ∃ (kx : Int), v5 = .int .i64 kx ∧ Aside0 (RowE_ w g cap l.length l wr) ∧ Aside0 (1 ≤ kx ∧ kx ≤ l.length ∧ gk + kx = l.length + 1) ∧ Aside0 (ddE_ l kx.toNat = l.take kx.toNat))
 case atStart => exact ⟨1, rfl, HR, ⟨by omega⟩, ⟨by
  cases l with
  | nil => simp at h2
  | cons c r => rfl⟩⟩
 case round =>
  clear HR
  obtain ⟨kx, rfl, HR, HK, HD⟩ := hrel
  cases gk with
  | zero => exact absurd HK.out (by omega)
  | succ gk2 =>
   by_cases hlt : kx < (l.length : Int)
   ·have hk1 := HK.out.1
    obtain ⟨x0, _⟩ := HR.out.cell kx.toNat (by omega) _ (gE_get l kx.toNat (by omega))
    obtain ⟨y0, _⟩ := HR.out.cell (kx.toNat - 1) (by omega) _ (gE_get l (kx.toNat - 1) (by omega))
    have hc := fun n => HEQ.out kx.toNat (kx.toNat - 1) (wr.drewN n) (by omega) (by omega) ⟨wr, HR.out.grown, n, rfl⟩
    have hdd : ddE_ l (kx.toNat + 1) = if cfS_ (gE_ l kx.toNat).2 (gE_ l (kx.toNat - 1)).2 = 0 then ddE_ l kx.toNat else ddE_ l kx.toNat ++ [gE_ l kx.toNat] := by
     show (if kx.toNat ≠ 0 ∧ cfS_ (gE_ l kx.toNat).2 (gE_ l (kx.toNat - 1)).2 = 0 then _ else _) = _
     simp only [show kx.toNat ≠ 0 by omega, true_and, ne_eq, not_false_eq_true]
    have HDD := Aside0.mk hdd
    clear hdd
    have HX := Aside0.mk (gE_get l kx.toNat (by omega))
    generalize gE_ l kx.toNat = x at *
    generalize gE_ l (kx.toNat - 1) = y at *
    have c1 : decide (kx < (l.length : Int)) = true := decide_eq_true hlt
    have p0 : 0 ≤ kx := by omega
    have p1 : 0 ≤ kx - 1 := by omega
    have q1 : kx - 1 < (l.length : Int) := by omega
    have wv : IntKind.i64.wrap (kx - 1) = kx - 1 := by rw [IntKind.wrap_i64]; omega
    have HC := Aside0.mk hc
    clear hc
    by_cases hs : cfS_ x.2 y.2 = 0
    ·have HS := Aside0.mk hs
     have hc2 := HC.out
     simp only [decide_eq_true hs] at hc2
     have HC := Aside0.mk hc2
     clear hs hc2
     go_wp2_with fail
     go_quiet ((go_at_call 103; exact Calls.quiet_of (HC.out _)))
     have HRW1 := Aside0.mk (HR.out.drewN nq)
     go_wp2_with fail
     have hK1 : 1 ≤ kx.toNat := by omega
     have hKn : kx.toNat < l.length := by omega
     have hgk : kx = (kx.toNat : Int) := by omega
     have hD := HD.out
     have hDD := HDD.out
     rw [if_pos HS.out] at hDD
     clear x0 y0 HX HDD HD HS c1 p0 p1 q1 hlt HK hk1 wv HC
     generalize kx.toNat = K at *
     subst hgk
     obtain ⟨L2, hL2⟩ : ∃ L2, L2 = l.length - K := ⟨_, rfl⟩
     obtain ⟨C2, hC2⟩ : ∃ C2, C2 = cap - K := ⟨_, rfl⟩
     rw [← hL2, ← hC2]
     have hL2m : L2 ≤ 9223372036854775807 := by omega
     have HL2 := Aside0.mk hL2
     have HC2 := Aside0.mk hC2
     have HKK := Aside0.mk (⟨hK1, hKn⟩ : 1 ≤ K ∧ K < l.length)
     have HD0 := Aside0.mk (⟨hD, hDD⟩ : ddE_ l K = l.take K ∧ ddE_ l (K + 1) = ddE_ l K)
     clear hL2 hC2 hK1 hKn hD hDD
     go_loopg [5, 7] l.length (fun gk v5 v7 wr => ∃ (kv k2 : Int) (m : List (Value × List S55)), v5 = .int .i64 kv ∧ v7 = .int .i64 k2 ∧ Aside0 (1 ≤ k2 ∧ k2 ≤ L2 ∧ gk + (K + k2) = l.length + K + 1) ∧ Aside0 (RowE_ w g cap l.length m wr) ∧ Aside0 (kv = (ddE_ l (K + k2.toNat)).length) ∧ Aside0 (m.take kv.toNat = ddE_ l (K + k2.toNat)) ∧ Aside0 (∀ p, K + k2.toNat ≤ p + 1 → m[p]? = l[p]?) ∧ Aside0 (kv < K + k2))
     case atStart =>
      have e : (ddE_ l (K + (1 : Int).toNat)) = l.take K := by rw [show (1 : Int).toNat = 1 from rfl, HD0.out.2, HD0.out.1]
      have el : (l.take K).length = K := by rw [List.length_take]; have := HKK.out; omega
      exact ⟨K, 1, l, rfl, rfl, ⟨by have := HKK.out; have := HL2.out; omega⟩, HRW1, ⟨by rw [e, el]⟩, ⟨by rw [e]; rfl⟩, ⟨fun p _ => rfl⟩, ⟨by omega⟩⟩
     case round =>
      clear HD0 HRW1
      obtain ⟨kv, k2, m, rfl, rfl, HB2, HRW, HV, HT, HH, HVK⟩ := hrel
      cases gk with
      | zero => exact absurd HB2.out (by have := HKK.out; have := HL2.out; omega)
      | succ gk3 =>
       by_cases hlt2 : k2 < (L2 : Int)
       ·have hb := HB2.out
        have hkk := HKK.out
        have hl2 := HL2.out
        have hvk := HVK.out
        have hk21 : 1 ≤ k2 := hb.1
        have hi : K + k2.toNat < l.length := by omega
        have hm : ∀ p, K + k2.toNat ≤ p + 1 → p < l.length → m[p]? = some (gE_ l p) := fun p h1 h2 => by rw [HH.out p h1]; exact gE_get l p h2
        obtain ⟨x0, _⟩ := HRW.out.cell (K + k2.toNat) hi _ (hm _ (by omega) hi)
        obtain ⟨y0, _⟩ := HRW.out.cell (K + (k2.toNat - 1)) (by omega) _ (hm _ (by omega) (by omega))
        have hml := HRW.out.len
        have hv0 : 0 ≤ kv := by rw [HV.out]; omega
        obtain ⟨o0, s0⟩ := HRW.out.cell kv.toNat (by omega) _ (gE_get m kv.toNat (by omega))
        have hc := fun n => HEQ.out (K + k2.toNat) (K + (k2.toNat - 1)) (wr.drewN n) hi (by omega) ⟨wr, HRW.out.grown, n, rfl⟩
        have hdd : ddE_ l (K + k2.toNat + 1) = if cfS_ (gE_ l (K + k2.toNat)).2 (gE_ l (K + (k2.toNat - 1))).2 = 0 then ddE_ l (K + k2.toNat) else ddE_ l (K + k2.toNat) ++ [gE_ l (K + k2.toNat)] := by
         show (if K + k2.toNat ≠ 0 ∧ cfS_ (gE_ l (K + k2.toNat)).2 (gE_ l (K + k2.toNat - 1)).2 = 0 then _ else _) = _
         rw [show K + k2.toNat - 1 = K + (k2.toNat - 1) by omega]
         simp only [show K + k2.toNat ≠ 0 by omega, true_and, ne_eq, not_false_eq_true]
        have HDD := Aside0.mk hdd
        clear hdd
        have HX := Aside0.mk (hm _ (by omega) hi)
        obtain ⟨Ax, nx, cx, hxs⟩ := HSL.out (K + k2.toNat) hi
        have HXS := Aside0.mk hxs
        clear hxs
        generalize gE_ l (K + k2.toNat) = x at *
        generalize gE_ l (K + (k2.toNat - 1)) = y at *
        generalize gE_ m kv.toNat = old at *
        have HC := Aside0.mk hc
        have c1 : decide (k2 < (L2 : Int)) = true := decide_eq_true hlt2
        have p0 : 0 ≤ k2 := by omega
        have p1 : 0 ≤ k2 - 1 := by omega
        have q1 : k2 - 1 < (L2 : Int) := by omega
        have pv : 0 ≤ kv := hv0
        have qv : kv < (l.length : Int) := by omega
        have wv : IntKind.i64.wrap (k2 - 1) = k2 - 1 := by rw [IntKind.wrap_i64]; omega
        have HI := Aside0.mk hi
        clear hm hi hl2 hkk hb hvk hml hv0 hc
        by_cases hs : cfS_ x.2 y.2 = 0
        ·have HS := Aside0.mk hs
         have hc2 := HC.out
         simp only [decide_eq_true hs] at hc2
         have HC := Aside0.mk hc2
         clear hs hc2
         go_wp2_with fail
         go_quiet ((go_at_call 103; exact Calls.quiet_of (HC.out _)))
         go_wp2_with fail
         go_roundg gk3
         case measure => omega
         case rel =>
          have hdd := HDD.out
          rw [if_pos HS.out] at hdd
          have ek : K + (k2 + 1).toNat = K + k2.toNat + 1 := by omega
          exact ⟨kv, k2 + 1, m, rfl, rfl, ⟨by have := HB2.out; omega⟩, ⟨HRW.out.drewN _⟩, ⟨by rw [ek, hdd]; exact HV.out⟩, ⟨by rw [ek, hdd]; exact HT.out⟩, ⟨fun p hp => HH.out p (by omega)⟩, ⟨by have := HVK.out; omega⟩⟩
        ·have HS := Aside0.mk hs
         have hc2 := HC.out
         simp only [decide_eq_false hs] at hc2
         have HC := Aside0.mk hc2
         clear hs hc2
         have hxs := HXS.out
         clear HXS
         obtain ⟨vx, lx⟩ := x
         dsimp only at *
         subst hxs
         go_wp2_with fail
         go_quiet ((go_at_call 103; exact Calls.quiet_of (HC.out _)))
         go_wp2_with fail
         go_roundg gk3
         case measure => omega
         case rel =>
          have hdd := HDD.out
          rw [if_neg HS.out] at hdd
          have ek : K + (k2 + 1).toNat = K + k2.toNat + 1 := by omega
          have ev : (kv + 1).toNat = kv.toNat + 1 := by omega
          have hml := HRW.out.len
          refine ⟨kv + 1, k2 + 1, m.set kv.toNat (.slice Ax nx cx, lx), rfl, rfl, ⟨by have := HB2.out; omega⟩, ⟨(HRW.out.drewN _).set kv.toNat (.slice Ax nx cx, lx)⟩, ⟨?_⟩, ⟨?_⟩, ⟨fun p hp => ?_⟩, ⟨by have := HVK.out; omega⟩⟩
          ·rw [ek, hdd, List.length_append]; have := HV.out; simp; omega
          ·rw [ek, hdd, ev, List.take_add_one, List.take_set_of_le (Nat.le_refl _), HT.out, List.getElem?_set_self (by omega)]; rfl
          ·have := HVK.out
           rw [List.getElem?_set_ne (by omega)]; exact HH.out p (by omega)
       ·have hb := HB2.out
        have hkk := HKK.out
        have hl2 := HL2.out
        have hvk := HVK.out
        have hv0 : 0 ≤ kv := by rw [HV.out]; omega
        have hek : K + k2.toNat = l.length := by omega
        have hvn : kv.toNat < l.length := by omega
        obtain ⟨cur, hcb, hcs, hct⟩ := HRW.out.blk
        have hcl : ∀ ty, (Builtin.clear_ #[24] ty #[.slice (some ⟨g, kv.toNat, none⟩) (l.length - kv.toNat) (cap - kv.toNat)]).run Try.prog wr = .ok (.tuple #[]) (wr.setCells g kv.toNat (List.replicate (l.length - kv.toNat) (.slice none 0 0))) := by
         intro ty
         refine clear_rows wr ty g _ _ _ (by omega) (fun j hj => ?_) (fun j hj => blk_frozen hcb _)
         rw [blk_cell hcb, Array.getElem?_eq_getElem (by have := HN.out; omega)]; rfl
        have c1 : decide (k2 < (L2 : Int)) = false := decide_eq_false hlt2
        have pv : 0 ≤ kv := hv0
        have qv : kv ≤ (l.length : Int) := by omega
        have HVN := Aside0.mk hvn
        have HEK := Aside0.mk hek
        have HCB := Aside0.mk hcb
        have HCS := Aside0.mk hcs
        have HCT := Aside0.mk hct
        clear hvn hek hcb hcs hct hv0 hvk hl2 hkk hb
        go_wp2_with fail
        ·exact absurd HVN.out (by have := HN.out; omega)
        go_ret
        obtain ⟨cur', d1, d2, d3, d4, d5, d6, d7, d8⟩ := setRows_blk g (List.replicate (l.length - kv.toNat) (.slice none 0 0)) kv.toNat wr cur HCB.out
        have hG := HRW.out.grown
        have hVt := HV.out
        have hTt := HT.out
        have hml := HRW.out.len
        rw [HEK.out] at hVt hTt
        have hvt : kv.toNat = (ddE_ l l.length).length := by omega
        have hnc := HN.out
        have hvn := HVN.out
        have hcs := HCS.out
        have hct := HCT.out
        refine ⟨congrArg (fun n => Ending.returned (Value.slice (some ⟨g, 0, none⟩) n cap)) hvt, ⟨⟨cur', d1, by rw [d2]; exact hcs, ?_⟩, rfl, ⟨by rw [d6]; exact hG.os, by rw [d7]; exact hG.tape, by rw [d8]; exact hG.output, by rw [d5]; exact hG.size, fun k hk hne => (d4 k (fun e => hne (by rw [e]))).trans (hG.block k hk hne)⟩⟩⟩
        rw [← hTt, List.map_take, ← hct, List.take_take, hTt, ← hvt, Nat.min_eq_left (by omega)]
        apply List.ext_getElem?
        intro j
        rw [List.getElem?_take, List.getElem?_take]
        by_cases hj : j < kv.toNat
        ·rw [if_pos hj, if_pos hj, Array.getElem?_toList, Array.getElem?_toList]; exact d3 j hj
        ·rw [if_neg hj, if_neg hj]
    ·have HS := Aside0.mk hs
     have hc2 := HC.out
     simp only [decide_eq_false hs] at hc2
     have HC := Aside0.mk hc2
     clear hs hc2
     go_wp2_with fail
     go_quiet ((go_at_call 103; exact Calls.quiet_of (HC.out _)))
     go_wp2_with fail
     go_roundg gk2
     case measure => omega
     case rel =>
      refine ⟨kx + 1, rfl, ⟨HR.out.drewN _⟩, ⟨by have := HK.out; omega⟩, ⟨?_⟩⟩
      have hDD := HDD.out
      rw [if_neg HS.out, HD.out] at hDD
      rw [show (kx + 1).toNat = kx.toNat + 1 by omega, hDD, List.take_add_one, HX.out]; rfl
   ·have hk : kx = l.length := by have := HK.out; omega
    subst hk
    have e : ddE_ l l.length = l := by have := HD.out; rw [Int.toNat_natCast] at this; rw [this, List.take_length]
    have E := Aside0.mk e
    clear e HD
    go_wp2_with fail
    go_ret
    rw [E.out]
    exact ⟨rfl, HR.out⟩
def ddS_ (s : List (List S55)) : Nat → List (List S55)
 | 0 => []
 | i + 1 => if i ≠ 0 ∧ cfS_ (s.getD i []) (s.getD (i - 1) []) = 0 then ddS_ s i else ddS_ s i ++ [s.getD i []]
def sortS_ (l : List (List S55)) : List (List S55) := l.mergeSort fun x y => !decide (cfS_ y x < 0)
/-- in order, none twice -/
def impl_tidyShapes.f (k : Nat) (l : List (List S55)) : Option (List (List S55)) := if l.length ≤ 1000000 then some (ddS_ (sortS_ l) l.length) else none
theorem impl_tidyShapes.mono : ∀ a0 k, LeO (impl_tidyShapes.f k a0) (impl_tidyShapes.f (k + 1) a0) := fun _ _ => LeO.refl _
theorem gE_snd (l : List (Value × List S55)) (i : Nat) : (gE_ l i).2 = (l.map Prod.snd).getD i [] := by
 unfold gE_
 rw [List.getD_eq_getElem?_getD, List.getD_eq_getElem?_getD, List.getElem?_map]
 cases l[i]? <;> rfl
theorem ddE_snd (l : List (Value × List S55)) : ∀ i, (ddE_ l i).map Prod.snd = ddS_ (l.map Prod.snd) i := by
 intro i
 induction i with
 | zero => rfl
 | succ i ih =>
  unfold ddE_ ddS_
  rw [gE_snd, gE_snd]
  split
  ·exact ih
  ·rw [List.map_append, ih]
   show _ ++ [(gE_ l i).2] = _
   rw [gE_snd]
theorem sortS_unique {s l : List (List S55)} (hp : s.Perm l) (hs : s.Pairwise fun a b => ¬ cfS_ b a < 0) : s = sortS_ l := by
 refine List.Perm.eq_of_pairwise (le := fun a b => ¬ cfS_ b a < 0) (fun a b _ _ h1 h2 => ?_) hs ?_ (hp.trans (List.mergeSort_perm _ _).symm)
 ·refine (cfS_eq (a := a) (b := b) ?_)
  rw [cfS_neg a b] at h1
  omega
 ·have h := List.pairwise_mergeSort (le := fun x y : List S55 => !decide (cfS_ y x < 0)) (fun a b c h1 h2 => by
   simp only [Bool.not_eq_true', decide_eq_false_iff_not] at *
   exact cfS_ntrans h2 h1) (fun a b => by
   by_cases h : cfS_ b a < 0
   ·have : ¬ cfS_ a b < 0 := by rw [cfS_neg b a]; omega
    simp [this]
   ·simp [h]) l
  exact h.imp fun g => by simpa using g
theorem ddS_short (s : List (List S55)) (h : s.length < 2) : ddS_ s s.length = s := by
 match s, h with
 | [], _ => rfl
 | [c], _ => rfl
 | _ :: _ :: _, h => exact absurd h (by simp only [List.length_cons]; omega)
set_option maxHeartbeats 1000000 in
theorem compactS_short (A : Option Addr) (n cap : Nat) (hn : n < 2) (w : World) : Calls Try.prog 102 #[.slice A n cap, .func (.func 103) #[] #[]] w fun e w' => e = .returned (.slice A n cap) ∧ w' = w := by
 have z1 : decide ((n : Int) < 2) = true := decide_eq_true (by omega)
 have z2 : decide (n < 2) = true := decide_eq_true hn
 go_enter Try.func102, Try.ntmps102
 go_wp2
 go_ret
 exact ⟨rfl, rfl⟩
set_option maxHeartbeats 2000000 in
set_option maxRecDepth 100000 in
theorem tidy_none (A : Option Addr) (cap : Nat) (w : World) : Calls Try.prog 63 #[.slice A 0 cap] w fun e w' => e = .returned (.slice A 0 cap) ∧ w' = w := by
 have hs : ∀ W, Calls Try.prog 101 #[.slice A 0 cap, .func (.func 65) #[] #[]] W fun e w' => e = .returned (.tuple #[]) ∧ w' = W := fun W => AnyF.slices_SortFunc_none (P := Try.prog) { laySortShape with } A cap (.func (.func 65) #[] #[]) W
 go_enter Try.func63, Try.ntmps63
 go_wp2_with fail
 refine (hs _).mono ?_
 rintro e w1 ⟨rfl, rfl⟩
 go_wp2_with fail
 refine (compactS_short A 0 cap (by omega) _).mono ?_
 rintro e w1 ⟨rfl, rfl⟩
 go_wp2_with fail
 go_ret
 exact ⟨rfl, rfl⟩
set_option maxHeartbeats 4000000 in
set_option maxRecDepth 100000 in
/-- tidyShapes: a row of the call's own whose rows lie apart, sorted, without repeats -/
theorem tidy_walk (u : Value) (l r : List (List S55)) (w0 w : World) (hB : Below w0.heap.size w0 w) (ho : Kd.S (Kd.slice 55 k55) 27 w w0.heap.size (fun _ => True) u l) (k : Nat) (h : impl_tidyShapes.f k l = some r) :
  Calls Try.prog 63 #[u] w fun e w' => ∃ v, e = .returned v ∧ Kd.S (Kd.slice 55 k55) 27 w' w0.heap.size (fun _ => True) v r ∧ Below w0.heap.size w0 w' := by
 unfold impl_tidyShapes.f at h
 by_cases hb : l.length ≤ 1000000
 rotate_left
 ·rw [if_neg hb] at h; exact absurd h (by simp)
 rw [if_pos hb] at h
 obtain rfl := Option.some.inj h
 clear h
 obtain ⟨es, hes, hown, hPR⟩ := S_split ho
 have hlen : es.length = l.length := by rw [← hes, List.length_map]
 rcases Nat.eq_zero_or_pos l.length with h0 | h0
 ·have hl : l = [] := List.length_eq_zero_iff.1 h0
  subst hl
  obtain ⟨A, c, hu⟩ := Kd.S_slice ho
  have e : ddS_ (sortS_ ([] : List (List S55))) ([] : List (List S55)).length = [] := rfl
  rw [e]
  subst hu
  refine (tidy_none A c w).mono ?_
  rintro e w' ⟨rfl, rfl⟩
  exact ⟨_, rfl, ho, hB⟩
 ·obtain ⟨g, cap, hu, hge⟩ : ∃ g cap, u = .slice (some ⟨g, 0, none⟩) es.length cap ∧ es.length ≤ cap := by
   rcases hown.2 with ⟨_, hn⟩ | ⟨g, cap, cur, hu, _, _, hc, _⟩
   ·omega
   ·exact ⟨g, cap, hu, hc⟩
  subst hu
  have hob : (Value.slice (some ⟨g, 0, none⟩) es.length cap).ownBlock = some g := by simp [Value.ownBlock]
  rw [hob] at hPR
  have HS := Aside0.mk (sort_rows g cap es w0 w hB hown hPR (by omega) (by omega))
  have HES := Aside0.mk hes
  have HLE := Aside0.mk hlen
  have HL0 := Aside0.mk h0
  clear hown hPR hes hB ho hlen h0 hob
  go_enter Try.func63, Try.ntmps63
  go_wp2_with fail
  refine HS.out.mono ?_
  rintro e w1 ⟨rfl, es', hp, hsrt, hown1, hPR1, hB1⟩
  have hl' : es'.length = es.length := hp.length_eq
  have hsn : es'.map Prod.snd = sortS_ l := by
   refine sortS_unique ?_ (hsrt.imp fun g => by omega)
   rw [← HES.out]; exact hp.map _
  rw [← hl'] at hown1
  have HO1 := Aside0.mk hown1
  have HP1 := Aside0.mk hPR1
  have HB1 := Aside0.mk hB1
  have HSN := Aside0.mk hsn
  have HL' := Aside0.mk hl'
  clear hown1 hPR1 hB1 hsn hsrt hp hl'
  go_wp2_with fail
  have hlL : es.length = es'.length := HL'.out.symm
  rw [hlL]
  by_cases h2 : es'.length < 2
  ·refine (compactS_short _ es'.length cap h2 _).mono ?_
   rintro e w2 ⟨rfl, rfl⟩
   have hfin : Kd.S (Kd.slice 55 k55) 27 w2 w0.heap.size (fun _ => True) (.slice (some ⟨g, 0, none⟩) es'.length cap) (ddS_ (sortS_ l) l.length) := by
    have e1 : ddS_ (sortS_ l) l.length = es'.map Prod.snd := by
     rw [← HSN.out]
     have e2 : l.length = (es'.map Prod.snd).length := by rw [List.length_map, HL'.out, HLE.out]
     rw [e2]
     exact ddS_short _ (by rw [List.length_map]; exact h2)
    rw [e1]
    exact S_join HO1.out (by rw [show (Value.slice (some ⟨g, 0, none⟩) es'.length cap).ownBlock = some g by simp [Value.ownBlock]]; exact HP1.out)
   have HF := Aside0.mk hfin
   clear hfin h2 hlL
   go_wp2_with fail
   go_ret
   exact ⟨_, rfl, HF.out, HB1.out⟩
  ·have hrow : RowE_ w1 g cap es'.length es' w1 := by
    obtain ⟨h1, hv⟩ := HO1.out
    rcases hv with ⟨hv, _⟩ | ⟨g', cap', cur, hv, _, hblk, _, _, hcur, htake⟩
    ·exact absurd hv (by simp)
    ·obtain ⟨rfl, rfl⟩ : g' = g ∧ cap' = cap := by
      injection hv with a b c
      injection a with a
      injection a with a
      exact ⟨a.symm, c.symm⟩
     exact ⟨⟨cur, hblk, by rw [hcur]; exact Nat.mul_one _, by rw [Nat.mul_one] at htake; exact htake⟩, rfl, ⟨rfl, rfl, rfl, Nat.le_refl _, fun _ _ _ => rfl⟩⟩
   obtain ⟨hcap, hmax, hge0⟩ : es'.length ≤ cap ∧ cap ≤ maxLen ∧ w0.heap.size ≤ g := by
    rcases HO1.out.2 with ⟨hv, _⟩ | ⟨g', cap', cur, hv, hg0, _, hc, hm, _⟩
    ·exact absurd hv (by simp)
    ·injection hv with a b c
     injection a with a
     injection a with a
     exact ⟨by omega, by rw [c]; exact hm, by rw [a]; exact hg0⟩
   refine (compact_rows w0.heap.size g cap es' w1 (by omega) hcap hmax hrow HP1.out).mono ?_
   rintro e w2 ⟨rfl, hr⟩
   have hsub := ddE_sub es' es'.length (Nat.le_refl _)
   rw [List.take_length] at hsub
   have hdl := hsub.length_le
   obtain ⟨cur2, b1, b2, b3⟩ := hr.blk
   have hg1 := hr.grown
   have hfin : Kd.S (Kd.slice 55 k55) 27 w2 w0.heap.size (fun _ => True) (.slice (some ⟨g, 0, none⟩) (ddE_ es' es'.length).length cap) (ddS_ (sortS_ l) l.length) := by
    have e1 : ddS_ (sortS_ l) l.length = (ddE_ es' es'.length).map Prod.snd := by
     rw [ddE_snd, HSN.out, HL'.out, HLE.out]
    rw [e1]
    refine S_join ⟨by rw [List.length_map]; exact (Nat.mul_one _).symm, Or.inr ⟨g, cap, cur2, rfl, hge0, b1, by omega, hmax, by rw [b2]; exact (Nat.mul_one _).symm, by rw [Nat.mul_one]; exact b3⟩⟩ ?_
    rw [show (Value.slice (some ⟨g, 0, none⟩) (ddE_ es' es'.length).length cap).ownBlock = some g by simp [Value.ownBlock]]
    exact (HP1.out.move (fun k hk hlt => hg1.block k hlt (fun e => hk (by injection e)))).sub hsub
   have HF := Aside0.mk hfin
   have HB2 := Aside0.mk (HB1.out.grown hg1 HB1.out.size (fun k hk => by cases hk; exact hge0))
   clear hfin h2 hlL hrow hcap hmax hge0 hr hsub hdl b1 b2 b3 hg1
   go_wp2_with fail
   go_ret
   exact ⟨_, rfl, HF.out, HB2.out⟩

/-! ### slices_Clone_Cell: function 85, by hand -/
-- IMPORT Derived.Lib.SliceRun
-- IMPORT Derived.Lib.Walk
def slices_Clone_Cell.f (l0 : List S55) : Option (List S55) := if l0.length ≤ 8796093022208 then some l0 else none
set_option maxHeartbeats 2000000 in
set_option maxRecDepth 100000 in
theorem slices_Clone_Cell.calls (A0 : Option Addr) (c0 : Nat) (l0 : List S55) (r : List S55) (w : World) (hr0 : Kd.C k55 w A0 l0.length l0) (hc0 : l0.length ≤ c0) (h : slices_Clone_Cell.f l0 = some r) :
  Calls Try.prog 85 #[.slice A0 l0.length c0] w fun e w' => ∃ v0_ : Value, e = .returned (v0_) ∧ Kd.R k55 55 w' w.heap.size (fun _ => True) v0_ r ∧ Below w.heap.size w w' := by
 have hu1 := Try.underlying27
 have q1 : ∀ (w : World) (a : Option Addr) (n c n' c' : Nat), (binOp .eql 27 (.slice a n c) (.slice none n' c')).run Try.prog w = .ok (.bool a.isNone) w := fun w a n c n' c' => Lib.run_eql_slice_nil w _ _ a n c n' c' Try.underlying27
 unfold slices_Clone_Cell.f at h
 by_cases hb : l0.length ≤ 8796093022208
 ·rw [if_pos hb] at h
  obtain rfl := Option.some.inj h
  cases A0 with
  | none =>
   have hl : l0 = [] := by
    rcases Nat.eq_zero_or_pos l0.length with e | e
    ·exact List.length_eq_zero_iff.1 e
    ·obtain ⟨ad, e1, _⟩ := hr0.2.2 e; exact absurd e1 (by simp)
   subst hl
   go_enter Try.func85, Try.ntmps85
   go_wp2
   go_ret
   exact ⟨_, rfl, Kd.R_nil _ _ _ _ _, Below.refl _ _⟩
  | some ad =>
   obtain ⟨i0, hi, hz⟩ := Option.map_eq_some_iff.1 info55
   simp only [Prod.mk.injEq] at hz
   obtain ⟨hz0, hz1, hz2⟩ := hz
   have hcell : ∀ j u, (flatC_ l0)[j]? = some u → w.cell? (ad.add j) = some u := by
    intro j u hj
    have hlt : j < l0.length * 2 := by rw [← flatC_length]; exact (List.getElem?_eq_some_iff.1 hj).1
    obtain ⟨ad', e1, hc⟩ := hr0.2.2 (by omega)
    cases e1
    have hx : l0[j / 2]? = some (l0[j / 2]'(by omega)) := List.getElem?_eq_getElem (by omega)
    obtain ⟨c, hcl, hR, hcc⟩ := hc (j / 2) _ hx
    have e := kC_M_inv (w := w) (base := 0) (ok := fun _ => True) (x := l0[j / 2]'(by omega)) (cs := c) hR
    obtain ⟨g0, g1⟩ := flatC_get l0 (j / 2) _ hx
    have h2 : j % 2 = 0 ∨ j % 2 = 1 := by omega
    have ej : j = j / 2 * 2 + j % 2 := by omega
    have hs : k55.sz = 2 := rfl
    rw [hs] at hcc
    rcases h2 with h2 | h2
    ·have : j = 2 * (j / 2) := by omega
     rw [this, g0] at hj
     rw [ej, h2]
     exact (hcc 0 _ (by rw [e]; rfl)).trans hj
    ·have : j = 2 * (j / 2) + 1 := by omega
     rw [this, g1] at hj
     rw [ej, h2]
     exact (hcc 1 _ (by rw [e]; rfl)).trans hj
   have HCL := Aside0.mk hcell
   clear hcell
   have hmax : l0.length ≤ maxLen := by simp only [maxLen]; omega
   go_enter Try.func85, Try.ntmps85
   go_wp2_with (at_builtin; refine wpList_append_own _ rfl _ _ 27 rfl w.heap.size 55 i0 (.agg #[(.int .i64 0), (.int .i64 0)]) 2 16 hu1 hi hz0 hz1 hz2 rfl (by omega) _ _ _ rfl (World.ownsRow_made w #[] 0 (Nat.le_refl _) (Nat.zero_le _) (by simp)) ad l0.length c0 (flatC_ l0) rfl ?qc1 ?qc2 ?qc3 ?qc4 ?qc5 ?qc6 ?_)
   case qc1 => exact flatC_length l0
   case qc2 =>
    intro j u hj
    exact Lib.cell?_alloc_some _ (HCL.out j u hj)
   case qc3 => exact flatC_one l0
   case qc5 => omega
   intro v' w1 hown hgrow hnil
   go_wp2
   go_ret
   refine ⟨v', rfl, ownC_R (by simpa using hown) (fun _ _ => trivial), ?_⟩
   exact ((Below.refl _ w).alloc (Nat.le_refl _) _).grown hgrow (by simp) (by intro k hk; simp [Value.ownBlock] at hk; omega)
 ·rw [if_neg hb] at h; exact absurd h (by simp)

/-! ### impl_sorted: function 84 -/
def impl_sorted.f (l0 : List (S55)) : Option ((List (S55))) := (slices_Clone_Cell.f l0).bind fun t520 => ((slices_SortFunc_Cell.f t520).bind fun t523 => (some t523))
set_option maxHeartbeats 8000000 in
set_option maxRecDepth 100000 in
theorem impl_sorted.calls (A0 : Option Addr) (c0 : Nat) (l0 : List (S55)) (r : List (S55)) (w : World) (hr0 : Kd.C k55 w A0 l0.length l0) (hc0 : l0.length ≤ c0) (h : impl_sorted.f l0 = some r) :
  Calls Try.prog 84 #[.slice A0 l0.length c0] w fun e w' => ∃ v0_ : Value, e = .returned (v0_) ∧ Kd.R k55 55 w' w.heap.size (fun _ => True) v0_ r ∧ Below w.heap.size w w' := by
 have HR0 := Aside0.mk hr0
 have HC0 := Aside0.mk hc0
 clear hr0 hc0
 have HB := Aside0.mk (Below.refl w.heap.size w)
 have H : ((slices_Clone_Cell.f l0).bind fun t520 => ((slices_SortFunc_Cell.f t520).bind fun t523 => (some t523))) = some r := h
 clear h
 replace H := Option.bind_eq_some_iff.mp H
 obtain ⟨t520, A20, H⟩ := H
 try dsimp only at H
 have A2 := Aside0.mk A20
 clear A20
 replace H := Option.bind_eq_some_iff.mp H
 obtain ⟨t523, A30, H⟩ := H
 try dsimp only at H
 have A3 := Aside0.mk A30
 clear A30
 obtain rfl := Option.some.inj H
 go_enter Try.func84, Try.ntmps84
 go_wp2_with (first | ((with_reducible refine gate_callee (f := 85) rfl ?_); refine gL_ (some 5) Try.func85 #[.slice A0 l0.length c0] ?_; (with_reducible refine (slices_Clone_Cell.calls _ _ l0 t520 _ ?side1 ?side2 A2.out).mono ?_); (case side1 => exact cS_ HR0.out); (case side2 => exact HC0.out); rintro e w4 ⟨v521, rfl, ho0, hb⟩; refine ⟨_, rfl, ?_⟩; have HO522 := Aside0.mk (Kd.R_lower ho0 (below_size bB_)); replace HB := Aside0.mk (below_step bB_ hb); (try clear hb ho0); obtain ⟨Ao5, co5, eo5⟩ := Kd.R_slice HO522.out; subst eo5) | ((with_reducible refine gate_callee (f := 115) rfl ?_); refine gL_ (some 7) Try.func115 #[.slice Ao5 t520.length co5, .func (.func 105) #[] #[]] ?_; (with_reducible refine (slices_SortFunc_Cell.calls (fun k_ => some k_ = (.slice Ao5 t520.length co5 : Value).ownBlock) (.slice Ao5 t520.length co5) t520  t523 w _ ?side1 ?side2 A3.out).mono ?_); (case side1 => repeat (first | (with_reducible first | exact HB.out | apply below_alloc | apply pw_below_drewN | apply below_drew1) | exact HB.out)); (case side2 => exact Kd.R_tight rfl HO522.out); rintro e w6 ⟨rfl, hy0, hb, hkp⟩; refine ⟨_, rfl, ?_⟩; replace HO522 := Aside0.mk (Kd.R_reok rfl hy0 (fun k_ e_ => HO522.out.1 k_ e_)); replace HB := Aside0.mk (hb); (try clear hb hkp hy0)))
 go_ret
 exact ⟨_, r2_, rS_ HO522.out, bB_⟩

end Go.Proofs.Ytbkafaoehheioaa.X
