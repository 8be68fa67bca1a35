-- xprint.py
import Derived.Test.YtbkafaoehheioaaXx0
import Derived.Test.YtbkafaoehheioaaXx1
import Derived.Test.YtbkafaoehheioaaXx2
namespace Go.Proofs.Ytbkafaoehheioaa.X
open Go.RowKit Go.Proofs.YtbkafaoehheioaaW.PrintWords Go.Proofs.YtbkafaoehheioaaW.PrintLast Go.Proofs.YtbkafaoehheioaaW.PrintMore
attribute [local go_sem] max2_int min2_int max_two min_two max_three min_three max_four min_four   -- for this text's walks alone
set_option linter.unusedVariables false
set_option linter.unusedSimpArgs false

attribute [local go_sem high] eqA55
/-! ### CommonShapes: function -1, by hand -/
/-- how two rows of cells of one length stand to each other: -1, 0, 1 -/
def cfL_ : List S55 → List S55 → Int
 | a :: r, b :: s => if cfC_ a b = 0 then cfL_ r s else cfC_ a b
 | _, _ => 0
def cfS_ (l m : List S55) : Int := if l.length = m.length then cfL_ l m else if l.length < m.length then -1 else 1
theorem cfC_cases (a b : S55) : (ltbC_ a b = true ∧ cfC_ a b = -1) ∨ (ltbC_ a b = false ∧ ltbC_ b a = true ∧ cfC_ a b = 1) ∨ (a = b ∧ cfC_ a b = 0) := by
 by_cases h : ltbC_ a b = true
 ·exact Or.inl ⟨h, by unfold cfC_; rw [if_pos h]⟩
 ·have h' : ltbC_ a b = false := Bool.eq_false_iff.mpr h
  by_cases g : ltbC_ b a = true
  ·exact Or.inr (Or.inl ⟨h', g, by unfold cfC_; rw [if_neg h, if_pos g]⟩)
  ·refine Or.inr (Or.inr ⟨?_, by unfold cfC_; rw [if_neg h, if_neg g]⟩)
   unfold ltbC_ at h g
   simp only [decide_eq_true_eq] at h g
   have e0 : a.f0 = b.f0 := by omega
   have e1 : a.f1 = b.f1 := by omega
   cases a; cases b; cases e0; cases e1; rfl
theorem ltbC_trans {a b c : S55} (h : ltbC_ a b = true) (g : ltbC_ b c = true) : ltbC_ a c = true := by unfold ltbC_ at *; simp at *; omega
theorem ltbC_irrefl (a : S55) : ltbC_ a a = false := by unfold ltbC_; simp
theorem cfC_self (a : S55) : cfC_ a a = 0 := by unfold cfC_; simp [ltbC_irrefl]
theorem cfL_self (a : List S55) : cfL_ a a = 0 := by
 induction a with
 | nil => rfl
 | cons x r ih => simp only [cfL_, cfC_self, if_true]; exact ih
theorem cfL_eq (a : List S55) : ∀ b, a.length = b.length → cfL_ a b = 0 → a = b := by
 induction a with
 | nil => intro b h _; exact (List.length_eq_zero_iff.1 (by simpa using h.symm)).symm
 | cons x r ih =>
  intro b h g
  cases b with
  | nil => simp at h
  | cons y s =>
   simp only [cfL_] at g
   rcases cfC_cases x y with ⟨_, c⟩ | ⟨_, _, c⟩ | ⟨e, c⟩
   ·rw [c] at g; simp at g
   ·rw [c] at g; simp at g
   ·rw [if_pos c] at g; rw [e, ih s (by simpa using h) g]
theorem cfL_neg (a : List S55) : ∀ b, cfL_ b a = -cfL_ a b := by
 induction a with
 | nil => intro b; cases b <;> rfl
 | cons x r ih =>
  intro b
  cases b with
  | nil => rfl
  | cons y s =>
   simp only [cfL_]
   rcases cfC_cases x y with ⟨p, c⟩ | ⟨p, q, c⟩ | ⟨e, c⟩
   ·have d : cfC_ y x = 1 := by
     rcases cfC_cases y x with ⟨p2, _⟩ | ⟨_, _, d⟩ | ⟨e, _⟩
     ·have := ltbC_trans p p2; rw [ltbC_irrefl] at this; cases this
     ·exact d
     ·rw [e, ltbC_irrefl] at p; cases p
    rw [c, d]; rfl
   ·have d : cfC_ y x = -1 := by
     rcases cfC_cases y x with ⟨_, d⟩ | ⟨p2, _, _⟩ | ⟨e, _⟩
     ·exact d
     ·rw [q] at p2; cases p2
     ·rw [e, ltbC_irrefl] at q; cases q
    rw [c, d]; rfl
   ·subst e; rw [c, if_pos rfl, if_pos rfl]; exact ih s
theorem cfL_trans (a : List S55) : ∀ b c, a.length = b.length → b.length = c.length → cfL_ a b < 0 → cfL_ b c < 0 → cfL_ a c < 0 := by
 induction a with
 | nil => intro b c _ _ h; simp [cfL_] at h
 | cons x r ih =>
  intro b c h1 h2 g1 g2
  cases b with
  | nil => simp at h1
  | cons y s =>
   cases c with
   | nil => simp at h2
   | cons z t =>
    simp only [cfL_] at g1 g2 ⊢
    rcases cfC_cases x y with ⟨p, c⟩ | ⟨p, q, c⟩ | ⟨e, c⟩
    ·rcases cfC_cases y z with ⟨p2, c2⟩ | ⟨p2, q2, c2⟩ | ⟨e2, c2⟩
     ·rcases cfC_cases x z with ⟨_, c3⟩ | ⟨p3, _, _⟩ | ⟨e3, _⟩
      ·rw [c3]; simp
      ·rw [ltbC_trans p p2] at p3; cases p3
      ·rw [e3] at p; have := ltbC_trans p p2; rw [ltbC_irrefl] at this; cases this
     ·rw [c2] at g2; simp at g2
     ·subst e2; rw [c]; simp
    ·rw [c] at g1; simp at g1
    ·subst e
     rw [if_pos c] at g1
     rcases cfC_cases x z with ⟨p2, c2⟩ | ⟨p2, q2, c2⟩ | ⟨e2, c2⟩
     ·rw [c2]; simp
     ·rw [c2] at g2; simp at g2
     ·rw [if_pos c2] at g2 ⊢; exact ih s t (by simpa using h1) (by simpa using h2) g1 g2
theorem cfL_range (a : List S55) : ∀ b, cfL_ a b = -1 ∨ cfL_ a b = 0 ∨ cfL_ a b = 1 := by
 induction a with
 | nil => intro b; exact Or.inr (Or.inl rfl)
 | cons x r ih =>
  intro b
  cases b with
  | nil => exact Or.inr (Or.inl rfl)
  | cons y s =>
   simp only [cfL_]
   rcases cfC_cases x y with ⟨_, c⟩ | ⟨_, _, c⟩ | ⟨_, c⟩
   ·rw [c]; exact Or.inl rfl
   ·rw [c]; exact Or.inr (Or.inr rfl)
   ·rw [if_pos c]; exact ih s
theorem cfS_eq {a b : List S55} (h : cfS_ a b = 0) : a = b := by
 unfold cfS_ at h
 by_cases c : a.length = b.length
 ·rw [if_pos c] at h; exact cfL_eq a b c h
 ·rw [if_neg c] at h; split at h <;> simp at h
theorem cfS_self (a : List S55) : cfS_ a a = 0 := by unfold cfS_; rw [if_pos rfl]; exact cfL_self a
theorem cfS_neg (a b : List S55) : cfS_ b a = -cfS_ a b := by
 unfold cfS_
 by_cases h : a.length = b.length
 ·rw [if_pos h, if_pos h.symm]; exact cfL_neg a b
 ·rw [if_neg h, if_neg (fun g => h g.symm)]
  by_cases g : a.length < b.length
  ·rw [if_pos g, if_neg (by omega)]; rfl
  ·rw [if_neg g, if_pos (by omega)]
theorem cfS_trans {a b c : List S55} (h : cfS_ a b < 0) (g : cfS_ b c < 0) : cfS_ a c < 0 := by
 unfold cfS_ at *
 by_cases h1 : a.length = b.length
 ·by_cases h2 : b.length = c.length
  ·rw [if_pos h1] at h; rw [if_pos h2] at g; rw [if_pos (h1.trans h2)]
   exact cfL_trans a b c h1 h2 h g
  ·rw [if_neg h2] at g
   rw [if_neg (by omega)]
   by_cases g2 : b.length < c.length
   ·rw [if_pos (by omega)]; decide
   ·rw [if_neg g2] at g; simp at g
 ·rw [if_neg h1] at h
  by_cases g1 : a.length < b.length
  ·by_cases h2 : b.length = c.length
   ·rw [if_neg (by omega), if_pos (by omega)]; decide
   ·rw [if_neg h2] at g
    by_cases g2 : b.length < c.length
    ·rw [if_neg (by omega), if_pos (by omega)]; decide
    ·rw [if_neg g2] at g; simp at g
  ·rw [if_neg g1] at h; simp at h
theorem cfS_ntrans {a b c : List S55} (h : ¬ cfS_ a b < 0) (g : ¬ cfS_ b c < 0) : ¬ cfS_ a c < 0 := by
 intro k
 by_cases e : cfS_ a b = 0
 ·rw [cfS_eq e] at k; exact g k
 ·have h2 : cfS_ b a < 0 := by rw [cfS_neg a b]; omega
  exact g (cfS_trans h2 k)
set_option maxHeartbeats 4000000 in
set_option maxRecDepth 100000 in
theorem compareFunc_grow (A : Option Addr) (c : Nat) (xs : List S55) (B : Option Addr) (c' : Nat) (ys : List S55) (hl : xs.length = ys.length) (w : World) (hA : Kd.C k55 w A xs.length xs) (hB : Kd.C k55 w B ys.length ys) :
  Calls Try.prog 104 #[.slice A xs.length c, .slice B ys.length c', .func (.func 105) #[] #[]] w fun e w' => e = .returned (.int .i64 (cfL_ xs ys)) ∧ ∃ q os, w' = Go.Sort.grow (w.drewN q) os := by
 have hu2 := Try.underlying55
 have HA := Aside0.mk hA
 have HBB := Aside0.mk hB
 have hl1 : xs.length ≤ 9223372036854775807 := hA.2.1
 have HL := Aside0.mk hl
 obtain ⟨R, hR⟩ : ∃ R, R = cfL_ xs ys := ⟨_, rfl⟩
 rw [← hR]
 have HR := Aside0.mk hR
 clear hA hB hl hR
 go_enter Try.func104, Try.ntmps104
 go_wp2_with fail
 go_loopg [13] xs.length (fun gk v13 wr => ∃ (j : Nat) (q : Nat) (os : Array Obj), v13 = .int .i64 j ∧ Aside0 (gk + j = xs.length) ∧ Aside0 (R = cfL_ (xs.drop j) (ys.drop j)) ∧ Aside0 (wr = Go.Sort.grow (w.drewN q) os))
 case atStart => exact ⟨0, 0, #[], rfl, ⟨rfl⟩, ⟨HR.out⟩, ⟨by rw [Go.Sort.grow_empty]; rfl⟩⟩
 case round =>
  obtain ⟨j, q, os, rfl, HK, HE, HW⟩ := hrel
  have hcell : ∀ a u, w.cell? a = some u → wr.cell? a = some u := fun a u hu => by
   rw [HW.out]
   exact (Go.Sort.cell?_grow _ _ _ (World.block_lt_of_cell? w _ hu)).trans hu
  have HCE := Aside0.mk hcell
  clear hcell
  cases gk with
  | zero =>
   have hj : j = xs.length := by have := HK.out; omega
   have d1 : decide ((j : Int) < (xs.length : Int)) = false := decide_eq_false (by omega)
   have d2 : decide (j < xs.length) = false := decide_eq_false (by omega)
   have hl := HL.out
   have d3 : decide ((xs.length : Int) < (ys.length : Int)) = false := decide_eq_false (by omega)
   have d4 : decide (xs.length < ys.length) = false := decide_eq_false (by omega)
   have he := HE.out
   rw [hj, List.drop_length] at he
   have he2 : R = 0 := he
   have HE2 := Aside0.mk he2
   clear hj hl he he2 HE
   go_wp2_with fail
   go_ret
   exact ⟨by rw [HE2.out]; rfl, q, os, HW.out⟩
  | succ gk2 =>
   have hj : j < xs.length := by have := HK.out; omega
   have hj' : j < ys.length := by have := HL.out; omega
   have p1 : 0 ≤ (j : Int) := by omega
   have q1 : (j : Int) < (xs.length : Int) := by omega
   have q2 : (j : Int) < (ys.length : Int) := by omega
   obtain ⟨ad, e1, hx0, hx1⟩ := at_T55 HA.out j p1 q1
   obtain ⟨ad', e2, hy0, hy1⟩ := at_T55 HBB.out j p1 q2
   subst e1 e2
   rw [Int.toNat_natCast] at hx0 hx1 hy0 hy1
   replace hx0 := HCE.out _ _ hx0
   replace hx1 := HCE.out _ _ hx1
   replace hy0 := HCE.out _ _ hy0
   replace hy1 := HCE.out _ _ hy1
   have d1 : decide ((j : Int) < (xs.length : Int)) = true := decide_eq_true q1
   have d2 : decide (j < xs.length) = true := decide_eq_true hj
   have d3 : decide ((ys.length : Int) ≤ (j : Int)) = false := decide_eq_false (by omega)
   have d4 : decide (ys.length ≤ j) = false := decide_eq_false (by omega)
   have d5 : decide ((j : Int) < (ys.length : Int)) = true := decide_eq_true q2
   have d6 : decide (j < ys.length) = true := decide_eq_true hj'
   have he := HE.out
   have hdx : xs.drop j = rd_T55 xs j :: xs.drop (j + 1) := by
    rw [List.drop_eq_getElem_cons hj]; congr 1
    unfold rd_T55; rw [List.getD_eq_getElem?_getD, Int.toNat_natCast, List.getElem?_eq_getElem hj]; rfl
   have hdy : ys.drop j = rd_T55 ys j :: ys.drop (j + 1) := by
    rw [List.drop_eq_getElem_cons hj']; congr 1
    unfold rd_T55; rw [List.getD_eq_getElem?_getD, Int.toNat_natCast, List.getElem?_eq_getElem hj']; rfl
   rw [hdx, hdy] at he
   clear hdx hdy HE
   generalize rd_T55 xs (j : Int) = x at *
   generalize rd_T55 ys (j : Int) = y at *
   replace hy0 := Lib.cell?_alloc_some (.cells #[.int .i64 x.f0, .int .i64 x.f1] 55 (0, 0)) hy0
   replace hy1 := Lib.cell?_alloc_some (.cells #[.int .i64 x.f0, .int .i64 x.f1] 55 (0, 0)) hy1
   have he2 : R = if cfC_ x y = 0 then cfL_ (xs.drop (j + 1)) (ys.drop (j + 1)) else cfC_ x y := he
   have HE := Aside0.mk he2
   clear he he2 hj hj'
   go_wp2_with fail
   refine (compareCells_grow x y _).mono ?_
   rintro e w2 ⟨rfl, qq, oo, hw2⟩
   have HW2 : Aside0 (∃ q os, w2 = Go.Sort.grow (w.drewN q) os) := ⟨by
    rw [hw2, HW.out, Go.Sort.alloc_eq_grow, Go.Sort.alloc_eq_grow, Go.Sort.grow_grow, Go.Sort.grow_grow]
    refine ⟨q + qq, (os ++ (#[.cells #[.int .i64 x.f0, .int .i64 x.f1] 55 (0, 0)] ++ #[.cells #[.int .i64 y.f0, .int .i64 y.f1] 55 (0, 0)])) ++ oo, ?_⟩
    simp only [World.drewN, Go.Sort.grow, Nat.add_assoc, Array.append_assoc]⟩
   by_cases hz : cfC_ x y = 0
   ·have he := HE.out
    rw [if_pos hz] at he
    have HE2 := Aside0.mk he
    have z1 : (cfC_ x y == 0) = true := by rw [hz]; rfl
    have z2 : (cfC_ x y != 0) = false := by rw [hz]; rfl
    clear he HE hw2 hx0 hx1 hy0 hy1
    generalize cfC_ x y = cz at *
    subst hz
    go_wp2_with fail
    go_roundg gk2
    case measure => omega
    case rel => 
     obtain ⟨q3, os3, h3⟩ := HW2.out
     exact ⟨j + 1, q3, os3, by go_num, ⟨by have := HK.out; omega⟩, HE2, ⟨h3⟩⟩
   ·have he := HE.out
    rw [if_neg hz] at he
    have HE2 := Aside0.mk he
    have z1 : (cfC_ x y == 0) = false := beq_eq_false_iff_ne.mpr hz
    clear he HE hw2 hx0 hx1 hy0 hy1
    generalize cfC_ x y = cz at *
    go_wp2_with fail
    go_ret
    exact ⟨by rw [HE2.out]; rfl, HW2.out⟩
set_option maxHeartbeats 4000000 in
set_option maxRecDepth 100000 in
theorem compareShapes_grow (A : Option Addr) (c : Nat) (xs : List S55) (B : Option Addr) (c' : Nat) (ys : List S55) (w : World) (hA : Kd.C k55 w A xs.length xs) (hB : Kd.C k55 w B ys.length ys) :
  Calls Try.prog 65 #[.slice A xs.length c, .slice B ys.length c'] w fun e w' => e = .returned (.int .i64 (cfS_ xs ys)) ∧ ∃ q os, w' = Go.Sort.grow (w.drewN q) os := by
 have HA := Aside0.mk hA
 have HBB := Aside0.mk hB
 have hl1 : xs.length ≤ 9223372036854775807 := hA.2.1
 have hl2 : ys.length ≤ 9223372036854775807 := hB.2.1
 have h0 : ∃ q os, w = Go.Sort.grow (w.drewN q) os := ⟨0, #[], by rw [Go.Sort.grow_empty]; rfl⟩
 have H0 := Aside0.mk h0
 clear hA hB h0
 unfold cfS_
 by_cases hl : xs.length = ys.length
 ·rw [if_pos hl]
  have HL := Aside0.mk hl
  generalize hR : cfL_ xs ys = R
  have HR := Aside0.mk hR
  have z1 : ((xs.length : Int) == (ys.length : Int)) = true := by rw [hl]; exact beq_self_eq_true _
  have z2 : ((xs.length : Int) != (ys.length : Int)) = false := by rw [hl]; exact bne_self_eq_false _
  have z3 : (xs.length == ys.length) = true := by rw [hl]; exact beq_self_eq_true _
  have z4 : (xs.length != ys.length) = false := by rw [hl]; exact bne_self_eq_false _
  clear hl hR
  go_enter Try.func65, Try.ntmps65
  go_wp2_with fail
  refine (compareFunc_grow A c xs B c' ys HL.out _ HA.out HBB.out).mono ?_
  rintro e w1 ⟨rfl, hg⟩
  rw [HR.out]
  have HG := Aside0.mk hg
  clear hg
  go_wp2_with fail
  go_ret
  exact ⟨rfl, HG.out⟩
 ·rw [if_neg hl]
  have z1 : ((xs.length : Int) == (ys.length : Int)) = false := beq_eq_false_iff_ne.mpr (by omega)
  have z2 : ((xs.length : Int) != (ys.length : Int)) = true := by simp [bne, z1]
  have z3 : (xs.length == ys.length) = false := beq_eq_false_iff_ne.mpr hl
  have z4 : (xs.length != ys.length) = true := by simp [bne, z3]
  by_cases hlt : xs.length < ys.length
  ·rw [if_pos hlt]
   have z5 : decide ((xs.length : Int) < (ys.length : Int)) = true := decide_eq_true (by omega)
   have z6 : decide (xs.length < ys.length) = true := decide_eq_true hlt
   clear hl hlt
   go_enter Try.func65, Try.ntmps65
   go_wp2_with fail
   go_ret
   exact ⟨rfl, H0.out⟩
  ·rw [if_neg hlt]
   have z5 : decide ((xs.length : Int) < (ys.length : Int)) = false := decide_eq_false (by omega)
   have z6 : decide (xs.length < ys.length) = false := decide_eq_false hlt
   clear hl hlt
   go_enter Try.func65, Try.ntmps65
   go_wp2_with fail
   go_ret
   exact ⟨rfl, H0.out⟩
/-- the rows of a row of rows: each is the call's own, none is another's -/
structure PR_ (w : World) (base : Nat) (g : Option Nat) (es : List (Value × List S55)) : Prop where
 own : ∀ e ∈ es, Kd.R k55 55 w base (fun k => some k ≠ g) e.1 e.2
 apart : es.Pairwise fun a b => ∀ k, a.1.ownBlock = some k → b.1.ownBlock ≠ some k
theorem PR_.perm {w : World} {base : Nat} {g : Option Nat} {es es' : List (Value × List S55)} (h : PR_ w base g es) (hp : es'.Perm es) : PR_ w base g es' :=
 ⟨fun e he => h.own e (hp.mem_iff.1 he), (hp.symm.pairwise_iff (fun {a b} (hab : ∀ k, a.1.ownBlock = some k → b.1.ownBlock ≠ some k) => fun k h1 h2 => hab k h2 h1)).1 h.apart⟩
theorem PR_.sub {w : World} {base : Nat} {g : Option Nat} {es es' : List (Value × List S55)} (h : PR_ w base g es) (hp : es'.Sublist es) : PR_ w base g es' :=
 ⟨fun e he => h.own e (hp.subset he), h.apart.sublist hp⟩
theorem PR_.move {w w' : World} {base : Nat} {g : Nat} {es : List (Value × List S55)} (h : PR_ w base (some g) es) (hm : ∀ k, k ≠ g → k < w.heap.size → w'.heap[k]? = w.heap[k]?) : PR_ w' base (some g) es :=
 ⟨fun e he => Kd.R_step (h.own e he) (fun k hk hlt => hm k (fun e => hk (by rw [e])) hlt), h.apart⟩
theorem PR_.lower {w : World} {base base' : Nat} {g : Option Nat} {es : List (Value × List S55)} (h : PR_ w base g es) (hb : base' ≤ base) : PR_ w base' g es := ⟨fun e he => Kd.R_lower (h.own e he) hb, h.apart⟩
/-- down: a row of rows that lie apart, by its elements -/
theorem S_split {w : World} {base : Nat} {u : Value} {l : List (List S55)} (h : Kd.S (Kd.slice 55 k55) 27 w base (fun _ => True) u l) :
  ∃ es : List (Value × List S55), es.map Prod.snd = l ∧ w.ownsRow base 27 1 u es.length (es.map Prod.fst) ∧ PR_ w base u.ownBlock es := by
 obtain ⟨f, h0, inner, ho, hl, hr⟩ := h
 rw [List.length_zipIdx] at ho hl
 have hil : inner.length = l.length := by rw [hl]; exact Nat.mul_one _
 have each : ∀ j x, l[j]? = some x → ∃ v, inner[j]? = some v ∧ Kd.R k55 55 w base (fun k => (True ∧ some k ≠ u.ownBlock) ∧ f k = j) v x := by
  intro j x hx
  have hz := hr j (x, j) (by rw [List.getElem?_zipIdx, hx, Nat.zero_add]; rfl)
  obtain ⟨v, hv, hR⟩ := hz
  have hjl : j < l.length := (List.getElem?_eq_some_iff.1 hx).1
  have hsz : (Kd.tag f (Kd.slice 55 k55)).sz = 1 := rfl
  rw [hsz, Nat.mul_one] at hv
  refine ⟨v, ?_, hR⟩
  have := congrArg (fun z => z[0]?) hv
  simp only [List.getElem?_take, List.getElem?_drop, Nat.add_zero] at this
  simpa using this
 refine ⟨inner.zip l, ?_, ?_, ⟨fun e he => ?_, ?_⟩⟩
 ·exact List.map_snd_zip (by omega)
 ·rw [List.map_fst_zip (by omega), List.length_zip, hil, Nat.min_self]; exact ho
 ·obtain ⟨j, hj, e1⟩ := List.mem_iff_getElem.1 he
  have hj1 : j < l.length := by rw [List.length_zip] at hj; omega
  obtain ⟨v, hv, hR⟩ := each j _ (List.getElem?_eq_getElem hj1)
  rw [List.getElem_zip] at e1
  rw [List.getElem?_eq_getElem (by omega)] at hv
  obtain rfl := Option.some.inj hv
  rw [← e1]
  exact Kd.R_mono hR (fun k hk => hk.1.2)
 ·rw [List.pairwise_iff_getElem]
  intro i j hi hj hij k h1 h2
  have hi1 : i < l.length := by rw [List.length_zip] at hi; omega
  have hj1 : j < l.length := by rw [List.length_zip] at hj; omega
  obtain ⟨v, hv, hR⟩ := each i _ (List.getElem?_eq_getElem hi1)
  obtain ⟨v', hv', hR'⟩ := each j _ (List.getElem?_eq_getElem hj1)
  rw [List.getElem?_eq_getElem (by omega)] at hv hv'
  obtain rfl := Option.some.inj hv
  obtain rfl := Option.some.inj hv'
  rw [List.getElem_zip] at h1 h2
  have a1 := (hR.1 k h1).2
  have a2 := (hR'.1 k h2).2
  omega
/-- .. and up -/
theorem S_join {w : World} {base : Nat} {u : Value} {es : List (Value × List S55)} (ho : w.ownsRow base 27 1 u es.length (es.map Prod.fst)) (h : PR_ w base u.ownBlock es) :
  Kd.S (Kd.slice 55 k55) 27 w base (fun _ => True) u (es.map Prod.snd) := by
 have hap := List.pairwise_iff_getElem.1 h.apart
 obtain ⟨f, hr⟩ := Kd.reps_tag (d := Kd.slice 55 k55) (w := w) (base := base) (ok := fun k => True ∧ some k ≠ u.ownBlock) (xs := es.map Prod.snd) (inner := es.map Prod.fst)
  (fun j k => ∃ e : Value × List S55, es[j]? = some e ∧ e.1.ownBlock = some k) (fun i j k ⟨a, ha, hak⟩ ⟨b, hb, hbk⟩ => by
   obtain ⟨hi, rfl⟩ := List.getElem?_eq_some_iff.1 ha
   obtain ⟨hj, rfl⟩ := List.getElem?_eq_some_iff.1 hb
   rcases Nat.lt_trichotomy i j with g | g | g
   ·exact absurd hbk (hap i j hi hj g k hak)
   ·exact g
   ·exact absurd hak (hap j i hj hi g k hbk))
  (fun j k ⟨a, ha, hak⟩ => ⟨trivial, (h.own a (List.mem_of_getElem? ha)).1 k hak⟩) (by rw [List.length_map, List.length_map]; exact (Nat.mul_one _).symm) (fun j x hx => by
   rw [List.getElem?_map] at hx
   obtain ⟨e, he, rfl⟩ := Option.map_eq_some_iff.1 hx
   refine ⟨e.1, ?_, ?_⟩
   ·have hs : (Kd.slice 55 k55).sz = 1 := rfl
    rw [hs, Nat.mul_one]
    obtain ⟨hj, rfl⟩ := List.getElem?_eq_some_iff.1 he
    rw [List.drop_eq_getElem_cons (by simpa using hj)]
    simp
   ·exact Kd.R_mono (Kd.R_tight rfl (h.own e (List.mem_of_getElem? he))) (fun k hk => ⟨e, he, hk.symm⟩))
 refine ⟨f, fun k hk => trivial, es.map Prod.fst, ?_, hr⟩
 rw [List.length_zipIdx, List.length_map]; exact ho
def gE_ (l : List (Value × List S55)) (i : Nat) : Value × List S55 := l.getD i (.slice none 0 0, [])
theorem gE_get (l : List (Value × List S55)) (i : Nat) (h : i < l.length) : l[i]? = some (gE_ l i) := by
 unfold gE_; rw [List.getD_eq_getElem?_getD, List.getElem?_eq_getElem h]; rfl
theorem gE_mem (l : List (Value × List S55)) (i : Nat) (h : i < l.length) : gE_ l i ∈ l := List.mem_of_getElem? (gE_get l i h)

/-! ### spec_l02Least: function 76 -/
def spec_l02Least.l0 : Nat → List (S55) → Int → Int → Int → Option (Int × Int)
 | 0, _, _, _, _ => none
 | k + 1, x0, x4, x5, x6 => if x6 < (x0.length : Int) then (if 0 ≤ x6 then (spec_l02Least.l0 k x0 (mn x4 ((rd_T55 x0 x6).f0)) (mn x5 ((rd_T55 x0 x6).f1)) (wrap64 (x6 + 1))) else (none)) else (some (x4, x5))
def spec_l02Least.f (k : Nat) (l0 : List (S55)) : Option (Int × Int) := if 0 < (l0.length : Int) then (spec_l02Least.l0 k l0 ((rd_T55 l0 0).f0) ((rd_T55 l0 0).f1) 1) else (none)
theorem spec_l02Least.mono_l : ∀ k, (∀ y0 y1 y2 y3, LeO (spec_l02Least.l0 k y0 y1 y2 y3) (spec_l02Least.l0 (k + 1) y0 y1 y2 y3))
 | 0 => fun _ _ _ _ r h => by simp [spec_l02Least.l0] at h
 | k + 1 => by
  have ih0 := spec_l02Least.mono_l k
  ·intro y0 y1 y2 y3
   unfold spec_l02Least.l0
   repeat' first
   | (with_reducible exact ih0 _ _ _ _)
   | (with_reducible exact LeO.refl _)
   | (with_reducible exact LeO.none _)
   | (with_reducible refine LeO.ite ?_ ?_)
   | (with_reducible refine LeO.bind ?_ (fun _ => ?_))
   | exact ih0 _ _ _ _
   | exact LeO.none _
   | refine LeO.ite ?_ ?_
   | refine LeO.bind ?_ (fun _ => ?_)
theorem spec_l02Least.mono : ∀ a0 k, LeO (spec_l02Least.f k a0) (spec_l02Least.f (k + 1) a0) := by
 intro a0 k
 have ih0 := spec_l02Least.mono_l k
 unfold spec_l02Least.f
 repeat' first
   | (with_reducible exact ih0 _ _ _ _)
   | (with_reducible exact LeO.refl _)
   | (with_reducible exact LeO.none _)
   | (with_reducible refine LeO.ite ?_ ?_)
   | (with_reducible refine LeO.bind ?_ (fun _ => ?_))
   | exact ih0 _ _ _ _
   | exact LeO.none _
   | refine LeO.ite ?_ ?_
   | refine LeO.bind ?_ (fun _ => ?_)
set_option maxHeartbeats 8000000 in
set_option maxRecDepth 100000 in
theorem spec_l02Least.calls (k : Nat) (A0 : Option Addr) (c0 : Nat) (l0 : List (S55)) (r1 : Int) (r2 : Int) (w : World) (hr0 : Kd.C k55 w A0 l0.length l0) (hc0 : l0.length ≤ c0) (h : spec_l02Least.f k l0 = some (r1, r2)) :
  Calls Try.prog 76 #[.slice A0 l0.length c0] w fun e w' => e = .returned (.tuple #[.int .i64 r1, .int .i64 r2]) ∧ Below w.heap.size w w' := by
 have HR0 := Aside0.mk hr0
 have HC0 := Aside0.mk hc0
 clear hr0 hc0
 have HB := Aside0.mk (Below.refl w.heap.size w)
 have H : (if 0 < (l0.length : Int) then (spec_l02Least.l0 k l0 ((rd_T55 l0 0).f0) ((rd_T55 l0 0).f1) 1) else (none)) = some (r1, r2) := h
 clear h
 by_cases c2 : 0 < (l0.length : Int)
 ·rw [if_pos c2] at H
  have c2b0 : decide (0 < (l0.length : Int)) = true := decide_eq_true c2
  have c2b1 : decide (0 < l0.length) = true := decide_eq_true (by omega)
  clear c2
  have H' := Aside0.mk H
  clear H
  have p101 : 0 ≤ (0 : Int) := (by omega)
  have q101 : 0 < (l0.length : Int) := of_decide_eq_true aS_
  obtain ⟨ad101, e101, hx101_0, hx101_1⟩ := at_T55 HR0.out 0 p101 q101
  cases e101
  have qi101 : (0 < l0.length) = True := eq_true (by omega)
  (try rw [show ((0 : Int)).toNat = 0 from rfl] at hx101_0)
  (try rw [show 0 * 2 = 0 from rfl] at hx101_0)
  (try rw [Addr.add_zero'] at hx101_0)
  (try rw [show ((0 : Int)).toNat = 0 from rfl] at hx101_1)
  (try rw [show 0 * 2 = 0 from rfl] at hx101_1)
  (try rw [Addr.add_zero'] at hx101_1)
  replace p101 := eq_true p101
  replace q101 := eq_true q101
  have p102 : 0 ≤ (0 : Int) := (by omega)
  have q102 : 0 < (l0.length : Int) := of_decide_eq_true aS_
  obtain ⟨ad102, e102, hx102_0, hx102_1⟩ := at_T55 HR0.out 0 p102 q102
  obtain rfl : ad101 = ad102 := (by injection e102)
  have qi102 : (0 < l0.length) = True := eq_true (by omega)
  (try rw [show ((0 : Int)).toNat = 0 from rfl] at hx102_0)
  (try rw [show 0 * 2 = 0 from rfl] at hx102_0)
  (try rw [Addr.add_zero'] at hx102_0)
  (try rw [show ((0 : Int)).toNat = 0 from rfl] at hx102_1)
  (try rw [show 0 * 2 = 0 from rfl] at hx102_1)
  (try rw [Addr.add_zero'] at hx102_1)
  replace p102 := eq_true p102
  replace q102 := eq_true q102
  go_enter Try.func76, Try.ntmps76
  go_wp2
  repeat (go_quiet (fail); try go_wp2)
  go_loopg [4, 5, 6] k (fun kq v4 v5 v6 w' => ∃ (x4_1 : Int) (x5_1 : Int) (x6_1 : Int), v4 = .int .i64 x4_1 ∧ v5 = .int .i64 x5_1 ∧ v6 = .int .i64 x6_1 ∧ Aside0 (spec_l02Least.l0 kq l0 x4_1 x5_1 x6_1 = some (r1, r2)) ∧ Aside0 (kq ≤ k) ∧ Aside0 (Below w.heap.size w w'))
  case atStart => exact ⟨((rd_T55 l0 0).f0), ((rd_T55 l0 0).f1), (1), r3_, r3_, r3_, H', ⟨Nat.le_refl _⟩, ⟨bB_⟩⟩
  case round =>
   clear H'
   try clear p1
   try clear q1
   try clear hx1
   try clear qi1
   try clear c2
   try clear c2b0
   try clear c2b1
   try clear p2
   try clear hx101_0
   try clear hx101_1
   try clear hx102_0
   try clear hx102_1
   try clear p101
   try clear p102
   try clear q101
   try clear q102
   obtain ⟨x4_1, x5_1, x6_1, rfl, rfl, rfl, HA, HK1, HB⟩ := hrel
   cases gk with
   | zero => exact absurd HA.out (by simp [spec_l02Least.l0])
   | succ k1 =>
    have H := HA.out
    clear HA
    simp only [spec_l02Least.l0] at H
    by_cases c3 : x6_1 < (l0.length : Int)
    ·rw [if_pos c3] at H
     have c3b0 : decide (x6_1 < (l0.length : Int)) = true := decide_eq_true c3
     clear c3
     by_cases c4 : 0 ≤ x6_1
     ·rw [if_pos c4] at H
      have c4b0 : decide (0 ≤ x6_1) = true := decide_eq_true c4
      clear c4
      obtain ⟨ji5, hji5⟩ : ∃ j_ : Int, (mn x4_1 ((rd_T55 l0 x6_1).f0)) = j_ := ⟨_, rfl⟩
      replace H : (spec_l02Least.l0 k1 l0 ji5 (mn x5_1 ((rd_T55 l0 x6_1).f1)) (wrap64 (x6_1 + 1))) = some (r1, r2) := by first | (rw [hji5] at H; exact H) | (simp only [hji5] at H ⊢; exact H)
      have hji5_ : (if ((rd_T55 l0 x6_1).f0) < x4_1 then ((rd_T55 l0 x6_1).f0) else x4_1) = ji5 := hji5
      obtain ⟨ji6, hji6⟩ : ∃ j_ : Int, (mn x5_1 ((rd_T55 l0 x6_1).f1)) = j_ := ⟨_, rfl⟩
      replace H : (spec_l02Least.l0 k1 l0 ji5 ji6 (wrap64 (x6_1 + 1))) = some (r1, r2) := by first | (rw [hji6] at H; exact H) | (simp only [hji6] at H ⊢; exact H)
      have hji6_ : (if ((rd_T55 l0 x6_1).f1) < x5_1 then ((rd_T55 l0 x6_1).f1) else x5_1) = ji6 := hji6
      have H' := Aside0.mk H
      clear H
      have p103 : 0 ≤ (x6_1 : Int) := of_decide_eq_true aS_
      have q103 : x6_1 < (l0.length : Int) := of_decide_eq_true aS_
      obtain ⟨ad103, e103, hx103_0, hx103_1⟩ := at_T55 HR0.out x6_1 p103 q103
      obtain rfl : ad101 = ad103 := (by injection e103)
      replace hx103_0 := (HB.out.cell (World.block_lt_of_cell? w _ hx103_0)).trans hx103_0
      replace hx103_1 := (HB.out.cell (World.block_lt_of_cell? w _ hx103_1)).trans hx103_1
      replace p103 := eq_true p103
      replace q103 := eq_true q103
      have p104 : 0 ≤ (x6_1 : Int) := of_decide_eq_true aS_
      have q104 : x6_1 < (l0.length : Int) := of_decide_eq_true aS_
      obtain ⟨ad104, e104, hx104_0, hx104_1⟩ := at_T55 HR0.out x6_1 p104 q104
      obtain rfl : ad101 = ad104 := (by injection e104)
      replace hx104_0 := (HB.out.cell (World.block_lt_of_cell? w _ hx104_0)).trans hx104_0
      replace hx104_1 := (HB.out.cell (World.block_lt_of_cell? w _ hx104_1)).trans hx104_1
      replace p104 := eq_true p104
      replace q104 := eq_true q104
      go_wp2
      repeat (go_quiet (fail); try go_wp2)
      go_roundg k1
      case measure => have := HK1.out; omega
      case rel => exact ⟨(ji5), (ji6), (wrap64 (x6_1 + 1)), (by first | rfl | (simp; done) | (simp only [← hji5] <;> (first | rfl | simp)) | (simp [*]; done)), (by first | rfl | (simp; done) | (simp only [← hji6] <;> (first | rfl | simp)) | (simp [*]; done)), r3_, H', ⟨by have := HK1.out; omega⟩, ⟨bB_⟩⟩
     ·rw [if_neg c4] at H
      exact absurd H (by simp)
    ·rw [if_neg c3] at H
     have c3b0 : decide (x6_1 < (l0.length : Int)) = false := decide_eq_false c3
     clear c3
     simp only [Option.some.injEq, Prod.mk.injEq] at H
     obtain ⟨rfl, rfl⟩ := H
     go_wp2
     repeat (go_quiet (fail); try go_wp2)
     go_ret2
     exact ⟨r2_, bB_⟩
 ·rw [if_neg c2] at H
  exact absurd H (by simp)

/-! ### spec_l02Move: function 109 -/
def spec_l02Move.l0 : Nat → List (S55) → Int → Int → List (S55) → Int → Option ((List (S55)))
 | 0, _, _, _, _, _ => none
 | k + 1, x0, x1, x2, x7, x8 => if x8 < (x0.length : Int) then (if 0 ≤ x8 then (if x7.length < 8796093022208 then (spec_l02Move.l0 k x0 x1 x2 (x7 ++ [(⟨wrap64 (((rd_T55 x0 x8).f0) + x1), wrap64 (((rd_T55 x0 x8).f1) + x2)⟩ : S55)]) (wrap64 (x8 + 1))) else (none)) else (none)) else (some x7)
def spec_l02Move.f (k : Nat) (l0 : List (S55)) (a1 : Int) (a2 : Int) : Option ((List (S55))) := spec_l02Move.l0 k l0 a1 a2 (([] : List (S55))) 0
theorem spec_l02Move.mono_l : ∀ k, (∀ y0 y1 y2 y3 y4, LeO (spec_l02Move.l0 k y0 y1 y2 y3 y4) (spec_l02Move.l0 (k + 1) y0 y1 y2 y3 y4))
 | 0 => fun _ _ _ _ _ r h => by simp [spec_l02Move.l0] at h
 | k + 1 => by
  have ih0 := spec_l02Move.mono_l k
  ·intro y0 y1 y2 y3 y4
   unfold spec_l02Move.l0
   repeat' first
   | (with_reducible exact ih0 _ _ _ _ _)
   | (with_reducible exact LeO.refl _)
   | (with_reducible exact LeO.none _)
   | (with_reducible refine LeO.ite ?_ ?_)
   | (with_reducible refine LeO.bind ?_ (fun _ => ?_))
   | exact ih0 _ _ _ _ _
   | exact LeO.none _
   | refine LeO.ite ?_ ?_
   | refine LeO.bind ?_ (fun _ => ?_)
theorem spec_l02Move.mono : ∀ a0 a1 a2 k, LeO (spec_l02Move.f k a0 a1 a2) (spec_l02Move.f (k + 1) a0 a1 a2) := by
 intro a0 a1 a2 k
 have ih0 := spec_l02Move.mono_l k
 unfold spec_l02Move.f
 repeat' first
   | (with_reducible exact ih0 _ _ _ _ _)
   | (with_reducible exact LeO.refl _)
   | (with_reducible exact LeO.none _)
   | (with_reducible refine LeO.ite ?_ ?_)
   | (with_reducible refine LeO.bind ?_ (fun _ => ?_))
   | exact ih0 _ _ _ _ _
   | exact LeO.none _
   | refine LeO.ite ?_ ?_
   | refine LeO.bind ?_ (fun _ => ?_)
def spec_l02Move.T5 : Bool × List (List Nat × List Nat) := (true, [([], []), ([], []), ([], []), ([1, 2], [1, 2]), ([3], [3]), ([4], [4]), ([], []), ([5, 6], [5, 6]), ([], []), ([], []), ([8, 9], [8, 9]), ([10], [10]), ([11], [11]), ([], []), ([12, 13], [12, 13]), ([7, 14], [7, 14]), ([15], [15]), ([0, 16], [0, 16]), ([17, 17, 0, 1, 2, 3, 4, 5, 6, 7, 8, 9, 10, 11, 12, 13, 14, 15, 16, 17], [0, 17])])
def spec_l02Move.B5 : List Nat := [0, 0, 0, 6, 14, 30, 0, 126, 0, 0, 768, 1792, 3840, 0, 16128, 32766, 65534, 131071, 262143]
theorem spec_l02Move.tab5 : rtab .any (opsOf Try.f109 5) = spec_l02Move.T5 := by kernel_rfl
theorem spec_l02Move.bits5 : waitsOk spec_l02Move.T5.2 spec_l02Move.B5 = true := by kernel_rfl
set_option maxHeartbeats 8000000 in
set_option maxRecDepth 100000 in
theorem spec_l02Move.calls (k : Nat) (A0 : Option Addr) (c0 : Nat) (l0 : List (S55)) (a1 : Int) (a2 : Int) (r : List (S55)) (w : World) (hr0 : Kd.C k55 w A0 l0.length l0) (hc0 : l0.length ≤ c0) (h : spec_l02Move.f k l0 a1 a2 = some r) :
  Calls Try.prog 109 #[.slice A0 l0.length c0, .int .i64 a1, .int .i64 a2] w fun e w' => ∃ v0_ : Value, e = .returned (v0_) ∧ Kd.R k55 55 w' w.heap.size (fun _ => True) v0_ r ∧ Below w.heap.size w w' := by
 have hu55 := Try.underlying55
 have HR0 := Aside0.mk hr0
 have HC0 := Aside0.mk hc0
 clear hr0 hc0
 have HB := Aside0.mk (Below.refl w.heap.size w)
 have H : (spec_l02Move.l0 k l0 a1 a2 (([] : List (S55))) 0) = some r := h
 clear h
 obtain ⟨y105, hY_⟩ : ∃ y_ : List (S55), y_ = (([] : List (S55))) := ⟨_, rfl⟩
 replace H : (spec_l02Move.l0 k l0 a1 a2 y105 0) = some r := yY_
 have Ny105 := Aside0.mk hY_
 clear hY_
 have H' := Aside0.mk H
 clear H
 go_enter Try.func109, Try.ntmps109
 go_wp2_with (first | ((with_reducible refine gate_dst (N := 9) rfl ?_); refine Kd.R_lit k55 _ 55 ?hg (N := 9) ?hd (xs := ([] : List (S55))) (inner := []) (ok := fun _ => True) (okp := fun _ => True) ?hr ?hp (fun _ hk => hk) trivial (Below.refl _ _) (Nat.le_refl _) (by simp) ?_; (case hd => rfl); (case hg => rfl); (case hr => first | (go_simp; done) | (go_simp; rfl)); (case hp => exact (Reps.none _ _)); intro v106 w4 ho5 hb hg_ hnew_; clear hg_ hnew_; (first | rw [← Ny105.out] at ho5 | (simp only [Int.reduceToNat] at ho5; rw [← Ny105.out] at ho5)); have HO107 := Aside0.mk (Kd.R_lower ho5 (below_size bB_)); replace HB := Aside0.mk (below_step bB_ hb); clear hb ho5))
 go_loopg [7, 8] k (fun kq v7 v8 w' => ∃ (x7_1 : List (S55)) (x8_1 : Int), v8 = .int .i64 x8_1 ∧ Aside0 (spec_l02Move.l0 kq l0 a1 a2 x7_1 x8_1 = some r) ∧ Aside0 (kq ≤ k) ∧ Aside0 (Kd.R k55 55 w' w.heap.size (fun _ => True) v7 x7_1) ∧ Aside0 (Below w.heap.size w w'))
 case atStart => exact ⟨(y105), (0), r3_, H', ⟨Nat.le_refl _⟩, ⟨rS_ HO107.out⟩, ⟨bB_⟩⟩
 case round =>
  clear H'
  try clear c1
  try clear p2
  obtain ⟨x7_1, x8_1, rfl, HA, HK1, HO_7, HB⟩ := hrel
  cases gk with
  | zero => exact absurd HA.out (by simp [spec_l02Move.l0])
  | succ k1 =>
   have H := HA.out
   clear HA
   simp only [spec_l02Move.l0] at H
   by_cases c6 : x8_1 < (l0.length : Int)
   ·rw [if_pos c6] at H
    have c6b0 : decide (x8_1 < (l0.length : Int)) = true := decide_eq_true c6
    clear c6
    by_cases c7 : 0 ≤ x8_1
    ·rw [if_pos c7] at H
     have c7b0 : decide (0 ≤ x8_1) = true := decide_eq_true c7
     clear c7
     by_cases c8 : x7_1.length < 8796093022208
     ·rw [if_pos c8] at H
      have LMc8 := Aside0.mk c8
      clear c8
      obtain ⟨y110, hY_⟩ : ∃ y_ : List (S55), y_ = (x7_1 ++ [(⟨wrap64 (((rd_T55 l0 x8_1).f0) + a1), wrap64 (((rd_T55 l0 x8_1).f1) + a2)⟩ : S55)]) := ⟨_, rfl⟩
      replace H : (spec_l02Move.l0 k1 l0 a1 a2 y110 (wrap64 (x8_1 + 1))) = some r := yY_
      have Ny110 := Aside0.mk hY_
      clear hY_
      have H' := Aside0.mk H
      clear H
      try go_wp2
      replace HO_7 := Aside0.mk (Kd.R_drew HO_7.out)
      replace HB := Aside0.mk (below_drew1 HB.out)
      have p108 : 0 ≤ (x8_1 : Int) := of_decide_eq_true aS_
      have q108 : x8_1 < (l0.length : Int) := of_decide_eq_true aS_
      obtain ⟨ad108, e108, hx108_0, hx108_1⟩ := at_T55 HR0.out x8_1 p108 q108
      have hw108_1 := hx108_1
      have hw108_0 := hx108_0
      cases e108
      replace hx108_0 := (HB.out.cell (World.block_lt_of_cell? w _ hx108_0)).trans hx108_0
      replace hx108_1 := (HB.out.cell (World.block_lt_of_cell? w _ hx108_1)).trans hx108_1
      replace p108 := eq_true p108
      replace q108 := eq_true q108
      have p109 : 0 ≤ (x8_1 : Int) := of_decide_eq_true aS_
      have q109 : x8_1 < (l0.length : Int) := of_decide_eq_true aS_
      obtain ⟨ad109, e109, hx109_0, hx109_1⟩ := at_T55 HR0.out x8_1 p109 q109
      have hw109_1 := hx109_1
      have hw109_0 := hx109_0
      obtain rfl : ad108 = ad109 := (by injection e109)
      replace hx109_0 := (HB.out.cell (World.block_lt_of_cell? w _ hx109_0)).trans hx109_0
      replace hx109_1 := (HB.out.cell (World.block_lt_of_cell? w _ hx109_1)).trans hx109_1
      replace p109 := eq_true p109
      replace q109 := eq_true q109
      refine start_ (n := 19) (S := fun w' => w'.cell? (ad108.add ((x8_1).toNat * 2)) = some (.int .i64 ((rd_T55 l0 x8_1).f0)) ∧ w'.cell? ⟨(ad108.add ((x8_1).toNat * 2)).block, (ad108.add ((x8_1).toNat * 2)).off + 1, none⟩ = some (.int .i64 ((rd_T55 l0 x8_1).f1)) ∧ w'.cell? (ad108.add ((x8_1).toNat * 2)) = some (.int .i64 ((rd_T55 l0 x8_1).f0)) ∧ w'.cell? ⟨(ad108.add ((x8_1).toNat * 2)).block, (ad108.add ((x8_1).toNat * 2)).off + 1, none⟩ = some (.int .i64 ((rd_T55 l0 x8_1).f1))) (ds := []) #[F, F, F, F, F, F, F, F, F, F, F, F, F, F, F, F, F, F, F] (by kernel_rfl) rfl rfl ⟨((HB.out.cell (World.block_lt_of_cell? w _ hw108_0)).trans hw108_0), ((HB.out.cell (World.block_lt_of_cell? w _ hw108_1)).trans hw108_1), ((HB.out.cell (World.block_lt_of_cell? w _ hw109_0)).trans hw109_0), ((HB.out.cell (World.block_lt_of_cell? w _ hw109_1)).trans hw109_1)⟩ (fun hHeld => ?_); refine with_tabW spec_l02Move.tab5 spec_l02Move.bits5 (fun HT_ HW_ => ?_)
      generalize wr.drew = w9 at HO_7 HB hx108_0 hx108_1 hx109_0 hx109_1 hHeld ⊢
      refine pu_ HT_ 0 (some 16) #[T,F,F,F,F,F,F,F,F,F,F,F,F,F,F,F,F,F,F] ?_
      refine pu_ HT_ 1 (some 17) #[T,T,F,F,F,F,F,F,F,F,F,F,F,F,F,F,F,F,F] ?_
      refine pu_ HT_ 2 (some 18) #[T,T,T,F,F,F,F,F,F,F,F,F,F,F,F,F,F,F,F] ?_
      refine pu_ HT_ 3 (some 19) #[T,T,T,T,F,F,F,F,F,F,F,F,F,F,F,F,F,F,F] ?_
      refine pu_ HT_ 4 (some 20) #[T,T,T,T,T,F,F,F,F,F,F,F,F,F,F,F,F,F,F] ?_
      refine pu_ HT_ 6 (some 22) #[T,T,T,T,T,F,T,F,F,F,F,F,F,F,F,F,F,F,F] ?_
      refine pu_ HT_ 8 (some 24) #[T,T,T,T,T,F,T,F,T,F,F,F,F,F,F,F,F,F,F] ?_
      refine pu_ HT_ 9 (some 25) #[T,T,T,T,T,F,T,F,T,T,F,F,F,F,F,F,F,F,F] ?_
      refine pu_ HT_ 10 (some 26) #[T,T,T,T,T,F,T,F,T,T,T,F,F,F,F,F,F,F,F] ?_
      refine pu_ HT_ 11 (some 27) #[T,T,T,T,T,F,T,F,T,T,T,T,F,F,F,F,F,F,F] ?_
      refine pu_ HT_ 13 (some 29) #[T,T,T,T,T,F,T,F,T,T,T,T,F,T,F,F,F,F,F] ?_
      refine take_ (i := 5) (N := some 21) (v := ?_) (a' := ?_) #[T, T, T, T, T, T, T, F, T, T, T, T, F, T, F, F, F, F, F] rfl rfl (take_ofW HT_.out HW_.out (by kernel_rfl)) (fun _ _ _ h => h) (Or.inl ⟨by rfl, ?_⟩) hHeld ?_ ?_
      rotate_left
      ·rintro w' ⟨s0, s1, s2, s3⟩
       go_simp
       with_reducible rfl
      rotate_left
      ·simp only [Act.put, List.setIfInBounds_toArray, List.set_cons_zero, List.set_cons_succ, i64_w, i32_w]
       rfl
      refine pu_ HT_ 7 (some 23) #[T,T,T,T,T,T,T,T,T,T,T,T,F,T,F,F,F,F,F] ?_
      refine take_ (i := 12) (N := some 28) (v := ?_) (a' := ?_) #[T, T, T, T, T, T, T, T, T, T, T, T, T, T, F, F, F, F, F] rfl rfl (take_ofW HT_.out HW_.out (by kernel_rfl)) (fun _ _ _ h => h) (Or.inl ⟨by rfl, ?_⟩) hHeld ?_ ?_
      rotate_left
      ·rintro w' ⟨s0, s1, s2, s3⟩
       go_simp
       with_reducible rfl
      rotate_left
      ·simp only [Act.put, List.setIfInBounds_toArray, List.set_cons_zero, List.set_cons_succ, i64_w, i32_w]
       rfl
      refine pu_ HT_ 14 (some 30) #[T,T,T,T,T,T,T,T,T,T,T,T,T,T,T,F,F,F,F] ?_
      refine pu_ HT_ 15 (some 31) #[T,T,T,T,T,T,T,T,T,T,T,T,T,T,T,T,F,F,F] ?_
      refine one_ (i := 16) (N := some 32) #[T, T, T, T, T, T, T, T, T, T, T, T, T, T, T, T, T, F, F] rfl rfl (one_of HT_.out (by kernel_rfl)) (by decide) (fun K hK => ?_)
      refine value_ (w1 := ?_) (v := ?_) (by rfl) rfl ?_ ?_
      rotate_left 2
      ·go_simp
       constructor
       ·rfl
       ·rfl
      refine hK.out _ _ ⟨(World.cell?_alloc_lt _ _ _ (World.block_lt_of_cell? _ _ (((HB.out.cell (World.block_lt_of_cell? w _ hw108_0)).trans hw108_0)))).trans (((HB.out.cell (World.block_lt_of_cell? w _ hw108_0)).trans hw108_0)), (World.cell?_alloc_lt _ _ _ (World.block_lt_of_cell? _ _ (((HB.out.cell (World.block_lt_of_cell? w _ hw108_1)).trans hw108_1)))).trans (((HB.out.cell (World.block_lt_of_cell? w _ hw108_1)).trans hw108_1)), (World.cell?_alloc_lt _ _ _ (World.block_lt_of_cell? _ _ (((HB.out.cell (World.block_lt_of_cell? w _ hw109_0)).trans hw109_0)))).trans (((HB.out.cell (World.block_lt_of_cell? w _ hw109_0)).trans hw109_0)), (World.cell?_alloc_lt _ _ _ (World.block_lt_of_cell? _ _ (((HB.out.cell (World.block_lt_of_cell? w _ hw109_1)).trans hw109_1)))).trans (((HB.out.cell (World.block_lt_of_cell? w _ hw109_1)).trans hw109_1))⟩ (fun hHeld => ?_)
      clear hK K
      refine no_ (some 32) ?_
      refine one_ (i := 17) (N := some 33) #[T, T, T, T, T, T, T, T, T, T, T, T, T, T, T, T, T, T, F] rfl rfl (one_of HT_.out (by kernel_rfl)) (by decide) (fun K hK => ?_)
      refine Kd.R_append_step k55 (w0 := w) w.heap.size (by rfl) (.tmp 16) (.tmp 32) 27 55 (.agg #[(.int .i64 0), (.int .i64 0)]) 16 rfl Try.underlying27 info55 rfl (by decide) (by omega) u7 x7_1 (⟨wrap64 (((rd_T55 l0 x8_1).f0) + a1), wrap64 (((rd_T55 l0 x8_1).f1) + a2)⟩ : S55) [.int .i64 (wrap64 (((rd_T55 l0 x8_1).f0) + a1)), .int .i64 (wrap64 (((rd_T55 l0 x8_1).f1) + a2))] (fun _ => True) (fun _ => False) rfl rfl ?aP (fun _ hk => hk.elim) ?aF ?aO ?aB ?aS ?aL ?_
      (case aP => exact k55_mkM _ _ _ (⟨wrap64 (((rd_T55 l0 x8_1).f0) + a1), wrap64 (((rd_T55 l0 x8_1).f1) + a2)⟩ : S55))
      (case aB => exact bB_)
      (case aF => exact (fun _ _ => trivial))
      (case aO => exact (rS_ HO_7.out))
      (case aS => exact (below_size bB_))
      (case aL => have := LMc8.out; omega)
      intro v111 w10 ho hb hg hat
      rw [← Ny110.out] at ho
      replace HB := Aside0.mk (hb)
      have HO112 := Aside0.mk (ho)
      clear HO_7
      clear ho hb hg hat
      refine hK.out _ _ ⟨((HB.out.cell (World.block_lt_of_cell? w _ hw108_0)).trans hw108_0), ((HB.out.cell (World.block_lt_of_cell? w _ hw108_1)).trans hw108_1), ((HB.out.cell (World.block_lt_of_cell? w _ hw109_0)).trans hw109_0), ((HB.out.cell (World.block_lt_of_cell? w _ hw109_1)).trans hw109_1)⟩ (fun hHeld => ?_)
      clear hK K
      refine no_ (some 33) ?_
      refine pu_ HT_ 18 (some 7) #[T,T,T,T,T,T,T,T,T,T,T,T,T,T,T,T,T,T,T] ?_
      refine done_ (done_of HT_.out (by kernel_rfl)) ?_
      try go_wp2
      go_roundg k1
      case measure => have := HK1.out; omega
      case rel => exact ⟨(y110), (wrap64 (x8_1 + 1)), r3_, H', ⟨by have := HK1.out; omega⟩, ⟨rS_ HO112.out⟩, ⟨bB_⟩⟩
     ·rw [if_neg c8] at H
      exact absurd H (by simp)
    ·rw [if_neg c7] at H
     exact absurd H (by simp)
   ·rw [if_neg c6] at H
    have c6b0 : decide (x8_1 < (l0.length : Int)) = false := decide_eq_false c6
    clear c6
    obtain rfl := Option.some.inj H
    go_wp2
    go_ret
    exact ⟨_, r2_, rS_ HO_7.out, bB_⟩

/-! ### spec_l02Normal: function 73 -/
def spec_l02Normal.f (k : Nat) (l0 : List (S55)) : Option ((List (S55))) := (spec_l02Least.f k l0).bind fun bt113 => ((spec_l02Move.f k l0 (wrap64 (-bt113.1)) (wrap64 (-bt113.2))).bind fun t115 => (some t115))
theorem spec_l02Normal.mono : ∀ a0 k, LeO (spec_l02Normal.f k a0) (spec_l02Normal.f (k + 1) a0) := by
 intro a0 k
 unfold spec_l02Normal.f
 repeat' first
   | (with_reducible exact spec_l02Least.mono _ _)
   | (with_reducible exact spec_l02Move.mono _ _ _ _)
   | (with_reducible exact LeO.refl _)
   | (with_reducible exact LeO.none _)
   | (with_reducible refine LeO.ite ?_ ?_)
   | (with_reducible refine LeO.bind ?_ (fun _ => ?_))
   | exact spec_l02Least.mono _ _
   | exact spec_l02Move.mono _ _ _ _
   | exact LeO.none _
   | refine LeO.ite ?_ ?_
   | refine LeO.bind ?_ (fun _ => ?_)
set_option maxHeartbeats 8000000 in
set_option maxRecDepth 100000 in
theorem spec_l02Normal.calls (k : Nat) (A0 : Option Addr) (c0 : Nat) (l0 : List (S55)) (r : List (S55)) (w : World) (hr0 : Kd.C k55 w A0 l0.length l0) (hc0 : l0.length ≤ c0) (h : spec_l02Normal.f k l0 = some r) :
  Calls Try.prog 73 #[.slice A0 l0.length c0] w fun e w' => ∃ v0_ : Value, e = .returned (v0_) ∧ Kd.R k55 55 w' w.heap.size (fun _ => True) v0_ r ∧ Below w.heap.size w w' := by
 have HR0 := Aside0.mk hr0
 have HC0 := Aside0.mk hc0
 clear hr0 hc0
 have HB := Aside0.mk (Below.refl w.heap.size w)
 have H : ((spec_l02Least.f k l0).bind fun bt113 => ((spec_l02Move.f k l0 (wrap64 (-bt113.1)) (wrap64 (-bt113.2))).bind fun t115 => (some t115))) = some r := h
 clear h
 replace H := Option.bind_eq_some_iff.mp H
 obtain ⟨⟨t113, t114⟩, A20, H⟩ := H
 try dsimp only at H
 have A2 := Aside0.mk A20
 clear A20
 replace H := Option.bind_eq_some_iff.mp H
 obtain ⟨t115, A30, H⟩ := H
 try dsimp only at H
 have A3 := Aside0.mk A30
 clear A30
 obtain rfl := Option.some.inj H
 go_enter Try.func73, Try.ntmps73
 go_wp2_with (first | ((with_reducible refine gate_callee (f := 76) rfl ?_); refine gL_ (some 7) Try.func76 #[.slice A0 l0.length c0] ?_; (with_reducible refine (spec_l02Least.calls k _ _ l0 t113 t114 _ ?side1 ?side2 A2.out).mono ?_); (case side1 => exact cS_ HR0.out); (case side2 => exact HC0.out); rintro e w4 ⟨rfl, hb⟩; refine ⟨_, rfl, ?_⟩; replace HB := Aside0.mk (below_step bB_ hb); (try clear hb)) | ((with_reducible refine gate_callee (f := 109) rfl ?_); refine gL_ (some 15) Try.func109 #[.slice A0 l0.length c0, .int .i64 (wrap64 (-t113)), .int .i64 (wrap64 (-t114))] ?_; (with_reducible refine (spec_l02Move.calls k _ _ l0 (wrap64 (-t113)) (wrap64 (-t114)) t115 _ ?side1 ?side2 A3.out).mono ?_); (case side1 => exact cS_ (Kd.C_below HR0.out HB.out)); (case side2 => exact HC0.out); rintro e w5 ⟨v116, rfl, ho0, hb⟩; refine ⟨_, rfl, ?_⟩; have HO117 := Aside0.mk (Kd.R_lower ho0 (below_size bB_)); replace HB := Aside0.mk (below_step bB_ hb); (try clear hb ho0)))
 go_ret
 exact ⟨_, r2_, rS_ HO117.out, bB_⟩

/-! ### spec_l02Less: function 100 -/
def spec_l02Less.f (a0_0 : Int) (a0_1 : Int) (a1_0 : Int) (a1_1 : Int) : Option (Bool) := if a0_1 < a1_1 then (some true) else (if a0_1 = a1_1 then (some (decide (a0_0 < a1_0))) else (some false))
set_option maxHeartbeats 8000000 in
set_option maxRecDepth 100000 in
theorem spec_l02Less.calls (a0_0 : Int) (a0_1 : Int) (a1_0 : Int) (a1_1 : Int) (r : Bool) (w : World) (h : spec_l02Less.f a0_0 a0_1 a1_0 a1_1 = some r) :
  Calls Try.prog 100 #[.agg #[.int .i64 a0_0, .int .i64 a0_1], .agg #[.int .i64 a1_0, .int .i64 a1_1]] w fun e w' => e = .returned (.bool r) ∧ Below w.heap.size w w' := by
 have hu55 := Try.underlying55
 have HB := Aside0.mk (Below.refl w.heap.size w)
 have H : (if a0_1 < a1_1 then (some true) else (if a0_1 = a1_1 then (some (decide (a0_0 < a1_0))) else (some false))) = some r := h
 clear h
 by_cases c3 : a0_1 < a1_1
 ·rw [if_pos c3] at H
  have c3b0 : decide (a0_1 < a1_1) = true := decide_eq_true c3
  clear c3
  obtain rfl := Option.some.inj H
  go_enter Try.func100, Try.ntmps100
  go_wp2_with (first | ((with_reducible refine gate_dst (N := 2) rfl ?_); refine box_event ?hg (N := 2) ?hd (cs := #[.int .i64 a0_0, .int .i64 a0_1]) (t := 55) ?hr ?_; (case hd => rfl); (case hg => rfl); (case hr => first | (go_simp; done) | (go_simp; rfl)); intro gb118 hg w4 hbox hb; have BK118 := Aside0.mk (hbox); have GW118 := Aside0.mk ((by rw [hg]; exact (below_size bB_) : w.heap.size ≤ gb118)); have GE118 := Aside0.mk ((by rw [hg]; exact (below_size bB_) : w.heap.size ≤ gb118)); replace HB := Aside0.mk (below_step bB_ hb); clear hb hbox hg) | ((with_reducible refine gate_dst (N := 3) rfl ?_); refine box_event ?hg (N := 3) ?hd (cs := #[.int .i64 a1_0, .int .i64 a1_1]) (t := 55) ?hr ?_; (case hd => rfl); (case hg => rfl); (case hr => first | (go_simp; done) | (go_simp; rfl)); intro gb119 hg w5 hbox hb; have BK119 := Aside0.mk (hbox); have GW119 := Aside0.mk ((by rw [hg]; exact (below_size (by repeat (first | (with_reducible first | exact HB.out | apply below_alloc | apply pw_below_drewN | apply below_drew1 | refine below_set ?_ GE118.out) | exact HB.out))) : w.heap.size ≤ gb119)); have GE119 := Aside0.mk ((by rw [hg]; exact (below_size (by repeat (first | (with_reducible first | exact HB.out | apply below_alloc | apply pw_below_drewN | apply below_drew1 | refine below_set ?_ GE118.out) | exact HB.out))) : w.heap.size ≤ gb119)); replace HB := Aside0.mk (below_step (by repeat (first | (with_reducible first | exact HB.out | apply below_alloc | apply pw_below_drewN | apply below_drew1 | refine below_set ?_ GE118.out) | exact HB.out)) hb); have NB118_119 := Aside0.mk ((by rw [hg]; exact Nat.ne_of_lt (blk_lt (g := gb118) (o := .cells #[.int .i64 a0_0, .int .i64 a0_1] 55 (0, 0)) (by (with_reducible repeat (first | refine blk_drewN ?_ _ | refine blk_drew ?_ | refine blk_alloc ?_ _)); exact BK118.out)) : gb118 ≠ gb119)); have NB119_118 := Aside0.mk ((by rw [hg]; exact Nat.ne_of_gt (blk_lt (g := gb118) (o := .cells #[.int .i64 a0_0, .int .i64 a0_1] 55 (0, 0)) (by (with_reducible repeat (first | refine blk_drewN ?_ _ | refine blk_drew ?_ | refine blk_alloc ?_ _)); exact BK118.out)) : gb119 ≠ gb118)); replace BK118 := Aside0.mk (blk_below (g := gb118) (o := .cells #[.int .i64 a0_0, .int .i64 a0_1] 55 (0, 0)) (by (with_reducible repeat (first | refine blk_drewN ?_ _ | refine blk_drew ?_ | refine blk_alloc ?_ _)); exact BK118.out) hb); clear hb hbox hg; have hnb6 := NB118_119.out; have hnc6 := NB119_118.out; have hcz7_0 : w5.cell? ⟨gb118, 0, none⟩ = some (.int .i64 a0_0) := (blk_cell BK118.out 0).trans rfl; have hcz7_1 : w5.cell? ⟨gb118, 1, none⟩ = some (.int .i64 a0_1) := (blk_cell BK118.out 1).trans rfl; have hfz7_0 := blk_frozen BK118.out 0; have hfz7_1 := blk_frozen BK118.out 1; have hcz8_0 : w5.cell? ⟨gb119, 0, none⟩ = some (.int .i64 a1_0) := (blk_cell BK119.out 0).trans rfl; have hcz8_1 : w5.cell? ⟨gb119, 1, none⟩ = some (.int .i64 a1_1) := (blk_cell BK119.out 1).trans rfl; have hfz8_0 := blk_frozen BK119.out 0; have hfz8_1 := blk_frozen BK119.out 1))
  go_ret
  exact ⟨r2_, by repeat (first | (with_reducible first | exact HB.out | apply below_alloc | apply pw_below_drewN | apply below_drew1 | refine below_set ?_ GE118.out | refine below_set ?_ GE119.out) | exact HB.out)⟩
 ·rw [if_neg c3] at H
  have c3b0 : decide (a0_1 < a1_1) = false := decide_eq_false c3
  clear c3
  by_cases c9 : a0_1 = a1_1
  ·rw [if_pos c9] at H
   have c9b0 : (a0_1 == a1_1) = true := beq_iff_eq.mpr c9
   have c9b1 : (a0_1 != a1_1) = false := bne_eq_false_iff_eq.mpr c9
   clear c9
   obtain rfl := Option.some.inj H
   go_enter Try.func100, Try.ntmps100
   go_wp2_with (first | ((with_reducible refine gate_dst (N := 2) rfl ?_); refine box_event ?hg (N := 2) ?hd (cs := #[.int .i64 a0_0, .int .i64 a0_1]) (t := 55) ?hr ?_; (case hd => rfl); (case hg => rfl); (case hr => first | (go_simp; done) | (go_simp; rfl)); intro gb118 hg w10 hbox hb; have BK118 := Aside0.mk (hbox); have GW118 := Aside0.mk ((by rw [hg]; exact (below_size bB_) : w.heap.size ≤ gb118)); have GE118 := Aside0.mk ((by rw [hg]; exact (below_size bB_) : w.heap.size ≤ gb118)); replace HB := Aside0.mk (below_step bB_ hb); clear hb hbox hg) | ((with_reducible refine gate_dst (N := 3) rfl ?_); refine box_event ?hg (N := 3) ?hd (cs := #[.int .i64 a1_0, .int .i64 a1_1]) (t := 55) ?hr ?_; (case hd => rfl); (case hg => rfl); (case hr => first | (go_simp; done) | (go_simp; rfl)); intro gb119 hg w11 hbox hb; have BK119 := Aside0.mk (hbox); have GW119 := Aside0.mk ((by rw [hg]; exact (below_size (by repeat (first | (with_reducible first | exact HB.out | apply below_alloc | apply pw_below_drewN | apply below_drew1 | refine below_set ?_ GE118.out) | exact HB.out))) : w.heap.size ≤ gb119)); have GE119 := Aside0.mk ((by rw [hg]; exact (below_size (by repeat (first | (with_reducible first | exact HB.out | apply below_alloc | apply pw_below_drewN | apply below_drew1 | refine below_set ?_ GE118.out) | exact HB.out))) : w.heap.size ≤ gb119)); replace HB := Aside0.mk (below_step (by repeat (first | (with_reducible first | exact HB.out | apply below_alloc | apply pw_below_drewN | apply below_drew1 | refine below_set ?_ GE118.out) | exact HB.out)) hb); have NB118_119 := Aside0.mk ((by rw [hg]; exact Nat.ne_of_lt (blk_lt (g := gb118) (o := .cells #[.int .i64 a0_0, .int .i64 a0_1] 55 (0, 0)) (by (with_reducible repeat (first | refine blk_drewN ?_ _ | refine blk_drew ?_ | refine blk_alloc ?_ _)); exact BK118.out)) : gb118 ≠ gb119)); have NB119_118 := Aside0.mk ((by rw [hg]; exact Nat.ne_of_gt (blk_lt (g := gb118) (o := .cells #[.int .i64 a0_0, .int .i64 a0_1] 55 (0, 0)) (by (with_reducible repeat (first | refine blk_drewN ?_ _ | refine blk_drew ?_ | refine blk_alloc ?_ _)); exact BK118.out)) : gb119 ≠ gb118)); replace BK118 := Aside0.mk (blk_below (g := gb118) (o := .cells #[.int .i64 a0_0, .int .i64 a0_1] 55 (0, 0)) (by (with_reducible repeat (first | refine blk_drewN ?_ _ | refine blk_drew ?_ | refine blk_alloc ?_ _)); exact BK118.out) hb); clear hb hbox hg; have hnb12 := NB118_119.out; have hnc12 := NB119_118.out; have hcz13_0 : w11.cell? ⟨gb118, 0, none⟩ = some (.int .i64 a0_0) := (blk_cell BK118.out 0).trans rfl; have hcz13_1 : w11.cell? ⟨gb118, 1, none⟩ = some (.int .i64 a0_1) := (blk_cell BK118.out 1).trans rfl; have hfz13_0 := blk_frozen BK118.out 0; have hfz13_1 := blk_frozen BK118.out 1; have hcz14_0 : w11.cell? ⟨gb119, 0, none⟩ = some (.int .i64 a1_0) := (blk_cell BK119.out 0).trans rfl; have hcz14_1 : w11.cell? ⟨gb119, 1, none⟩ = some (.int .i64 a1_1) := (blk_cell BK119.out 1).trans rfl; have hfz14_0 := blk_frozen BK119.out 0; have hfz14_1 := blk_frozen BK119.out 1))
   go_ret
   exact ⟨r2_, by repeat (first | (with_reducible first | exact HB.out | apply below_alloc | apply pw_below_drewN | apply below_drew1 | refine below_set ?_ GE118.out | refine below_set ?_ GE119.out) | exact HB.out)⟩
  ·rw [if_neg c9] at H
   have c9b0 : (a0_1 == a1_1) = false := beq_eq_false_iff_ne.mpr c9
   have c9b1 : (a0_1 != a1_1) = true := bne_iff_ne.mpr c9
   obtain rfl := Option.some.inj H
   go_enter Try.func100, Try.ntmps100
   go_wp2_with (first | ((with_reducible refine gate_dst (N := 2) rfl ?_); refine box_event ?hg (N := 2) ?hd (cs := #[.int .i64 a0_0, .int .i64 a0_1]) (t := 55) ?hr ?_; (case hd => rfl); (case hg => rfl); (case hr => first | (go_simp; done) | (go_simp; rfl)); intro gb118 hg w15 hbox hb; have BK118 := Aside0.mk (hbox); have GW118 := Aside0.mk ((by rw [hg]; exact (below_size bB_) : w.heap.size ≤ gb118)); have GE118 := Aside0.mk ((by rw [hg]; exact (below_size bB_) : w.heap.size ≤ gb118)); replace HB := Aside0.mk (below_step bB_ hb); clear hb hbox hg) | ((with_reducible refine gate_dst (N := 3) rfl ?_); refine box_event ?hg (N := 3) ?hd (cs := #[.int .i64 a1_0, .int .i64 a1_1]) (t := 55) ?hr ?_; (case hd => rfl); (case hg => rfl); (case hr => first | (go_simp; done) | (go_simp; rfl)); intro gb119 hg w16 hbox hb; have BK119 := Aside0.mk (hbox); have GW119 := Aside0.mk ((by rw [hg]; exact (below_size (by repeat (first | (with_reducible first | exact HB.out | apply below_alloc | apply pw_below_drewN | apply below_drew1 | refine below_set ?_ GE118.out) | exact HB.out))) : w.heap.size ≤ gb119)); have GE119 := Aside0.mk ((by rw [hg]; exact (below_size (by repeat (first | (with_reducible first | exact HB.out | apply below_alloc | apply pw_below_drewN | apply below_drew1 | refine below_set ?_ GE118.out) | exact HB.out))) : w.heap.size ≤ gb119)); replace HB := Aside0.mk (below_step (by repeat (first | (with_reducible first | exact HB.out | apply below_alloc | apply pw_below_drewN | apply below_drew1 | refine below_set ?_ GE118.out) | exact HB.out)) hb); have NB118_119 := Aside0.mk ((by rw [hg]; exact Nat.ne_of_lt (blk_lt (g := gb118) (o := .cells #[.int .i64 a0_0, .int .i64 a0_1] 55 (0, 0)) (by (with_reducible repeat (first | refine blk_drewN ?_ _ | refine blk_drew ?_ | refine blk_alloc ?_ _)); exact BK118.out)) : gb118 ≠ gb119)); have NB119_118 := Aside0.mk ((by rw [hg]; exact Nat.ne_of_gt (blk_lt (g := gb118) (o := .cells #[.int .i64 a0_0, .int .i64 a0_1] 55 (0, 0)) (by (with_reducible repeat (first | refine blk_drewN ?_ _ | refine blk_drew ?_ | refine blk_alloc ?_ _)); exact BK118.out)) : gb119 ≠ gb118)); replace BK118 := Aside0.mk (blk_below (g := gb118) (o := .cells #[.int .i64 a0_0, .int .i64 a0_1] 55 (0, 0)) (by (with_reducible repeat (first | refine blk_drewN ?_ _ | refine blk_drew ?_ | refine blk_alloc ?_ _)); exact BK118.out) hb); clear hb hbox hg; have hnb17 := NB118_119.out; have hnc17 := NB119_118.out; have hcz18_0 : w16.cell? ⟨gb118, 0, none⟩ = some (.int .i64 a0_0) := (blk_cell BK118.out 0).trans rfl; have hcz18_1 : w16.cell? ⟨gb118, 1, none⟩ = some (.int .i64 a0_1) := (blk_cell BK118.out 1).trans rfl; have hfz18_0 := blk_frozen BK118.out 0; have hfz18_1 := blk_frozen BK118.out 1; have hcz19_0 : w16.cell? ⟨gb119, 0, none⟩ = some (.int .i64 a1_0) := (blk_cell BK119.out 0).trans rfl; have hcz19_1 : w16.cell? ⟨gb119, 1, none⟩ = some (.int .i64 a1_1) := (blk_cell BK119.out 1).trans rfl; have hfz19_0 := blk_frozen BK119.out 0; have hfz19_1 := blk_frozen BK119.out 1))
   go_ret
   exact ⟨r2_, by repeat (first | (with_reducible first | exact HB.out | apply below_alloc | apply pw_below_drewN | apply below_drew1 | refine below_set ?_ GE118.out | refine below_set ?_ GE119.out) | exact HB.out)⟩

/-! ### spec_l01In: function 108 -/
def spec_l01In.f (a0 : Int) (a1 : Int) (a2 : Int) : Option (Bool) := if a0 ≥ a1 then (some (decide (a0 ≤ a2))) else (some false)
set_option maxHeartbeats 8000000 in
set_option maxRecDepth 100000 in
theorem spec_l01In.calls (a0 : Int) (a1 : Int) (a2 : Int) (r : Bool) (w : World) (h : spec_l01In.f a0 a1 a2 = some r) :
  Calls Try.prog 108 #[.int .i64 a0, .int .i64 a1, .int .i64 a2] w fun e w' => e = .returned (.bool r) ∧ Drawn0 w w' := by
 have H : (if a0 ≥ a1 then (some (decide (a0 ≤ a2))) else (some false)) = some r := h
 clear h
 by_cases c4 : a0 ≥ a1
 ·rw [if_pos c4] at H
  have c4b0 : decide (a1 ≤ a0) = true := decide_eq_true c4
  clear c4
  obtain rfl := Option.some.inj H
  go_enter Try.func108, Try.ntmps108
  go_wp2
  go_ret
  exact ⟨r3_, by repeat (first | exact Drawn0.refl _ | apply Drawn0.step)⟩
 ·rw [if_neg c4] at H
  have c4b0 : decide (a1 ≤ a0) = false := decide_eq_false c4
  clear c4
  obtain rfl := Option.some.inj H
  go_enter Try.func108, Try.ntmps108
  go_wp2
  go_ret
  exact ⟨r3_, by repeat (first | exact Drawn0.refl _ | apply Drawn0.step)⟩

/-! ### spec_l02Index: function 88 -/
def spec_l02Index.l0 : Nat → List (S55) → Int → Int → Int → Option (Int)
 | 0, _, _, _, _ => none
 | k + 1, x0, x5, x136000, x136001 => if x5 < (x0.length : Int) then (if 0 ≤ x5 then (if (((rd_T55 x0 x5).f0) == x136000 && (((rd_T55 x0 x5).f1) == x136001)) = true then (some x5) else (spec_l02Index.l0 k x0 (wrap64 (x5 + 1)) x136000 x136001)) else (none)) else (some (-1))
def spec_l02Index.f (k : Nat) (l0 : List (S55)) (a1_0 : Int) (a1_1 : Int) : Option (Int) := spec_l02Index.l0 k l0 0 a1_0 a1_1
theorem spec_l02Index.mono_l : ∀ k, (∀ y0 y1 y2 y3, LeO (spec_l02Index.l0 k y0 y1 y2 y3) (spec_l02Index.l0 (k + 1) y0 y1 y2 y3))
 | 0 => fun _ _ _ _ r h => by simp [spec_l02Index.l0] at h
 | k + 1 => by
  have ih0 := spec_l02Index.mono_l k
  ·intro y0 y1 y2 y3
   unfold spec_l02Index.l0
   repeat' first
   | (with_reducible exact ih0 _ _ _ _)
   | (with_reducible exact LeO.refl _)
   | (with_reducible exact LeO.none _)
   | (with_reducible refine LeO.ite ?_ ?_)
   | (with_reducible refine LeO.bind ?_ (fun _ => ?_))
   | exact ih0 _ _ _ _
   | exact LeO.none _
   | refine LeO.ite ?_ ?_
   | refine LeO.bind ?_ (fun _ => ?_)
theorem spec_l02Index.mono : ∀ a0 a1 a2 k, LeO (spec_l02Index.f k a0 a1 a2) (spec_l02Index.f (k + 1) a0 a1 a2) := by
 intro a0 a1 a2 k
 have ih0 := spec_l02Index.mono_l k
 unfold spec_l02Index.f
 repeat' first
   | (with_reducible exact ih0 _ _ _ _)
   | (with_reducible exact LeO.refl _)
   | (with_reducible exact LeO.none _)
   | (with_reducible refine LeO.ite ?_ ?_)
   | (with_reducible refine LeO.bind ?_ (fun _ => ?_))
   | exact ih0 _ _ _ _
   | exact LeO.none _
   | refine LeO.ite ?_ ?_
   | refine LeO.bind ?_ (fun _ => ?_)
set_option maxHeartbeats 8000000 in
set_option maxRecDepth 100000 in
theorem spec_l02Index.calls (k : Nat) (A0 : Option Addr) (c0 : Nat) (l0 : List (S55)) (a1_0 : Int) (a1_1 : Int) (r : Int) (w : World) (hr0 : Kd.C k55 w A0 l0.length l0) (hc0 : l0.length ≤ c0) (h : spec_l02Index.f k l0 a1_0 a1_1 = some r) :
  Calls Try.prog 88 #[.slice A0 l0.length c0, .agg #[.int .i64 a1_0, .int .i64 a1_1]] w fun e w' => e = .returned (.int .i64 r) ∧ Below w.heap.size w w' := by
 have hu55 := Try.underlying55
 have HR0 := Aside0.mk hr0
 have HC0 := Aside0.mk hc0
 clear hr0 hc0
 have HB := Aside0.mk (Below.refl w.heap.size w)
 have H : (spec_l02Index.l0 k l0 0 a1_0 a1_1) = some r := h
 clear h
 have H' := Aside0.mk H
 clear H
 go_enter Try.func88, Try.ntmps88
 go_wp2_with (first | ((with_reducible refine gate_dst (N := 3) rfl ?_); refine box_event ?hg (N := 3) ?hd (cs := #[.int .i64 a1_0, .int .i64 a1_1]) (t := 55) ?hr ?_; (case hd => rfl); (case hg => rfl); (case hr => first | (go_simp; done) | (go_simp; rfl)); intro gb135 hg w3 hbox hb; have BK135 := Aside0.mk (hbox); have GW135 := Aside0.mk ((by rw [hg]; exact (below_size bB_) : w.heap.size ≤ gb135)); have GE135 := Aside0.mk ((by rw [hg]; exact (below_size bB_) : w.heap.size ≤ gb135)); replace HB := Aside0.mk (below_step bB_ hb); clear hb hbox hg))
 repeat (go_quiet (first | ((with_reducible refine gate_dst (N := 3) rfl ?_); refine box_event ?hg (N := 3) ?hd (cs := #[.int .i64 a1_0, .int .i64 a1_1]) (t := 55) ?hr ?_; (case hd => rfl); (case hg => rfl); (case hr => first | (go_simp; done) | (go_simp; rfl)); intro gb135 hg w3 hbox hb; have BK135 := Aside0.mk (hbox); have GW135 := Aside0.mk ((by rw [hg]; exact (below_size bB_) : w.heap.size ≤ gb135)); have GE135 := Aside0.mk ((by rw [hg]; exact (below_size bB_) : w.heap.size ≤ gb135)); replace HB := Aside0.mk (below_step bB_ hb); clear hb hbox hg)); try go_wp2_with (first | ((with_reducible refine gate_dst (N := 3) rfl ?_); refine box_event ?hg (N := 3) ?hd (cs := #[.int .i64 a1_0, .int .i64 a1_1]) (t := 55) ?hr ?_; (case hd => rfl); (case hg => rfl); (case hr => first | (go_simp; done) | (go_simp; rfl)); intro gb135 hg w3 hbox hb; have BK135 := Aside0.mk (hbox); have GW135 := Aside0.mk ((by rw [hg]; exact (below_size bB_) : w.heap.size ≤ gb135)); have GE135 := Aside0.mk ((by rw [hg]; exact (below_size bB_) : w.heap.size ≤ gb135)); replace HB := Aside0.mk (below_step bB_ hb); clear hb hbox hg)))
 go_loopg [5] k (fun kq v5 w' => ∃ (x5_1 : Int), v5 = .int .i64 x5_1 ∧ Aside0 (spec_l02Index.l0 kq l0 x5_1 a1_0 a1_1 = some r) ∧ Aside0 (kq ≤ k) ∧ Aside0 (w'.heap[gb135]? = some (.cells #[.int .i64 a1_0, .int .i64 a1_1] 55 (0, 0))) ∧ Aside0 (Below w.heap.size w w'))
 case atStart => exact ⟨(0), r3_, H', ⟨Nat.le_refl _⟩, ⟨by (with_reducible repeat (first | refine blk_drewN ?_ _ | refine blk_drew ?_ | refine blk_alloc ?_ _)); exact BK135.out⟩, ⟨by repeat (first | (with_reducible first | exact HB.out | apply below_alloc | apply pw_below_drewN | apply below_drew1 | refine below_set ?_ GE135.out) | exact HB.out)⟩⟩
 case round =>
  clear H'
  try clear p2
  obtain ⟨x5_1, rfl, HA, HK1, BK135, HB⟩ := hrel
  cases gk with
  | zero => exact absurd HA.out (by simp [spec_l02Index.l0])
  | succ k1 =>
   have H := HA.out
   clear HA
   simp only [spec_l02Index.l0] at H
   by_cases c4 : x5_1 < (l0.length : Int)
   ·rw [if_pos c4] at H
    have c4b0 : decide (x5_1 < (l0.length : Int)) = true := decide_eq_true c4
    clear c4
    by_cases c5 : 0 ≤ x5_1
    ·rw [if_pos c5] at H
     have c5b0 : decide (0 ≤ x5_1) = true := decide_eq_true c5
     clear c5
     by_cases c6 : (((rd_T55 l0 x5_1).f0) == a1_0 && (((rd_T55 l0 x5_1).f1) == a1_1)) = true
     ·rw [if_pos c6] at H
      have c6b0 : (((rd_T55 l0 x5_1).f0) == a1_0 && (((rd_T55 l0 x5_1).f1) == a1_1)) = true := c6
      (try (have c6b1 : decide (((rd_T55 l0 x5_1).f0) = a1_0 && (((rd_T55 l0 x5_1).f1) == a1_1)) = true := by simpa using c6))
      (try (have c6b2 : (((rd_T55 l0 x5_1).f0) == a1_0 && (((rd_T55 l0 x5_1).f1) == a1_1)) = true := by simpa using c6))
      clear c6
      obtain rfl := Option.some.inj H
      have p136 : 0 ≤ (x5_1 : Int) := of_decide_eq_true aS_
      have q136 : x5_1 < (l0.length : Int) := of_decide_eq_true aS_
      obtain ⟨ad136, e136, hx136_0, hx136_1⟩ := at_T55 HR0.out x5_1 p136 q136
      cases e136
      replace hx136_0 := (HB.out.cell (World.block_lt_of_cell? w _ hx136_0)).trans hx136_0
      replace hx136_1 := (HB.out.cell (World.block_lt_of_cell? w _ hx136_1)).trans hx136_1
      replace p136 := eq_true p136
      replace q136 := eq_true q136
      have hcz7_0 : wr.cell? ⟨gb135, 0, none⟩ = some (.int .i64 a1_0) := (blk_cell BK135.out 0).trans rfl
      have hcz7_1 : wr.cell? ⟨gb135, 1, none⟩ = some (.int .i64 a1_1) := (blk_cell BK135.out 1).trans rfl
      have hfz7_0 := blk_frozen BK135.out 0
      have hfz7_1 := blk_frozen BK135.out 1
      go_wp2
      repeat (go_quiet (fail); try go_wp2)
      go_ret
      exact ⟨r2_, by repeat (first | (with_reducible first | exact HB.out | apply below_alloc | apply pw_below_drewN | apply below_drew1 | refine below_set ?_ GE135.out) | exact HB.out)⟩
     ·rw [if_neg c6] at H
      have c6b0 : (((rd_T55 l0 x5_1).f0) == a1_0 && (((rd_T55 l0 x5_1).f1) == a1_1)) = false := by simpa using c6
      (try (have c6b1 : decide (((rd_T55 l0 x5_1).f0) = a1_0 && (((rd_T55 l0 x5_1).f1) == a1_1)) = false := by simpa using c6))
      (try (have c6b2 : (((rd_T55 l0 x5_1).f0) == a1_0 && (((rd_T55 l0 x5_1).f1) == a1_1)) = false := by simpa using c6))
      (try (have c6b3 : ¬ (((rd_T55 l0 x5_1).f0) = a1_0 && (((rd_T55 l0 x5_1).f1) == a1_1)) := by simpa using c6))
      clear c6
      have H' := Aside0.mk H
      clear H
      have p136 : 0 ≤ (x5_1 : Int) := of_decide_eq_true aS_
      have q136 : x5_1 < (l0.length : Int) := of_decide_eq_true aS_
      obtain ⟨ad136, e136, hx136_0, hx136_1⟩ := at_T55 HR0.out x5_1 p136 q136
      cases e136
      replace hx136_0 := (HB.out.cell (World.block_lt_of_cell? w _ hx136_0)).trans hx136_0
      replace hx136_1 := (HB.out.cell (World.block_lt_of_cell? w _ hx136_1)).trans hx136_1
      replace p136 := eq_true p136
      replace q136 := eq_true q136
      have hcz8_0 : wr.cell? ⟨gb135, 0, none⟩ = some (.int .i64 a1_0) := (blk_cell BK135.out 0).trans rfl
      have hcz8_1 : wr.cell? ⟨gb135, 1, none⟩ = some (.int .i64 a1_1) := (blk_cell BK135.out 1).trans rfl
      have hfz8_0 := blk_frozen BK135.out 0
      have hfz8_1 := blk_frozen BK135.out 1
      go_wp2
      repeat (go_quiet (fail); try go_wp2)
      go_roundg k1
      case measure => have := HK1.out; omega
      case rel => exact ⟨(wrap64 (x5_1 + 1)), r3_, H', ⟨by have := HK1.out; omega⟩, ⟨by (with_reducible repeat (first | refine blk_drewN ?_ _ | refine blk_drew ?_ | refine blk_alloc ?_ _)); exact BK135.out⟩, ⟨by repeat (first | (with_reducible first | exact HB.out | apply below_alloc | apply pw_below_drewN | apply below_drew1 | refine below_set ?_ GE135.out) | exact HB.out)⟩⟩
    ·rw [if_neg c5] at H
     exact absurd H (by simp)
   ·rw [if_neg c4] at H
    have c4b0 : decide (x5_1 < (l0.length : Int)) = false := decide_eq_false c4
    clear c4
    obtain rfl := Option.some.inj H
    go_wp2
    repeat (go_quiet (fail); try go_wp2)
    go_ret
    exact ⟨r2_, by repeat (first | (with_reducible first | exact HB.out | apply below_alloc | apply pw_below_drewN | apply below_drew1 | refine below_set ?_ GE135.out) | exact HB.out)⟩

/-! ### spec_l02Insert: function 79 -/
def spec_l02Insert.l0 : Nat → List (S55) → List (S55) → Bool → Int → Int → Int → Option ((List (S55)))
 | 0, _, _, _, _, _, _ => none
 | k + 1, x0, x5, x6, x7, x179000, x179001 => if x7 < (x0.length : Int) then (if x6 = true then (if 0 ≤ x7 then (if x5.length < 8796093022208 then (spec_l02Insert.l0 k x0 (x5 ++ [(⟨(rd_T55 x0 x7).f0, (rd_T55 x0 x7).f1⟩ : S55)]) x6 (wrap64 (x7 + 1)) x179000 x179001) else (none)) else (none)) else (if 0 ≤ x7 then ((spec_l02Less.f x179000 x179001 ((rd_T55 x0 x7).f0) ((rd_T55 x0 x7).f1)).bind fun t187 => (if t187 = true then (if x5.length < 8796093022208 then ((some (x5 ++ [(⟨x179000, x179001⟩ : S55)] : List (S55))).bind fun y188 => (if y188.length < 8796093022208 then (spec_l02Insert.l0 k x0 (y188 ++ [(⟨(rd_T55 x0 x7).f0, (rd_T55 x0 x7).f1⟩ : S55)]) true (wrap64 (x7 + 1)) x179000 x179001) else (none))) else (none)) else (if x5.length < 8796093022208 then (spec_l02Insert.l0 k x0 (x5 ++ [(⟨(rd_T55 x0 x7).f0, (rd_T55 x0 x7).f1⟩ : S55)]) x6 (wrap64 (x7 + 1)) x179000 x179001) else (none)))) else (none))) else (if x6 = true then (some x5) else (if x5.length < 8796093022208 then (some (x5 ++ [(⟨x179000, x179001⟩ : S55)])) else (none)))
def spec_l02Insert.f (k : Nat) (l0 : List (S55)) (a1_0 : Int) (a1_1 : Int) : Option ((List (S55))) := spec_l02Insert.l0 k l0 (([] : List (S55))) false 0 a1_0 a1_1
theorem spec_l02Insert.mono_l : ∀ k, (∀ y0 y1 y2 y3 y4 y5, LeO (spec_l02Insert.l0 k y0 y1 y2 y3 y4 y5) (spec_l02Insert.l0 (k + 1) y0 y1 y2 y3 y4 y5))
 | 0 => fun _ _ _ _ _ _ r h => by simp [spec_l02Insert.l0] at h
 | k + 1 => by
  have ih0 := spec_l02Insert.mono_l k
  ·intro y0 y1 y2 y3 y4 y5
   unfold spec_l02Insert.l0
   repeat' first
   | (with_reducible exact ih0 _ _ _ _ _ _)
   | (with_reducible exact LeO.refl _)
   | (with_reducible exact LeO.none _)
   | (with_reducible refine LeO.ite ?_ ?_)
   | (with_reducible refine LeO.bind ?_ (fun _ => ?_))
   | exact ih0 _ _ _ _ _ _
   | exact LeO.none _
   | refine LeO.ite ?_ ?_
   | refine LeO.bind ?_ (fun _ => ?_)
theorem spec_l02Insert.mono : ∀ a0 a1 a2 k, LeO (spec_l02Insert.f k a0 a1 a2) (spec_l02Insert.f (k + 1) a0 a1 a2) := by
 intro a0 a1 a2 k
 have ih0 := spec_l02Insert.mono_l k
 unfold spec_l02Insert.f
 repeat' first
   | (with_reducible exact ih0 _ _ _ _ _ _)
   | (with_reducible exact LeO.refl _)
   | (with_reducible exact LeO.none _)
   | (with_reducible refine LeO.ite ?_ ?_)
   | (with_reducible refine LeO.bind ?_ (fun _ => ?_))
   | exact ih0 _ _ _ _ _ _
   | exact LeO.none _
   | refine LeO.ite ?_ ?_
   | refine LeO.bind ?_ (fun _ => ?_)
def spec_l02Insert.T6 : Bool × List (List Nat × List Nat) := (true, [([], []), ([0], [0]), ([1], [1]), ([2], [2]), ([2], [2]), ([2], [2]), ([4, 5, 2], [2, 4, 5]), ([6, 2], [2, 6]), ([3, 7, 2, 2], [2, 3, 7]), ([2, 8], [2, 8])])
def spec_l02Insert.B6 : List Nat := [0, 1, 3, 7, 7, 7, 55, 119, 255, 511]
theorem spec_l02Insert.tab6 : rtab .any (opsOf Try.f79 6) = spec_l02Insert.T6 := by kernel_rfl
theorem spec_l02Insert.bits6 : waitsOk spec_l02Insert.T6.2 spec_l02Insert.B6 = true := by kernel_rfl
set_option maxHeartbeats 8000000 in
set_option maxRecDepth 100000 in
theorem spec_l02Insert.calls (k : Nat) (A0 : Option Addr) (c0 : Nat) (l0 : List (S55)) (a1_0 : Int) (a1_1 : Int) (r : List (S55)) (w : World) (hr0 : Kd.C k55 w A0 l0.length l0) (hc0 : l0.length ≤ c0) (h : spec_l02Insert.f k l0 a1_0 a1_1 = some r) :
  Calls Try.prog 79 #[.slice A0 l0.length c0, .agg #[.int .i64 a1_0, .int .i64 a1_1]] w fun e w' => ∃ v0_ : Value, e = .returned (v0_) ∧ Kd.R k55 55 w' w.heap.size (fun _ => True) v0_ r ∧ Below w.heap.size w w' := by
 have hu55 := Try.underlying55
 have HR0 := Aside0.mk hr0
 have HC0 := Aside0.mk hc0
 clear hr0 hc0
 have HB := Aside0.mk (Below.refl w.heap.size w)
 have H : (spec_l02Insert.l0 k l0 (([] : List (S55))) false 0 a1_0 a1_1) = some r := h
 clear h
 obtain ⟨y179, hY_⟩ : ∃ y_ : List (S55), y_ = (([] : List (S55))) := ⟨_, rfl⟩
 replace H : (spec_l02Insert.l0 k l0 y179 false 0 a1_0 a1_1) = some r := yY_
 have Ny179 := Aside0.mk hY_
 clear hY_
 have H' := Aside0.mk H
 clear H
 go_enter Try.func79, Try.ntmps79
 go_wp2_with (first | ((with_reducible refine gate_dst (N := 3) rfl ?_); refine box_event ?hg (N := 3) ?hd (cs := #[.int .i64 a1_0, .int .i64 a1_1]) (t := 55) ?hr ?_; (case hd => rfl); (case hg => rfl); (case hr => first | (go_simp; done) | (go_simp; rfl)); intro gb178 hg w3 hbox hb; have BK178 := Aside0.mk (hbox); have GW178 := Aside0.mk ((by rw [hg]; exact (below_size bB_) : w.heap.size ≤ gb178)); have GE178 := Aside0.mk ((by rw [hg]; exact (below_size bB_) : w.heap.size ≤ gb178)); replace HB := Aside0.mk (below_step bB_ hb); clear hb hbox hg) | ((with_reducible refine gate_dst (N := 8) rfl ?_); refine Kd.R_lit k55 _ 55 ?hg (N := 8) ?hd (xs := ([] : List (S55))) (inner := []) (ok := fun _ => True) (okp := fun _ => True) ?hr ?hp (fun _ hk => hk) trivial (Below.refl _ _) (Nat.le_refl _) (by simp) ?_; (case hd => rfl); (case hg => rfl); (case hr => first | (go_simp; done) | (go_simp; rfl)); (case hp => exact (Reps.none _ _)); intro v180 w4 ho5 hb hg_ hnew_; clear hg_ hnew_; (first | rw [← Ny179.out] at ho5 | (simp only [Int.reduceToNat] at ho5; rw [← Ny179.out] at ho5)); have HO181 := Aside0.mk (Kd.R_lower (Kd.R_newB ho5 (g := gb178) (o := .cells #[.int .i64 a1_0, .int .i64 a1_1] 55 (0, 0)) (by (with_reducible repeat (first | refine blk_drewN ?_ _ | refine blk_drew ?_ | refine blk_alloc ?_ _)); exact BK178.out)) (below_size (by repeat (first | (with_reducible first | exact HB.out | apply below_alloc | apply pw_below_drewN | apply below_drew1 | refine below_set ?_ GE178.out) | exact HB.out)))); replace BK178 := Aside0.mk (blk_below (g := gb178) (o := .cells #[.int .i64 a1_0, .int .i64 a1_1] 55 (0, 0)) (by (with_reducible repeat (first | refine blk_drewN ?_ _ | refine blk_drew ?_ | refine blk_alloc ?_ _)); exact BK178.out) hb); replace HB := Aside0.mk (below_step (by repeat (first | (with_reducible first | exact HB.out | apply below_alloc | apply pw_below_drewN | apply below_drew1 | refine below_set ?_ GE178.out) | exact HB.out)) hb); clear hb ho5))
 go_loopg [5, 6, 7] k (fun kq v5 v6 v7 w' => ∃ (x5_1 : List (S55)) (x6_1 : Bool) (x7_1 : Int), v6 = .bool x6_1 ∧ v7 = .int .i64 x7_1 ∧ Aside0 (spec_l02Insert.l0 kq l0 x5_1 x6_1 x7_1 a1_0 a1_1 = some r) ∧ Aside0 (kq ≤ k) ∧ Aside0 (Kd.R k55 55 w' w.heap.size (fun k_ => k_ ≠ gb178) v5 x5_1) ∧ Aside0 (w'.heap[gb178]? = some (.cells #[.int .i64 a1_0, .int .i64 a1_1] 55 (0, 0))) ∧ Aside0 (Below w.heap.size w w'))
 case atStart => exact ⟨(y179), (false), (0), r3_, r3_, H', ⟨Nat.le_refl _⟩, ⟨rS_ (Kd.R_mono HO181.out (fun _ hk => hk.2))⟩, ⟨by (with_reducible repeat (first | refine blk_drewN ?_ _ | refine blk_drew ?_ | refine blk_alloc ?_ _)); exact BK178.out⟩, ⟨by repeat (first | (with_reducible first | exact HB.out | apply below_alloc | apply pw_below_drewN | apply below_drew1 | refine below_set ?_ GE178.out) | exact HB.out)⟩⟩
 case round =>
  clear H'
  try clear p2
  obtain ⟨x5_1, x6_1, x7_1, rfl, rfl, HA, HK1, HO_5, BK178, HB⟩ := hrel
  cases gk with
  | zero => exact absurd HA.out (by simp [spec_l02Insert.l0])
  | succ k1 =>
   have H := HA.out
   clear HA
   simp only [spec_l02Insert.l0] at H
   by_cases c6 : x7_1 < (l0.length : Int)
   ·rw [if_pos c6] at H
    have c6b0 : decide (x7_1 < (l0.length : Int)) = true := decide_eq_true c6
    clear c6
    by_cases c7 : x6_1 = true
    ·subst c7
     have H1 : (if 0 ≤ x7_1 then (if x5_1.length < 8796093022208 then (spec_l02Insert.l0 k1 l0 (x5_1 ++ [(⟨(rd_T55 l0 x7_1).f0, (rd_T55 l0 x7_1).f1⟩ : S55)]) true (wrap64 (x7_1 + 1)) a1_0 a1_1) else (none)) else (none)) = some r := by rw [if_pos rfl] at H; exact H
     clear H
     have H := H1
     clear H1
     by_cases c8 : 0 ≤ x7_1
     ·rw [if_pos c8] at H
      have c8b0 : decide (0 ≤ x7_1) = true := decide_eq_true c8
      clear c8
      by_cases c9 : x5_1.length < 8796093022208
      ·rw [if_pos c9] at H
       have LMc9 := Aside0.mk c9
       clear c9
       obtain ⟨y183, hY_⟩ : ∃ y_ : List (S55), y_ = (x5_1 ++ [(⟨(rd_T55 l0 x7_1).f0, (rd_T55 l0 x7_1).f1⟩ : S55)]) := ⟨_, rfl⟩
       replace H : (spec_l02Insert.l0 k1 l0 y183 true (wrap64 (x7_1 + 1)) a1_0 a1_1) = some r := yY_
       have Ny183 := Aside0.mk hY_
       clear hY_
       have H' := Aside0.mk H
       clear H
       try go_wp2
       replace HO_5 := Aside0.mk (Kd.R_drew HO_5.out)
       replace BK178 := Aside0.mk (blk_drew BK178.out)
       replace HB := Aside0.mk (below_drew1 HB.out)
       refine start_ (n := 10) (S := fun w' => True) (ds := []) #[F, F, F, F, F, F, F, F, F, F] (by kernel_rfl) rfl rfl trivial (fun hHeld => ?_); refine with_tabW spec_l02Insert.tab6 spec_l02Insert.bits6 (fun HT_ HW_ => ?_)
       generalize wr.drew = w10 at HO_5 BK178 HB hHeld ⊢
       refine pu_ HT_ 0 (some 15) #[T,F,F,F,F,F,F,F,F,F] ?_
       refine pu_ HT_ 1 (some 16) #[T,T,F,F,F,F,F,F,F,F] ?_
       refine pu_ HT_ 2 (some 17) #[T,T,T,F,F,F,F,F,F,F] ?_
       refine pn_ HT_ 3 (some 18) #[T,T,T,T,F,F,F,F,F,F] ?_
       refine pn_ HT_ 4 (some 19) #[T,T,T,T,T,F,F,F,F,F] ?_
       refine pn_ HT_ 5 (some 20) #[T,T,T,T,T,T,F,F,F,F] ?_
       refine pn_ HT_ 6 (some 21) #[T,T,T,T,T,T,T,F,F,F] ?_
       refine pn_ HT_ 7 (some 22) #[T,T,T,T,T,T,T,T,F,F] ?_
       refine pn_ HT_ 8 (some 23) #[T,T,T,T,T,T,T,T,T,F] ?_
       refine pu_ HT_ 9 (some 24) #[T,T,T,T,T,T,T,T,T,T] ?_
       refine done_ (done_of HT_.out (by kernel_rfl)) ?_
       have p182 : 0 ≤ (x7_1 : Int) := of_decide_eq_true aS_
       have q182 : x7_1 < (l0.length : Int) := of_decide_eq_true aS_
       obtain ⟨ad182, e182, hx182_0, hx182_1⟩ := at_T55 HR0.out x7_1 p182 q182
       cases e182
       replace hx182_0 := (HB.out.cell (World.block_lt_of_cell? w _ hx182_0)).trans hx182_0
       replace hx182_1 := (HB.out.cell (World.block_lt_of_cell? w _ hx182_1)).trans hx182_1
       replace p182 := eq_true p182
       replace q182 := eq_true q182
       try go_wp2_with (first | ((with_reducible refine gate_builtin (b := .append) (xs := #[.tmp 29, .tmp 34]) rfl ?_); at_builtin; refine Kd.R_append k55 (w0 := w) w.heap.size rfl (.tmp 29) (.tmp 34) 27 55 (.agg #[(.int .i64 0), (.int .i64 0)]) 16 rfl Try.underlying27 info55 rfl (by decide) (by omega) u5 x5_1 (⟨(rd_T55 l0 x7_1).f0, (rd_T55 l0 x7_1).f1⟩ : S55) [.int .i64 ((rd_T55 l0 x7_1).f0), .int .i64 ((rd_T55 l0 x7_1).f1)] (fun k_ => k_ ≠ gb178) (fun _ => False) rfl rfl ?aP (fun _ hk => hk.elim) ?aF ?aO ?aB ?aS ?aL ?_; (case aP => exact k55_mkM _ _ _ (⟨(rd_T55 l0 x7_1).f0, (rd_T55 l0 x7_1).f1⟩ : S55)); (case aB => exact (by repeat (first | (with_reducible first | exact HB.out | apply below_alloc | apply pw_below_drewN | apply below_drew1 | refine below_set ?_ GE178.out) | exact HB.out))); (case aF => exact (fun k_ hk => Kd.freshB (g := gb178) (o := .cells #[.int .i64 a1_0, .int .i64 a1_1] 55 (0, 0)) (by (with_reducible repeat (first | refine blk_drewN ?_ _ | refine blk_drew ?_ | refine blk_alloc ?_ _)); exact BK178.out) k_ hk)); (case aO => exact (rS_ HO_5.out)); (case aS => exact (below_size (by repeat (first | (with_reducible first | exact HB.out | apply below_alloc | apply pw_below_drewN | apply below_drew1 | refine below_set ?_ GE178.out) | exact HB.out)))); (case aL => have := LMc9.out; omega); intro v184 w11 ho hb hg hat; rw [← Ny183.out] at ho; replace BK178 := Aside0.mk (blk_grown (g := gb178) (o := .cells #[.int .i64 a1_0, .int .i64 a1_1] 55 (0, 0)) (by (with_reducible repeat (first | refine blk_drewN ?_ _ | refine blk_drew ?_ | refine blk_alloc ?_ _)); exact BK178.out) hg (Kd.R_away HO_5.out (fun _ hk => hk))); replace HB := Aside0.mk (hb); have HO185 := Aside0.mk (ho); clear HO_5; clear ho hb hg hat))
       go_roundg k1
       case measure => have := HK1.out; omega
       case rel => exact ⟨(y183), (true), (wrap64 (x7_1 + 1)), r3_, r3_, H', ⟨by have := HK1.out; omega⟩, ⟨rS_ HO185.out⟩, ⟨by (with_reducible repeat (first | refine blk_drewN ?_ _ | refine blk_drew ?_ | refine blk_alloc ?_ _)); exact BK178.out⟩, ⟨by repeat (first | (with_reducible first | exact HB.out | apply below_alloc | apply pw_below_drewN | apply below_drew1 | refine below_set ?_ GE178.out) | exact HB.out)⟩⟩
      ·rw [if_neg c9] at H
       exact absurd H (by simp)
     ·rw [if_neg c8] at H
      exact absurd H (by simp)
    ·replace c7 := Bool.eq_false_iff.mpr c7
     subst c7
     have H1 : (if 0 ≤ x7_1 then ((spec_l02Less.f a1_0 a1_1 ((rd_T55 l0 x7_1).f0) ((rd_T55 l0 x7_1).f1)).bind fun t187 => (if t187 = true then (if x5_1.length < 8796093022208 then ((some (x5_1 ++ [(⟨a1_0, a1_1⟩ : S55)] : List (S55))).bind fun y188 => (if y188.length < 8796093022208 then (spec_l02Insert.l0 k1 l0 (y188 ++ [(⟨(rd_T55 l0 x7_1).f0, (rd_T55 l0 x7_1).f1⟩ : S55)]) true (wrap64 (x7_1 + 1)) a1_0 a1_1) else (none))) else (none)) else (if x5_1.length < 8796093022208 then (spec_l02Insert.l0 k1 l0 (x5_1 ++ [(⟨(rd_T55 l0 x7_1).f0, (rd_T55 l0 x7_1).f1⟩ : S55)]) false (wrap64 (x7_1 + 1)) a1_0 a1_1) else (none)))) else (none)) = some r := by rw [if_neg (show ¬ (false = true) by decide)] at H; exact H
     clear H
     have H := H1
     clear H1
     by_cases c12 : 0 ≤ x7_1
     ·rw [if_pos c12] at H
      have c12b0 : decide (0 ≤ x7_1) = true := decide_eq_true c12
      clear c12
      replace H := Option.bind_eq_some_iff.mp H
      obtain ⟨t187, A130, H⟩ := H
      try dsimp only at H
      have A13 := Aside0.mk A130
      clear A130
      by_cases c14 : t187 = true
      ·subst c14
       have H1 : (if x5_1.length < 8796093022208 then ((some (x5_1 ++ [(⟨a1_0, a1_1⟩ : S55)] : List (S55))).bind fun y188 => (if y188.length < 8796093022208 then (spec_l02Insert.l0 k1 l0 (y188 ++ [(⟨(rd_T55 l0 x7_1).f0, (rd_T55 l0 x7_1).f1⟩ : S55)]) true (wrap64 (x7_1 + 1)) a1_0 a1_1) else (none))) else (none)) = some r := by rw [if_pos rfl] at H; exact H
       clear H
       have H := H1
       clear H1
       by_cases c15 : x5_1.length < 8796093022208
       ·rw [if_pos c15] at H
        have LMc15 := Aside0.mk c15
        clear c15
        obtain ⟨y188, hY_⟩ : ∃ y_ : List (S55), y_ = (x5_1 ++ [(⟨a1_0, a1_1⟩ : S55)]) := ⟨_, rfl⟩
        replace H : (if y188.length < 8796093022208 then (spec_l02Insert.l0 k1 l0 (y188 ++ [(⟨(rd_T55 l0 x7_1).f0, (rd_T55 l0 x7_1).f1⟩ : S55)]) true (wrap64 (x7_1 + 1)) a1_0 a1_1) else (none)) = some r := yY_
        have Ny188 := Aside0.mk hY_
        clear hY_
        by_cases c16 : y188.length < 8796093022208
        ·rw [if_pos c16] at H
         have LMc16 := Aside0.mk c16
         clear c16
         obtain ⟨y192, hY_⟩ : ∃ y_ : List (S55), y_ = (y188 ++ [(⟨(rd_T55 l0 x7_1).f0, (rd_T55 l0 x7_1).f1⟩ : S55)]) := ⟨_, rfl⟩
         replace H : (spec_l02Insert.l0 k1 l0 y192 true (wrap64 (x7_1 + 1)) a1_0 a1_1) = some r := yY_
         have Ny192 := Aside0.mk hY_
         clear hY_
         have H' := Aside0.mk H
         clear H
         try go_wp2
         replace HO_5 := Aside0.mk (Kd.R_drew HO_5.out)
         replace BK178 := Aside0.mk (blk_drew BK178.out)
         replace HB := Aside0.mk (below_drew1 HB.out)
         have p186 : 0 ≤ (x7_1 : Int) := of_decide_eq_true aS_
         have q186 : x7_1 < (l0.length : Int) := of_decide_eq_true aS_
         obtain ⟨ad186, e186, hx186_0, hx186_1⟩ := at_T55 HR0.out x7_1 p186 q186
         have hw186_1 := hx186_1
         have hw186_0 := hx186_0
         cases e186
         replace hx186_0 := (HB.out.cell (World.block_lt_of_cell? w _ hx186_0)).trans hx186_0
         replace hx186_1 := (HB.out.cell (World.block_lt_of_cell? w _ hx186_1)).trans hx186_1
         replace p186 := eq_true p186
         replace q186 := eq_true q186
         refine start_ (n := 10) (S := fun w' => w'.cell? ⟨gb178, 0, none⟩ = some (.int .i64 a1_0) ∧ w'.cell? ⟨gb178, 1, none⟩ = some (.int .i64 a1_1) ∧ w'.cell? (ad186.add ((x7_1).toNat * 2)) = some (.int .i64 ((rd_T55 l0 x7_1).f0)) ∧ w'.cell? ⟨(ad186.add ((x7_1).toNat * 2)).block, (ad186.add ((x7_1).toNat * 2)).off + 1, none⟩ = some (.int .i64 ((rd_T55 l0 x7_1).f1))) (ds := []) #[F, F, F, F, F, F, F, F, F, F] (by kernel_rfl) rfl rfl ⟨(blk_cell BK178.out 0).trans rfl, (blk_cell BK178.out 1).trans rfl, ((HB.out.cell (World.block_lt_of_cell? w _ hw186_0)).trans hw186_0), ((HB.out.cell (World.block_lt_of_cell? w _ hw186_1)).trans hw186_1)⟩ (fun hHeld => ?_); refine with_tabW spec_l02Insert.tab6 spec_l02Insert.bits6 (fun HT_ HW_ => ?_)
         generalize wr.drew = w17 at HO_5 BK178 HB hx186_0 hx186_1 hHeld ⊢
         refine pu_ HT_ 0 (some 15) #[T,F,F,F,F,F,F,F,F,F] ?_
         refine pu_ HT_ 1 (some 16) #[T,T,F,F,F,F,F,F,F,F] ?_
         refine pu_ HT_ 2 (some 17) #[T,T,T,F,F,F,F,F,F,F] ?_
         refine pu_ HT_ 4 (some 19) #[T,T,T,F,T,F,F,F,F,F] ?_
         refine pu_ HT_ 5 (some 20) #[T,T,T,F,T,T,F,F,F,F] ?_
         refine pu_ HT_ 6 (some 21) #[T,T,T,F,T,T,T,F,F,F] ?_
         refine take_ (i := 3) (N := some 18) (v := ?_) (a' := ?_) #[T, T, T, T, T, T, T, F, F, F] rfl rfl (take_ofW HT_.out HW_.out (by kernel_rfl)) (fun _ _ _ h => h) (Or.inl ⟨by rfl, ?_⟩) hHeld ?_ ?_
         rotate_left
         ·rintro w' ⟨s0, s1, s2, s3⟩
          go_simp
          with_reducible rfl
         rotate_left
         ·simp only [Act.put, List.setIfInBounds_toArray, List.set_cons_zero, List.set_cons_succ, i64_w, i32_w]
          rfl
         refine take_ (i := 7) (N := some 22) (v := ?_) (a' := ?_) #[T, T, T, T, T, T, T, T, F, F] rfl rfl (take_ofW HT_.out HW_.out (by kernel_rfl)) (fun _ _ _ h => h) (Or.inl ⟨by rfl, ?_⟩) hHeld ?_ ?_
         rotate_left
         ·rintro w' ⟨s0, s1, s2, s3⟩
          go_simp
          with_reducible rfl
         rotate_left
         ·simp only [Act.put, List.setIfInBounds_toArray, List.set_cons_zero, List.set_cons_succ, i64_w, i32_w]
          rfl
         refine one_ (i := 8) (N := some 23) #[T, T, T, T, T, T, T, T, T, F] rfl rfl (one_of HT_.out (by kernel_rfl)) (by decide) (fun K hK => ?_)
         refine goes_ Try.func100 (by kernel_rfl) rfl #[.agg #[.int .i64 a1_0, .int .i64 a1_1], .agg #[.int .i64 ((rd_T55 l0 x7_1).f0), .int .i64 ((rd_T55 l0 x7_1).f1)]] (by rfl) rfl rfl mA_ ?_
         with_reducible refine (spec_l02Less.calls a1_0 a1_1 ((rd_T55 l0 x7_1).f0) ((rd_T55 l0 x7_1).f1) true _ A13.out).mono ?_
         rintro e w18 ⟨rfl, hb⟩
         refine ⟨_, rfl, ?_⟩
         replace HO_5 := Aside0.mk (Kd.R_below (rS_ HO_5.out) hb)
         replace BK178 := Aside0.mk (blk_below (g := gb178) (o := .cells #[.int .i64 a1_0, .int .i64 a1_1] 55 (0, 0)) (by (with_reducible repeat (first | refine blk_drewN ?_ _ | refine blk_drew ?_ | refine blk_alloc ?_ _)); exact BK178.out) hb)
         replace HB := Aside0.mk (below_step (by repeat (first | (with_reducible first | exact HB.out | apply below_alloc | apply pw_below_drewN | apply below_drew1 | refine below_set ?_ GE178.out) | exact HB.out)) hb)
         (try clear hb)
         refine hK.out _ _ ⟨(blk_cell BK178.out 0).trans rfl, (blk_cell BK178.out 1).trans rfl, ((HB.out.cell (World.block_lt_of_cell? w _ hw186_0)).trans hw186_0), ((HB.out.cell (World.block_lt_of_cell? w _ hw186_1)).trans hw186_1)⟩ (fun hHeld => ?_)
         clear hK K
         refine no_ (some 23) ?_
         refine pu_ HT_ 9 (some 24) #[T,T,T,T,T,T,T,T,T,T] ?_
         refine done_ (done_of HT_.out (by kernel_rfl)) ?_
         have hcz19_0 : w18.cell? ⟨gb178, 0, none⟩ = some (.int .i64 a1_0) := (blk_cell BK178.out 0).trans rfl
         have hcz19_1 : w18.cell? ⟨gb178, 1, none⟩ = some (.int .i64 a1_1) := (blk_cell BK178.out 1).trans rfl
         have hfz19_0 := blk_frozen BK178.out 0
         have hfz19_1 := blk_frozen BK178.out 1
         try go_wp2_with (first | ((with_reducible refine gate_builtin (b := .append) (xs := #[.tmp 25, .tmp 27]) rfl ?_); at_builtin; refine Kd.R_append k55 (w0 := w) w.heap.size rfl (.tmp 25) (.tmp 27) 27 55 (.agg #[(.int .i64 0), (.int .i64 0)]) 16 rfl Try.underlying27 info55 rfl (by decide) (by omega) u5 x5_1 (⟨a1_0, a1_1⟩ : S55) [.int .i64 a1_0, .int .i64 a1_1] (fun k_ => k_ ≠ gb178) (fun _ => False) rfl rfl ?aP (fun _ hk => hk.elim) ?aF ?aO ?aB ?aS ?aL ?_; (case aP => exact k55_mkM _ _ _ (⟨a1_0, a1_1⟩ : S55)); (case aB => exact (by repeat (first | (with_reducible first | exact HB.out | apply below_alloc | apply pw_below_drewN | apply below_drew1 | refine below_set ?_ GE178.out) | exact HB.out))); (case aF => exact (fun k_ hk => Kd.freshB (g := gb178) (o := .cells #[.int .i64 a1_0, .int .i64 a1_1] 55 (0, 0)) (by (with_reducible repeat (first | refine blk_drewN ?_ _ | refine blk_drew ?_ | refine blk_alloc ?_ _)); exact BK178.out) k_ hk)); (case aO => exact (rS_ HO_5.out)); (case aS => exact (below_size (by repeat (first | (with_reducible first | exact HB.out | apply below_alloc | apply pw_below_drewN | apply below_drew1 | refine below_set ?_ GE178.out) | exact HB.out)))); (case aL => have := LMc15.out; omega); intro v189 w20 ho hb hg hat; rw [← Ny188.out] at ho; replace BK178 := Aside0.mk (blk_grown (g := gb178) (o := .cells #[.int .i64 a1_0, .int .i64 a1_1] 55 (0, 0)) (by (with_reducible repeat (first | refine blk_drewN ?_ _ | refine blk_drew ?_ | refine blk_alloc ?_ _)); exact BK178.out) hg (Kd.R_away HO_5.out (fun _ hk => hk))); replace HB := Aside0.mk (hb); have HO190 := Aside0.mk (ho); clear HO_5; clear ho hb hg hat; have p191 : 0 ≤ (x7_1 : Int) := of_decide_eq_true aS_; have q191 : x7_1 < (l0.length : Int) := of_decide_eq_true aS_; obtain ⟨ad191, e191, hx191_0, hx191_1⟩ := at_T55 HR0.out x7_1 p191 q191; obtain rfl : ad186 = ad191 := (by injection e191); replace hx191_0 := (HB.out.cell (World.block_lt_of_cell? w _ hx191_0)).trans hx191_0; replace hx191_1 := (HB.out.cell (World.block_lt_of_cell? w _ hx191_1)).trans hx191_1; replace p191 := eq_true p191; replace q191 := eq_true q191) | ((with_reducible refine gate_builtin (b := .append) (xs := #[.tmp 29, .tmp 34]) rfl ?_); at_builtin; refine Kd.R_append k55 (w0 := w) w.heap.size rfl (.tmp 29) (.tmp 34) 27 55 (.agg #[(.int .i64 0), (.int .i64 0)]) 16 rfl Try.underlying27 info55 rfl (by decide) (by omega) v189 y188 (⟨(rd_T55 l0 x7_1).f0, (rd_T55 l0 x7_1).f1⟩ : S55) [.int .i64 ((rd_T55 l0 x7_1).f0), .int .i64 ((rd_T55 l0 x7_1).f1)] (fun k_ => k_ ≠ gb178) (fun _ => False) rfl rfl ?aP (fun _ hk => hk.elim) ?aF ?aO ?aB ?aS ?aL ?_; (case aP => exact k55_mkM _ _ _ (⟨(rd_T55 l0 x7_1).f0, (rd_T55 l0 x7_1).f1⟩ : S55)); (case aB => exact (by repeat (first | (with_reducible first | exact HB.out | apply below_alloc | apply pw_below_drewN | apply below_drew1 | refine below_set ?_ GE178.out) | exact HB.out))); (case aF => exact (fun k_ hk => Kd.freshB (g := gb178) (o := .cells #[.int .i64 a1_0, .int .i64 a1_1] 55 (0, 0)) (by (with_reducible repeat (first | refine blk_drewN ?_ _ | refine blk_drew ?_ | refine blk_alloc ?_ _)); exact BK178.out) k_ hk)); (case aO => exact (rS_ HO190.out)); (case aS => exact (below_size (by repeat (first | (with_reducible first | exact HB.out | apply below_alloc | apply pw_below_drewN | apply below_drew1 | refine below_set ?_ GE178.out) | exact HB.out)))); (case aL => have := LMc16.out; omega); intro v193 w21 ho hb hg hat; rw [← Ny192.out] at ho; replace BK178 := Aside0.mk (blk_grown (g := gb178) (o := .cells #[.int .i64 a1_0, .int .i64 a1_1] 55 (0, 0)) (by (with_reducible repeat (first | refine blk_drewN ?_ _ | refine blk_drew ?_ | refine blk_alloc ?_ _)); exact BK178.out) hg (Kd.R_away HO190.out (fun _ hk => hk))); replace HB := Aside0.mk (hb); have HO194 := Aside0.mk (ho); clear HO190; clear ho hb hg hat))
         go_roundg k1
         case measure => have := HK1.out; omega
         case rel => exact ⟨(y192), (true), (wrap64 (x7_1 + 1)), r3_, r3_, H', ⟨by have := HK1.out; omega⟩, ⟨rS_ HO194.out⟩, ⟨by (with_reducible repeat (first | refine blk_drewN ?_ _ | refine blk_drew ?_ | refine blk_alloc ?_ _)); exact BK178.out⟩, ⟨by repeat (first | (with_reducible first | exact HB.out | apply below_alloc | apply pw_below_drewN | apply below_drew1 | refine below_set ?_ GE178.out) | exact HB.out)⟩⟩
        ·rw [if_neg c16] at H
         exact absurd H (by simp)
       ·rw [if_neg c15] at H
        exact absurd H (by simp)
      ·replace c14 := Bool.eq_false_iff.mpr c14
       subst c14
       have H1 : (if x5_1.length < 8796093022208 then (spec_l02Insert.l0 k1 l0 (x5_1 ++ [(⟨(rd_T55 l0 x7_1).f0, (rd_T55 l0 x7_1).f1⟩ : S55)]) false (wrap64 (x7_1 + 1)) a1_0 a1_1) else (none)) = some r := by rw [if_neg (show ¬ (false = true) by decide)] at H; exact H
       clear H
       have H := H1
       clear H1
       by_cases c22 : x5_1.length < 8796093022208
       ·rw [if_pos c22] at H
        have LMc22 := Aside0.mk c22
        clear c22
        obtain ⟨y196, hY_⟩ : ∃ y_ : List (S55), y_ = (x5_1 ++ [(⟨(rd_T55 l0 x7_1).f0, (rd_T55 l0 x7_1).f1⟩ : S55)]) := ⟨_, rfl⟩
        replace H : (spec_l02Insert.l0 k1 l0 y196 false (wrap64 (x7_1 + 1)) a1_0 a1_1) = some r := yY_
        have Ny196 := Aside0.mk hY_
        clear hY_
        have H' := Aside0.mk H
        clear H
        try go_wp2
        replace HO_5 := Aside0.mk (Kd.R_drew HO_5.out)
        replace BK178 := Aside0.mk (blk_drew BK178.out)
        replace HB := Aside0.mk (below_drew1 HB.out)
        have p186 : 0 ≤ (x7_1 : Int) := of_decide_eq_true aS_
        have q186 : x7_1 < (l0.length : Int) := of_decide_eq_true aS_
        obtain ⟨ad186, e186, hx186_0, hx186_1⟩ := at_T55 HR0.out x7_1 p186 q186
        have hw186_1 := hx186_1
        have hw186_0 := hx186_0
        cases e186
        replace hx186_0 := (HB.out.cell (World.block_lt_of_cell? w _ hx186_0)).trans hx186_0
        replace hx186_1 := (HB.out.cell (World.block_lt_of_cell? w _ hx186_1)).trans hx186_1
        replace p186 := eq_true p186
        replace q186 := eq_true q186
        refine start_ (n := 10) (S := fun w' => w'.cell? ⟨gb178, 0, none⟩ = some (.int .i64 a1_0) ∧ w'.cell? ⟨gb178, 1, none⟩ = some (.int .i64 a1_1) ∧ w'.cell? (ad186.add ((x7_1).toNat * 2)) = some (.int .i64 ((rd_T55 l0 x7_1).f0)) ∧ w'.cell? ⟨(ad186.add ((x7_1).toNat * 2)).block, (ad186.add ((x7_1).toNat * 2)).off + 1, none⟩ = some (.int .i64 ((rd_T55 l0 x7_1).f1))) (ds := []) #[F, F, F, F, F, F, F, F, F, F] (by kernel_rfl) rfl rfl ⟨(blk_cell BK178.out 0).trans rfl, (blk_cell BK178.out 1).trans rfl, ((HB.out.cell (World.block_lt_of_cell? w _ hw186_0)).trans hw186_0), ((HB.out.cell (World.block_lt_of_cell? w _ hw186_1)).trans hw186_1)⟩ (fun hHeld => ?_); refine with_tabW spec_l02Insert.tab6 spec_l02Insert.bits6 (fun HT_ HW_ => ?_)
        generalize wr.drew = w23 at HO_5 BK178 HB hx186_0 hx186_1 hHeld ⊢
        refine pu_ HT_ 0 (some 15) #[T,F,F,F,F,F,F,F,F,F] ?_
        refine pu_ HT_ 1 (some 16) #[T,T,F,F,F,F,F,F,F,F] ?_
        refine pu_ HT_ 2 (some 17) #[T,T,T,F,F,F,F,F,F,F] ?_
        refine pu_ HT_ 4 (some 19) #[T,T,T,F,T,F,F,F,F,F] ?_
        refine pu_ HT_ 5 (some 20) #[T,T,T,F,T,T,F,F,F,F] ?_
        refine pu_ HT_ 6 (some 21) #[T,T,T,F,T,T,T,F,F,F] ?_
        refine take_ (i := 3) (N := some 18) (v := ?_) (a' := ?_) #[T, T, T, T, T, T, T, F, F, F] rfl rfl (take_ofW HT_.out HW_.out (by kernel_rfl)) (fun _ _ _ h => h) (Or.inl ⟨by rfl, ?_⟩) hHeld ?_ ?_
        rotate_left
        ·rintro w' ⟨s0, s1, s2, s3⟩
         go_simp
         with_reducible rfl
        rotate_left
        ·simp only [Act.put, List.setIfInBounds_toArray, List.set_cons_zero, List.set_cons_succ, i64_w, i32_w]
         rfl
        refine take_ (i := 7) (N := some 22) (v := ?_) (a' := ?_) #[T, T, T, T, T, T, T, T, F, F] rfl rfl (take_ofW HT_.out HW_.out (by kernel_rfl)) (fun _ _ _ h => h) (Or.inl ⟨by rfl, ?_⟩) hHeld ?_ ?_
        rotate_left
        ·rintro w' ⟨s0, s1, s2, s3⟩
         go_simp
         with_reducible rfl
        rotate_left
        ·simp only [Act.put, List.setIfInBounds_toArray, List.set_cons_zero, List.set_cons_succ, i64_w, i32_w]
         rfl
        refine one_ (i := 8) (N := some 23) #[T, T, T, T, T, T, T, T, T, F] rfl rfl (one_of HT_.out (by kernel_rfl)) (by decide) (fun K hK => ?_)
        refine goes_ Try.func100 (by kernel_rfl) rfl #[.agg #[.int .i64 a1_0, .int .i64 a1_1], .agg #[.int .i64 ((rd_T55 l0 x7_1).f0), .int .i64 ((rd_T55 l0 x7_1).f1)]] (by rfl) rfl rfl mA_ ?_
        with_reducible refine (spec_l02Less.calls a1_0 a1_1 ((rd_T55 l0 x7_1).f0) ((rd_T55 l0 x7_1).f1) false _ A13.out).mono ?_
        rintro e w24 ⟨rfl, hb⟩
        refine ⟨_, rfl, ?_⟩
        replace HO_5 := Aside0.mk (Kd.R_below (rS_ HO_5.out) hb)
        replace BK178 := Aside0.mk (blk_below (g := gb178) (o := .cells #[.int .i64 a1_0, .int .i64 a1_1] 55 (0, 0)) (by (with_reducible repeat (first | refine blk_drewN ?_ _ | refine blk_drew ?_ | refine blk_alloc ?_ _)); exact BK178.out) hb)
        replace HB := Aside0.mk (below_step (by repeat (first | (with_reducible first | exact HB.out | apply below_alloc | apply pw_below_drewN | apply below_drew1 | refine below_set ?_ GE178.out) | exact HB.out)) hb)
        (try clear hb)
        refine hK.out _ _ ⟨(blk_cell BK178.out 0).trans rfl, (blk_cell BK178.out 1).trans rfl, ((HB.out.cell (World.block_lt_of_cell? w _ hw186_0)).trans hw186_0), ((HB.out.cell (World.block_lt_of_cell? w _ hw186_1)).trans hw186_1)⟩ (fun hHeld => ?_)
        clear hK K
        refine no_ (some 23) ?_
        refine pu_ HT_ 9 (some 24) #[T,T,T,T,T,T,T,T,T,T] ?_
        refine done_ (done_of HT_.out (by kernel_rfl)) ?_
        have p195 : 0 ≤ (x7_1 : Int) := of_decide_eq_true aS_
        have q195 : x7_1 < (l0.length : Int) := of_decide_eq_true aS_
        obtain ⟨ad195, e195, hx195_0, hx195_1⟩ := at_T55 HR0.out x7_1 p195 q195
        obtain rfl : ad186 = ad195 := (by injection e195)
        replace hx195_0 := (HB.out.cell (World.block_lt_of_cell? w _ hx195_0)).trans hx195_0
        replace hx195_1 := (HB.out.cell (World.block_lt_of_cell? w _ hx195_1)).trans hx195_1
        replace p195 := eq_true p195
        replace q195 := eq_true q195
        try go_wp2_with (first | ((with_reducible refine gate_builtin (b := .append) (xs := #[.tmp 29, .tmp 34]) rfl ?_); at_builtin; refine Kd.R_append k55 (w0 := w) w.heap.size rfl (.tmp 29) (.tmp 34) 27 55 (.agg #[(.int .i64 0), (.int .i64 0)]) 16 rfl Try.underlying27 info55 rfl (by decide) (by omega) u5 x5_1 (⟨(rd_T55 l0 x7_1).f0, (rd_T55 l0 x7_1).f1⟩ : S55) [.int .i64 ((rd_T55 l0 x7_1).f0), .int .i64 ((rd_T55 l0 x7_1).f1)] (fun k_ => k_ ≠ gb178) (fun _ => False) rfl rfl ?aP (fun _ hk => hk.elim) ?aF ?aO ?aB ?aS ?aL ?_; (case aP => exact k55_mkM _ _ _ (⟨(rd_T55 l0 x7_1).f0, (rd_T55 l0 x7_1).f1⟩ : S55)); (case aB => exact (by repeat (first | (with_reducible first | exact HB.out | apply below_alloc | apply pw_below_drewN | apply below_drew1 | refine below_set ?_ GE178.out) | exact HB.out))); (case aF => exact (fun k_ hk => Kd.freshB (g := gb178) (o := .cells #[.int .i64 a1_0, .int .i64 a1_1] 55 (0, 0)) (by (with_reducible repeat (first | refine blk_drewN ?_ _ | refine blk_drew ?_ | refine blk_alloc ?_ _)); exact BK178.out) k_ hk)); (case aO => exact (rS_ HO_5.out)); (case aS => exact (below_size (by repeat (first | (with_reducible first | exact HB.out | apply below_alloc | apply pw_below_drewN | apply below_drew1 | refine below_set ?_ GE178.out) | exact HB.out)))); (case aL => have := LMc22.out; omega); intro v197 w25 ho hb hg hat; rw [← Ny196.out] at ho; replace BK178 := Aside0.mk (blk_grown (g := gb178) (o := .cells #[.int .i64 a1_0, .int .i64 a1_1] 55 (0, 0)) (by (with_reducible repeat (first | refine blk_drewN ?_ _ | refine blk_drew ?_ | refine blk_alloc ?_ _)); exact BK178.out) hg (Kd.R_away HO_5.out (fun _ hk => hk))); replace HB := Aside0.mk (hb); have HO198 := Aside0.mk (ho); clear HO_5; clear ho hb hg hat))
        go_roundg k1
        case measure => have := HK1.out; omega
        case rel => exact ⟨(y196), (false), (wrap64 (x7_1 + 1)), r3_, r3_, H', ⟨by have := HK1.out; omega⟩, ⟨rS_ HO198.out⟩, ⟨by (with_reducible repeat (first | refine blk_drewN ?_ _ | refine blk_drew ?_ | refine blk_alloc ?_ _)); exact BK178.out⟩, ⟨by repeat (first | (with_reducible first | exact HB.out | apply below_alloc | apply pw_below_drewN | apply below_drew1 | refine below_set ?_ GE178.out) | exact HB.out)⟩⟩
       ·rw [if_neg c22] at H
        exact absurd H (by simp)
     ·rw [if_neg c12] at H
      exact absurd H (by simp)
   ·rw [if_neg c6] at H
    have c6b0 : decide (x7_1 < (l0.length : Int)) = false := decide_eq_false c6
    clear c6
    by_cases c26 : x6_1 = true
    ·subst c26
     have H1 : (some x5_1) = some r := by rw [if_pos rfl] at H; exact H
     clear H
     have H := H1
     clear H1
     obtain rfl := Option.some.inj H
     go_wp2
     go_ret
     exact ⟨_, r2_, rS_ (Kd.R_mono HO_5.out (fun _ hk => trivial)), by repeat (first | (with_reducible first | exact HB.out | apply below_alloc | apply pw_below_drewN | apply below_drew1 | refine below_set ?_ GE178.out) | exact HB.out)⟩
    ·replace c26 := Bool.eq_false_iff.mpr c26
     subst c26
     have H1 : (if x5_1.length < 8796093022208 then (some (x5_1 ++ [(⟨a1_0, a1_1⟩ : S55)])) else (none)) = some r := by rw [if_neg (show ¬ (false = true) by decide)] at H; exact H
     clear H
     have H := H1
     clear H1
     by_cases c27 : x5_1.length < 8796093022208
     ·rw [if_pos c27] at H
      have LMc27 := Aside0.mk c27
      clear c27
      obtain ⟨y199, hY_⟩ : ∃ y_ : List (S55), y_ = (x5_1 ++ [(⟨a1_0, a1_1⟩ : S55)]) := ⟨_, rfl⟩
      replace H : (some y199) = some r := yY_
      have Ny199 := Aside0.mk hY_
      clear hY_
      obtain rfl := Option.some.inj H
      have hcz28_0 : wr.cell? ⟨gb178, 0, none⟩ = some (.int .i64 a1_0) := (blk_cell BK178.out 0).trans rfl
      have hcz28_1 : wr.cell? ⟨gb178, 1, none⟩ = some (.int .i64 a1_1) := (blk_cell BK178.out 1).trans rfl
      have hfz28_0 := blk_frozen BK178.out 0
      have hfz28_1 := blk_frozen BK178.out 1
      go_wp2_with (first | ((with_reducible refine gate_builtin (b := .append) (xs := #[.tmp 38, .tmp 40]) rfl ?_); at_builtin; refine Kd.R_append k55 (w0 := w) w.heap.size rfl (.tmp 38) (.tmp 40) 27 55 (.agg #[(.int .i64 0), (.int .i64 0)]) 16 rfl Try.underlying27 info55 rfl (by decide) (by omega) u5 x5_1 (⟨a1_0, a1_1⟩ : S55) [.int .i64 a1_0, .int .i64 a1_1] (fun k_ => k_ ≠ gb178) (fun _ => False) rfl rfl ?aP (fun _ hk => hk.elim) ?aF ?aO ?aB ?aS ?aL ?_; (case aP => exact k55_mkM _ _ _ (⟨a1_0, a1_1⟩ : S55)); (case aB => exact (by repeat (first | (with_reducible first | exact HB.out | apply below_alloc | apply pw_below_drewN | apply below_drew1 | refine below_set ?_ GE178.out) | exact HB.out))); (case aF => exact (fun k_ hk => Kd.freshB (g := gb178) (o := .cells #[.int .i64 a1_0, .int .i64 a1_1] 55 (0, 0)) (by (with_reducible repeat (first | refine blk_drewN ?_ _ | refine blk_drew ?_ | refine blk_alloc ?_ _)); exact BK178.out) k_ hk)); (case aO => exact (rS_ HO_5.out)); (case aS => exact (below_size (by repeat (first | (with_reducible first | exact HB.out | apply below_alloc | apply pw_below_drewN | apply below_drew1 | refine below_set ?_ GE178.out) | exact HB.out)))); (case aL => have := LMc27.out; omega); intro v200 w29 ho hb hg hat; rw [← Ny199.out] at ho; replace BK178 := Aside0.mk (blk_grown (g := gb178) (o := .cells #[.int .i64 a1_0, .int .i64 a1_1] 55 (0, 0)) (by (with_reducible repeat (first | refine blk_drewN ?_ _ | refine blk_drew ?_ | refine blk_alloc ?_ _)); exact BK178.out) hg (Kd.R_away HO_5.out (fun _ hk => hk))); replace HB := Aside0.mk (hb); have HO201 := Aside0.mk (ho); clear HO_5; clear ho hb hg hat))
      go_ret
      exact ⟨_, r2_, rS_ (Kd.R_mono HO201.out (fun _ hk => trivial)), by repeat (first | (with_reducible first | exact HB.out | apply below_alloc | apply pw_below_drewN | apply below_drew1 | refine below_set ?_ GE178.out) | exact HB.out)⟩
     ·rw [if_neg c27] at H
      exact absurd H (by simp)

end Go.Proofs.Ytbkafaoehheioaa.X
