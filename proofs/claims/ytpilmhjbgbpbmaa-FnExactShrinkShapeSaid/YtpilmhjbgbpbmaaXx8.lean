-- xprint.py
import Derived.Test.YtpilmhjbgbpbmaaXx0
import Derived.Test.YtpilmhjbgbpbmaaXx2
import Derived.Test.YtpilmhjbgbpbmaaXx4
namespace Go.Proofs.Ytpilmhjbgbpbmaa.X
open Go.RowKit Go.Proofs.YtpilmhjbgbpbmaaW.PrintWords Go.Proofs.YtpilmhjbgbpbmaaW.PrintLast Go.Proofs.YtpilmhjbgbpbmaaW.PrintMore
attribute [local go_sem] max2_int min2_int max_two min_two max_three min_three max_four min_four   -- for this text's walks alone
set_option linter.unusedVariables false
set_option linter.unusedSimpArgs false

/-! ### CommonShapes: function -1, by hand -/
/-- how two rows of cells of one length stand to each other: -1, 0, 1 -/
def cfL_ : List S42 → List S42 → Int
 | a :: r, b :: s => if cfC_ a b = 0 then cfL_ r s else cfC_ a b
 | _, _ => 0
def cfS_ (l m : List S42) : Int := if l.length = m.length then cfL_ l m else if l.length < m.length then -1 else 1
theorem cfC_cases (a b : S42) : (ltbC_ a b = true ∧ cfC_ a b = -1) ∨ (ltbC_ a b = false ∧ ltbC_ b a = true ∧ cfC_ a b = 1) ∨ (a = b ∧ cfC_ a b = 0) := by
 by_cases h : ltbC_ a b = true
 ·exact Or.inl ⟨h, by unfold cfC_; rw [if_pos h]⟩
 ·have h' : ltbC_ a b = false := Bool.eq_false_iff.mpr h
  by_cases g : ltbC_ b a = true
  ·exact Or.inr (Or.inl ⟨h', g, by unfold cfC_; rw [if_neg h, if_pos g]⟩)
  ·refine Or.inr (Or.inr ⟨?_, by unfold cfC_; rw [if_neg h, if_neg g]⟩)
   unfold ltbC_ at h g
   simp only [decide_eq_true_eq] at h g
   have e0 : a.f0 = b.f0 := by omega
   have e1 : a.f1 = b.f1 := by omega
   cases a; cases b; cases e0; cases e1; rfl
theorem ltbC_trans {a b c : S42} (h : ltbC_ a b = true) (g : ltbC_ b c = true) : ltbC_ a c = true := by unfold ltbC_ at *; simp at *; omega
theorem ltbC_irrefl (a : S42) : ltbC_ a a = false := by unfold ltbC_; simp
theorem cfC_self (a : S42) : cfC_ a a = 0 := by unfold cfC_; simp [ltbC_irrefl]
theorem cfL_self (a : List S42) : cfL_ a a = 0 := by
 induction a with
 | nil => rfl
 | cons x r ih => simp only [cfL_, cfC_self, if_true]; exact ih
theorem cfL_eq (a : List S42) : ∀ b, a.length = b.length → cfL_ a b = 0 → a = b := by
 induction a with
 | nil => intro b h _; exact (List.length_eq_zero_iff.1 (by simpa using h.symm)).symm
 | cons x r ih =>
  intro b h g
  cases b with
  | nil => simp at h
  | cons y s =>
   simp only [cfL_] at g
   rcases cfC_cases x y with ⟨_, c⟩ | ⟨_, _, c⟩ | ⟨e, c⟩
   ·rw [c] at g; simp at g
   ·rw [c] at g; simp at g
   ·rw [if_pos c] at g; rw [e, ih s (by simpa using h) g]
theorem cfL_neg (a : List S42) : ∀ b, cfL_ b a = -cfL_ a b := by
 induction a with
 | nil => intro b; cases b <;> rfl
 | cons x r ih =>
  intro b
  cases b with
  | nil => rfl
  | cons y s =>
   simp only [cfL_]
   rcases cfC_cases x y with ⟨p, c⟩ | ⟨p, q, c⟩ | ⟨e, c⟩
   ·have d : cfC_ y x = 1 := by
     rcases cfC_cases y x with ⟨p2, _⟩ | ⟨_, _, d⟩ | ⟨e, _⟩
     ·have := ltbC_trans p p2; rw [ltbC_irrefl] at this; cases this
     ·exact d
     ·rw [e, ltbC_irrefl] at p; cases p
    rw [c, d]; rfl
   ·have d : cfC_ y x = -1 := by
     rcases cfC_cases y x with ⟨_, d⟩ | ⟨p2, _, _⟩ | ⟨e, _⟩
     ·exact d
     ·rw [q] at p2; cases p2
     ·rw [e, ltbC_irrefl] at q; cases q
    rw [c, d]; rfl
   ·subst e; rw [c, if_pos rfl, if_pos rfl]; exact ih s
theorem cfL_trans (a : List S42) : ∀ b c, a.length = b.length → b.length = c.length → cfL_ a b < 0 → cfL_ b c < 0 → cfL_ a c < 0 := by
 induction a with
 | nil => intro b c _ _ h; simp [cfL_] at h
 | cons x r ih =>
  intro b c h1 h2 g1 g2
  cases b with
  | nil => simp at h1
  | cons y s =>
   cases c with
   | nil => simp at h2
   | cons z t =>
    simp only [cfL_] at g1 g2 ⊢
    rcases cfC_cases x y with ⟨p, c⟩ | ⟨p, q, c⟩ | ⟨e, c⟩
    ·rcases cfC_cases y z with ⟨p2, c2⟩ | ⟨p2, q2, c2⟩ | ⟨e2, c2⟩
     ·rcases cfC_cases x z with ⟨_, c3⟩ | ⟨p3, _, _⟩ | ⟨e3, _⟩
      ·rw [c3]; simp
      ·rw [ltbC_trans p p2] at p3; cases p3
      ·rw [e3] at p; have := ltbC_trans p p2; rw [ltbC_irrefl] at this; cases this
     ·rw [c2] at g2; simp at g2
     ·subst e2; rw [c]; simp
    ·rw [c] at g1; simp at g1
    ·subst e
     rw [if_pos c] at g1
     rcases cfC_cases x z with ⟨p2, c2⟩ | ⟨p2, q2, c2⟩ | ⟨e2, c2⟩
     ·rw [c2]; simp
     ·rw [c2] at g2; simp at g2
     ·rw [if_pos c2] at g2 ⊢; exact ih s t (by simpa using h1) (by simpa using h2) g1 g2
theorem cfL_range (a : List S42) : ∀ b, cfL_ a b = -1 ∨ cfL_ a b = 0 ∨ cfL_ a b = 1 := by
 induction a with
 | nil => intro b; exact Or.inr (Or.inl rfl)
 | cons x r ih =>
  intro b
  cases b with
  | nil => exact Or.inr (Or.inl rfl)
  | cons y s =>
   simp only [cfL_]
   rcases cfC_cases x y with ⟨_, c⟩ | ⟨_, _, c⟩ | ⟨_, c⟩
   ·rw [c]; exact Or.inl rfl
   ·rw [c]; exact Or.inr (Or.inr rfl)
   ·rw [if_pos c]; exact ih s
theorem cfS_eq {a b : List S42} (h : cfS_ a b = 0) : a = b := by
 unfold cfS_ at h
 by_cases c : a.length = b.length
 ·rw [if_pos c] at h; exact cfL_eq a b c h
 ·rw [if_neg c] at h; split at h <;> simp at h
theorem cfS_self (a : List S42) : cfS_ a a = 0 := by unfold cfS_; rw [if_pos rfl]; exact cfL_self a
theorem cfS_neg (a b : List S42) : cfS_ b a = -cfS_ a b := by
 unfold cfS_
 by_cases h : a.length = b.length
 ·rw [if_pos h, if_pos h.symm]; exact cfL_neg a b
 ·rw [if_neg h, if_neg (fun g => h g.symm)]
  by_cases g : a.length < b.length
  ·rw [if_pos g, if_neg (by omega)]; rfl
  ·rw [if_neg g, if_pos (by omega)]
theorem cfS_trans {a b c : List S42} (h : cfS_ a b < 0) (g : cfS_ b c < 0) : cfS_ a c < 0 := by
 unfold cfS_ at *
 by_cases h1 : a.length = b.length
 ·by_cases h2 : b.length = c.length
  ·rw [if_pos h1] at h; rw [if_pos h2] at g; rw [if_pos (h1.trans h2)]
   exact cfL_trans a b c h1 h2 h g
  ·rw [if_neg h2] at g
   rw [if_neg (by omega)]
   by_cases g2 : b.length < c.length
   ·rw [if_pos (by omega)]; decide
   ·rw [if_neg g2] at g; simp at g
 ·rw [if_neg h1] at h
  by_cases g1 : a.length < b.length
  ·by_cases h2 : b.length = c.length
   ·rw [if_neg (by omega), if_pos (by omega)]; decide
   ·rw [if_neg h2] at g
    by_cases g2 : b.length < c.length
    ·rw [if_neg (by omega), if_pos (by omega)]; decide
    ·rw [if_neg g2] at g; simp at g
  ·rw [if_neg g1] at h; simp at h
theorem cfS_ntrans {a b c : List S42} (h : ¬ cfS_ a b < 0) (g : ¬ cfS_ b c < 0) : ¬ cfS_ a c < 0 := by
 intro k
 by_cases e : cfS_ a b = 0
 ·rw [cfS_eq e] at k; exact g k
 ·have h2 : cfS_ b a < 0 := by rw [cfS_neg a b]; omega
  exact g (cfS_trans h2 k)
set_option maxHeartbeats 4000000 in
set_option maxRecDepth 100000 in
theorem compareFunc_grow (A : Option Addr) (c : Nat) (xs : List S42) (B : Option Addr) (c' : Nat) (ys : List S42) (hl : xs.length = ys.length) (w : World) (hA : Kd.C k42 w A xs.length xs) (hB : Kd.C k42 w B ys.length ys) :
  Calls Try.prog 123 #[.slice A xs.length c, .slice B ys.length c', .func (.func 102) #[] #[]] w fun e w' => e = .returned (.int .i64 (cfL_ xs ys)) ∧ ∃ q os, w' = Go.Sort.grow (w.drewN q) os := by
 have hu2 := Try.underlying42
 have HA := Aside0.mk hA
 have HBB := Aside0.mk hB
 have hl1 : xs.length ≤ 9223372036854775807 := hA.2.1
 have HL := Aside0.mk hl
 obtain ⟨R, hR⟩ : ∃ R, R = cfL_ xs ys := ⟨_, rfl⟩
 rw [← hR]
 have HR := Aside0.mk hR
 clear hA hB hl hR
 go_enter Try.func123, Try.ntmps123
 go_wp2_with fail
 go_loopg [13] xs.length (fun gk v13 wr => ∃ (j : Nat) (q : Nat) (os : Array Obj), v13 = .int .i64 j ∧ Aside0 (gk + j = xs.length) ∧ Aside0 (R = cfL_ (xs.drop j) (ys.drop j)) ∧ Aside0 (wr = Go.Sort.grow (w.drewN q) os))
 case atStart => exact ⟨0, 0, #[], rfl, ⟨rfl⟩, ⟨HR.out⟩, ⟨by rw [Go.Sort.grow_empty]; rfl⟩⟩
 case round =>
  obtain ⟨j, q, os, rfl, HK, HE, HW⟩ := hrel
  have hcell : ∀ a u, w.cell? a = some u → wr.cell? a = some u := fun a u hu => by
   rw [HW.out]
   exact (Go.Sort.cell?_grow _ _ _ (World.block_lt_of_cell? w _ hu)).trans hu
  have HCE := Aside0.mk hcell
  clear hcell
  cases gk with
  | zero =>
   have hj : j = xs.length := by have := HK.out; omega
   have d1 : decide ((j : Int) < (xs.length : Int)) = false := decide_eq_false (by omega)
   have d2 : decide (j < xs.length) = false := decide_eq_false (by omega)
   have hl := HL.out
   have d3 : decide ((xs.length : Int) < (ys.length : Int)) = false := decide_eq_false (by omega)
   have d4 : decide (xs.length < ys.length) = false := decide_eq_false (by omega)
   have he := HE.out
   rw [hj, List.drop_length] at he
   have he2 : R = 0 := he
   have HE2 := Aside0.mk he2
   clear hj hl he he2 HE
   go_wp2_with fail
   go_ret
   exact ⟨by rw [HE2.out]; rfl, q, os, HW.out⟩
  | succ gk2 =>
   have hj : j < xs.length := by have := HK.out; omega
   have hj' : j < ys.length := by have := HL.out; omega
   have p1 : 0 ≤ (j : Int) := by omega
   have q1 : (j : Int) < (xs.length : Int) := by omega
   have q2 : (j : Int) < (ys.length : Int) := by omega
   obtain ⟨ad, e1, hx0, hx1⟩ := at_T42 HA.out j p1 q1
   obtain ⟨ad', e2, hy0, hy1⟩ := at_T42 HBB.out j p1 q2
   subst e1 e2
   rw [Int.toNat_natCast] at hx0 hx1 hy0 hy1
   replace hx0 := HCE.out _ _ hx0
   replace hx1 := HCE.out _ _ hx1
   replace hy0 := HCE.out _ _ hy0
   replace hy1 := HCE.out _ _ hy1
   have d1 : decide ((j : Int) < (xs.length : Int)) = true := decide_eq_true q1
   have d2 : decide (j < xs.length) = true := decide_eq_true hj
   have d3 : decide ((ys.length : Int) ≤ (j : Int)) = false := decide_eq_false (by omega)
   have d4 : decide (ys.length ≤ j) = false := decide_eq_false (by omega)
   have d5 : decide ((j : Int) < (ys.length : Int)) = true := decide_eq_true q2
   have d6 : decide (j < ys.length) = true := decide_eq_true hj'
   have he := HE.out
   have hdx : xs.drop j = rd_T42 xs j :: xs.drop (j + 1) := by
    rw [List.drop_eq_getElem_cons hj]; congr 1
    unfold rd_T42; rw [List.getD_eq_getElem?_getD, Int.toNat_natCast, List.getElem?_eq_getElem hj]; rfl
   have hdy : ys.drop j = rd_T42 ys j :: ys.drop (j + 1) := by
    rw [List.drop_eq_getElem_cons hj']; congr 1
    unfold rd_T42; rw [List.getD_eq_getElem?_getD, Int.toNat_natCast, List.getElem?_eq_getElem hj']; rfl
   rw [hdx, hdy] at he
   clear hdx hdy HE
   generalize rd_T42 xs (j : Int) = x at *
   generalize rd_T42 ys (j : Int) = y at *
   replace hy0 := Lib.cell?_alloc_some (.cells #[.int .i64 x.f0, .int .i64 x.f1] 42 (0, 0)) hy0
   replace hy1 := Lib.cell?_alloc_some (.cells #[.int .i64 x.f0, .int .i64 x.f1] 42 (0, 0)) hy1
   have he2 : R = if cfC_ x y = 0 then cfL_ (xs.drop (j + 1)) (ys.drop (j + 1)) else cfC_ x y := he
   have HE := Aside0.mk he2
   clear he he2 hj hj'
   go_wp2_with fail
   refine (compareCells_grow x y _).mono ?_
   rintro e w2 ⟨rfl, qq, oo, hw2⟩
   have HW2 : Aside0 (∃ q os, w2 = Go.Sort.grow (w.drewN q) os) := ⟨by
    rw [hw2, HW.out, Go.Sort.alloc_eq_grow, Go.Sort.alloc_eq_grow, Go.Sort.grow_grow, Go.Sort.grow_grow]
    refine ⟨q + qq, (os ++ (#[.cells #[.int .i64 x.f0, .int .i64 x.f1] 42 (0, 0)] ++ #[.cells #[.int .i64 y.f0, .int .i64 y.f1] 42 (0, 0)])) ++ oo, ?_⟩
    simp only [World.drewN, Go.Sort.grow, Nat.add_assoc, Array.append_assoc]⟩
   by_cases hz : cfC_ x y = 0
   ·have he := HE.out
    rw [if_pos hz] at he
    have HE2 := Aside0.mk he
    have z1 : (cfC_ x y == 0) = true := by rw [hz]; rfl
    have z2 : (cfC_ x y != 0) = false := by rw [hz]; rfl
    clear he HE hw2 hx0 hx1 hy0 hy1
    generalize cfC_ x y = cz at *
    subst hz
    go_wp2_with fail
    go_roundg gk2
    case measure => omega
    case rel => 
     obtain ⟨q3, os3, h3⟩ := HW2.out
     exact ⟨j + 1, q3, os3, by go_num, ⟨by have := HK.out; omega⟩, HE2, ⟨h3⟩⟩
   ·have he := HE.out
    rw [if_neg hz] at he
    have HE2 := Aside0.mk he
    have z1 : (cfC_ x y == 0) = false := beq_eq_false_iff_ne.mpr hz
    clear he HE hw2 hx0 hx1 hy0 hy1
    generalize cfC_ x y = cz at *
    go_wp2_with fail
    go_ret
    exact ⟨by rw [HE2.out]; rfl, HW2.out⟩
set_option maxHeartbeats 4000000 in
set_option maxRecDepth 100000 in
theorem compareShapes_grow (A : Option Addr) (c : Nat) (xs : List S42) (B : Option Addr) (c' : Nat) (ys : List S42) (w : World) (hA : Kd.C k42 w A xs.length xs) (hB : Kd.C k42 w B ys.length ys) :
  Calls Try.prog 97 #[.slice A xs.length c, .slice B ys.length c'] w fun e w' => e = .returned (.int .i64 (cfS_ xs ys)) ∧ ∃ q os, w' = Go.Sort.grow (w.drewN q) os := by
 have HA := Aside0.mk hA
 have HBB := Aside0.mk hB
 have hl1 : xs.length ≤ 9223372036854775807 := hA.2.1
 have hl2 : ys.length ≤ 9223372036854775807 := hB.2.1
 have h0 : ∃ q os, w = Go.Sort.grow (w.drewN q) os := ⟨0, #[], by rw [Go.Sort.grow_empty]; rfl⟩
 have H0 := Aside0.mk h0
 clear hA hB h0
 unfold cfS_
 by_cases hl : xs.length = ys.length
 ·rw [if_pos hl]
  have HL := Aside0.mk hl
  generalize hR : cfL_ xs ys = R
  have HR := Aside0.mk hR
  have z1 : ((xs.length : Int) == (ys.length : Int)) = true := by rw [hl]; exact beq_self_eq_true _
  have z2 : ((xs.length : Int) != (ys.length : Int)) = false := by rw [hl]; exact bne_self_eq_false _
  have z3 : (xs.length == ys.length) = true := by rw [hl]; exact beq_self_eq_true _
  have z4 : (xs.length != ys.length) = false := by rw [hl]; exact bne_self_eq_false _
  clear hl hR
  go_enter Try.func97, Try.ntmps97
  go_wp2_with fail
  refine (compareFunc_grow A c xs B c' ys HL.out _ HA.out HBB.out).mono ?_
  rintro e w1 ⟨rfl, hg⟩
  rw [HR.out]
  have HG := Aside0.mk hg
  clear hg
  go_wp2_with fail
  go_ret
  exact ⟨rfl, HG.out⟩
 ·rw [if_neg hl]
  have z1 : ((xs.length : Int) == (ys.length : Int)) = false := beq_eq_false_iff_ne.mpr (by omega)
  have z2 : ((xs.length : Int) != (ys.length : Int)) = true := by simp [bne, z1]
  have z3 : (xs.length == ys.length) = false := beq_eq_false_iff_ne.mpr hl
  have z4 : (xs.length != ys.length) = true := by simp [bne, z3]
  by_cases hlt : xs.length < ys.length
  ·rw [if_pos hlt]
   have z5 : decide ((xs.length : Int) < (ys.length : Int)) = true := decide_eq_true (by omega)
   have z6 : decide (xs.length < ys.length) = true := decide_eq_true hlt
   clear hl hlt
   go_enter Try.func97, Try.ntmps97
   go_wp2_with fail
   go_ret
   exact ⟨rfl, H0.out⟩
  ·rw [if_neg hlt]
   have z5 : decide ((xs.length : Int) < (ys.length : Int)) = false := decide_eq_false (by omega)
   have z6 : decide (xs.length < ys.length) = false := decide_eq_false hlt
   clear hl hlt
   go_enter Try.func97, Try.ntmps97
   go_wp2_with fail
   go_ret
   exact ⟨rfl, H0.out⟩
/-- the rows of a row of rows: each is the call's own, none is another's -/
structure PR_ (w : World) (base : Nat) (g : Option Nat) (es : List (Value × List S42)) : Prop where
 own : ∀ e ∈ es, Kd.R k42 42 w base (fun k => some k ≠ g) e.1 e.2
 apart : es.Pairwise fun a b => ∀ k, a.1.ownBlock = some k → b.1.ownBlock ≠ some k
theorem PR_.perm {w : World} {base : Nat} {g : Option Nat} {es es' : List (Value × List S42)} (h : PR_ w base g es) (hp : es'.Perm es) : PR_ w base g es' :=
 ⟨fun e he => h.own e (hp.mem_iff.1 he), (hp.symm.pairwise_iff (fun {a b} (hab : ∀ k, a.1.ownBlock = some k → b.1.ownBlock ≠ some k) => fun k h1 h2 => hab k h2 h1)).1 h.apart⟩
theorem PR_.sub {w : World} {base : Nat} {g : Option Nat} {es es' : List (Value × List S42)} (h : PR_ w base g es) (hp : es'.Sublist es) : PR_ w base g es' :=
 ⟨fun e he => h.own e (hp.subset he), h.apart.sublist hp⟩
theorem PR_.move {w w' : World} {base : Nat} {g : Nat} {es : List (Value × List S42)} (h : PR_ w base (some g) es) (hm : ∀ k, k ≠ g → k < w.heap.size → w'.heap[k]? = w.heap[k]?) : PR_ w' base (some g) es :=
 ⟨fun e he => Kd.R_step (h.own e he) (fun k hk hlt => hm k (fun e => hk (by rw [e])) hlt), h.apart⟩
theorem PR_.lower {w : World} {base base' : Nat} {g : Option Nat} {es : List (Value × List S42)} (h : PR_ w base g es) (hb : base' ≤ base) : PR_ w base' g es := ⟨fun e he => Kd.R_lower (h.own e he) hb, h.apart⟩
/-- down: a row of rows that lie apart, by its elements -/
theorem S_split {w : World} {base : Nat} {u : Value} {l : List (List S42)} (h : Kd.S (Kd.slice 42 k42) 27 w base (fun _ => True) u l) :
  ∃ es : List (Value × List S42), es.map Prod.snd = l ∧ w.ownsRow base 27 1 u es.length (es.map Prod.fst) ∧ PR_ w base u.ownBlock es := by
 obtain ⟨f, h0, inner, ho, hl, hr⟩ := h
 rw [List.length_zipIdx] at ho hl
 have hil : inner.length = l.length := by rw [hl]; exact Nat.mul_one _
 have each : ∀ j x, l[j]? = some x → ∃ v, inner[j]? = some v ∧ Kd.R k42 42 w base (fun k => (True ∧ some k ≠ u.ownBlock) ∧ f k = j) v x := by
  intro j x hx
  have hz := hr j (x, j) (by rw [List.getElem?_zipIdx, hx, Nat.zero_add]; rfl)
  obtain ⟨v, hv, hR⟩ := hz
  have hjl : j < l.length := (List.getElem?_eq_some_iff.1 hx).1
  have hsz : (Kd.tag f (Kd.slice 42 k42)).sz = 1 := rfl
  rw [hsz, Nat.mul_one] at hv
  refine ⟨v, ?_, hR⟩
  have := congrArg (fun z => z[0]?) hv
  simp only [List.getElem?_take, List.getElem?_drop, Nat.add_zero] at this
  simpa using this
 refine ⟨inner.zip l, ?_, ?_, ⟨fun e he => ?_, ?_⟩⟩
 ·exact List.map_snd_zip (by omega)
 ·rw [List.map_fst_zip (by omega), List.length_zip, hil, Nat.min_self]; exact ho
 ·obtain ⟨j, hj, e1⟩ := List.mem_iff_getElem.1 he
  have hj1 : j < l.length := by rw [List.length_zip] at hj; omega
  obtain ⟨v, hv, hR⟩ := each j _ (List.getElem?_eq_getElem hj1)
  rw [List.getElem_zip] at e1
  rw [List.getElem?_eq_getElem (by omega)] at hv
  obtain rfl := Option.some.inj hv
  rw [← e1]
  exact Kd.R_mono hR (fun k hk => hk.1.2)
 ·rw [List.pairwise_iff_getElem]
  intro i j hi hj hij k h1 h2
  have hi1 : i < l.length := by rw [List.length_zip] at hi; omega
  have hj1 : j < l.length := by rw [List.length_zip] at hj; omega
  obtain ⟨v, hv, hR⟩ := each i _ (List.getElem?_eq_getElem hi1)
  obtain ⟨v', hv', hR'⟩ := each j _ (List.getElem?_eq_getElem hj1)
  rw [List.getElem?_eq_getElem (by omega)] at hv hv'
  obtain rfl := Option.some.inj hv
  obtain rfl := Option.some.inj hv'
  rw [List.getElem_zip] at h1 h2
  have a1 := (hR.1 k h1).2
  have a2 := (hR'.1 k h2).2
  omega
/-- .. and up -/
theorem S_join {w : World} {base : Nat} {u : Value} {es : List (Value × List S42)} (ho : w.ownsRow base 27 1 u es.length (es.map Prod.fst)) (h : PR_ w base u.ownBlock es) :
  Kd.S (Kd.slice 42 k42) 27 w base (fun _ => True) u (es.map Prod.snd) := by
 have hap := List.pairwise_iff_getElem.1 h.apart
 obtain ⟨f, hr⟩ := Kd.reps_tag (d := Kd.slice 42 k42) (w := w) (base := base) (ok := fun k => True ∧ some k ≠ u.ownBlock) (xs := es.map Prod.snd) (inner := es.map Prod.fst)
  (fun j k => ∃ e : Value × List S42, es[j]? = some e ∧ e.1.ownBlock = some k) (fun i j k ⟨a, ha, hak⟩ ⟨b, hb, hbk⟩ => by
   obtain ⟨hi, rfl⟩ := List.getElem?_eq_some_iff.1 ha
   obtain ⟨hj, rfl⟩ := List.getElem?_eq_some_iff.1 hb
   rcases Nat.lt_trichotomy i j with g | g | g
   ·exact absurd hbk (hap i j hi hj g k hak)
   ·exact g
   ·exact absurd hak (hap j i hj hi g k hbk))
  (fun j k ⟨a, ha, hak⟩ => ⟨trivial, (h.own a (List.mem_of_getElem? ha)).1 k hak⟩) (by rw [List.length_map, List.length_map]; exact (Nat.mul_one _).symm) (fun j x hx => by
   rw [List.getElem?_map] at hx
   obtain ⟨e, he, rfl⟩ := Option.map_eq_some_iff.1 hx
   refine ⟨e.1, ?_, ?_⟩
   ·have hs : (Kd.slice 42 k42).sz = 1 := rfl
    rw [hs, Nat.mul_one]
    obtain ⟨hj, rfl⟩ := List.getElem?_eq_some_iff.1 he
    rw [List.drop_eq_getElem_cons (by simpa using hj)]
    simp
   ·exact Kd.R_mono (Kd.R_tight rfl (h.own e (List.mem_of_getElem? he))) (fun k hk => ⟨e, he, hk.symm⟩))
 refine ⟨f, fun k hk => trivial, es.map Prod.fst, ?_, hr⟩
 rw [List.length_zipIdx, List.length_map]; exact ho
def gE_ (l : List (Value × List S42)) (i : Nat) : Value × List S42 := l.getD i (.slice none 0 0, [])
theorem gE_get (l : List (Value × List S42)) (i : Nat) (h : i < l.length) : l[i]? = some (gE_ l i) := by
 unfold gE_; rw [List.getD_eq_getElem?_getD, List.getElem?_eq_getElem h]; rfl
theorem gE_mem (l : List (Value × List S42)) (i : Nat) (h : i < l.length) : gE_ l i ∈ l := List.mem_of_getElem? (gE_get l i h)

/-! ### spec_l03Add: function 85 -/
def spec_l03Add.l0 : Nat → List (List (S42)) → List (S42) → List (List (S42)) → Bool → Int → Option ((List (List (S42))))
 | 0, _, _, _, _, _ => none
 | k + 1, x0, x1, x5, x6, x7 => if x7 < (x0.length : Int) then (if 0 ≤ x7 then ((spec_CompareShapes.f k x1 (rd_L3 x0 x7)).bind fun t460 => (if t460 = 0 then (some x0) else (if t460 < 0 then (if x6 = true then (if x5.length < 5864062014805 then (spec_l03Add.l0 k x0 x1 (x5 ++ [rd_L3 x0 x7]) x6 (wrap64 (x7 + 1))) else (none)) else (if x5.length < 5864062014805 then ((some (x5 ++ [x1] : List (List (S42)))).bind fun y465 => (if y465.length < 5864062014805 then (spec_l03Add.l0 k x0 x1 (y465 ++ [rd_L3 x0 x7]) true (wrap64 (x7 + 1))) else (none))) else (none))) else (if x5.length < 5864062014805 then (spec_l03Add.l0 k x0 x1 (x5 ++ [rd_L3 x0 x7]) x6 (wrap64 (x7 + 1))) else (none))))) else (none)) else (if x6 = true then (some x5) else (if x5.length < 5864062014805 then (some (x5 ++ [x1])) else (none)))
def spec_l03Add.f (k : Nat) (l0 : List (List (S42))) (l1 : List (S42)) : Option ((List (List (S42)))) := spec_l03Add.l0 k l0 l1 (([] : List (List (S42)))) false 0
theorem spec_l03Add.mono_l : ∀ k, (∀ y0 y1 y2 y3 y4, LeO (spec_l03Add.l0 k y0 y1 y2 y3 y4) (spec_l03Add.l0 (k + 1) y0 y1 y2 y3 y4))
 | 0 => fun _ _ _ _ _ r h => by simp [spec_l03Add.l0] at h
 | k + 1 => by
  have ih0 := spec_l03Add.mono_l k
  ·intro y0 y1 y2 y3 y4
   unfold spec_l03Add.l0
   repeat' first
   | (with_reducible exact ih0 _ _ _ _ _)
   | (with_reducible exact spec_CompareShapes.mono _ _ _)
   | (with_reducible exact LeO.refl _)
   | (with_reducible exact LeO.none _)
   | (with_reducible refine LeO.ite ?_ ?_)
   | (with_reducible refine LeO.bind ?_ (fun _ => ?_))
   | exact ih0 _ _ _ _ _
   | exact spec_CompareShapes.mono _ _ _
   | exact LeO.none _
   | refine LeO.ite ?_ ?_
   | refine LeO.bind ?_ (fun _ => ?_)
theorem spec_l03Add.mono : ∀ a0 a1 k, LeO (spec_l03Add.f k a0 a1) (spec_l03Add.f (k + 1) a0 a1) := by
 intro a0 a1 k
 have ih0 := spec_l03Add.mono_l k
 unfold spec_l03Add.f
 repeat' first
   | (with_reducible exact ih0 _ _ _ _ _)
   | (with_reducible exact spec_CompareShapes.mono _ _ _)
   | (with_reducible exact LeO.refl _)
   | (with_reducible exact LeO.none _)
   | (with_reducible refine LeO.ite ?_ ?_)
   | (with_reducible refine LeO.bind ?_ (fun _ => ?_))
   | exact ih0 _ _ _ _ _
   | exact spec_CompareShapes.mono _ _ _
   | exact LeO.none _
   | refine LeO.ite ?_ ?_
   | refine LeO.bind ?_ (fun _ => ?_)
set_option maxHeartbeats 8000000 in
set_option maxRecDepth 100000 in
theorem spec_l03Add.calls (k : Nat) (P0_ : Nat → Prop) (A0 : Option Addr) (c0 : Nat) (l0 : List (List (S42))) (P1_ : Nat → Prop) (A1 : Option Addr) (c1 : Nat) (l1 : List (S42)) (r : List (List (S42))) (w : World) (hs0 : Kd.V (Kd.slice 42 k42) 27 w w.heap.size (fun k_ => P0_ k_) (.slice A0 l0.length c0) l0) (hs1 : Kd.V k42 42 w w.heap.size (fun k_ => P1_ k_) (.slice A1 l1.length c1) l1) (h : spec_l03Add.f k l0 l1 = some r) :
  Calls Try.prog 85 #[.slice A0 l0.length c0, .slice A1 l1.length c1] w fun e w' => ∃ v0_ : Value, e = .returned (v0_) ∧ Kd.V (Kd.slice 42 k42) 27 w' w.heap.size (fun k_ => ((P0_ k_ ∨ P1_ k_) ∨ w.heap.size ≤ k_)) v0_ r ∧ Below w.heap.size w w' := by
 have HO0 := Aside0.mk (show Kd.V (Kd.slice 42 k42) 27 w w.heap.size (fun k_ => ((P0_ k_ ∨ P1_ k_) ∨ w.heap.size ≤ k_)) (.slice A0 l0.length c0) l0 from Kd.V_mono hs0 (fun k_ hk => .inl (.inl hk)))
 have HO1 := Aside0.mk (show Kd.V k42 42 w w.heap.size (fun k_ => ((P0_ k_ ∨ P1_ k_) ∨ w.heap.size ≤ k_)) (.slice A1 l1.length c1) l1 from Kd.V_mono hs1 (fun k_ hk => .inl (.inr hk)))
 have HB := Aside0.mk (Below.refl w.heap.size w)
 have H : (spec_l03Add.l0 k l0 l1 (([] : List (List (S42)))) false 0) = some r := h
 clear h
 obtain ⟨y453, hy453⟩ : ∃ y_ : List (List (S42)), y_ = (([] : List (List (S42)))) := ⟨_, rfl⟩
 replace H : (spec_l03Add.l0 k l0 l1 y453 false 0) = some r := by first | (rw [hy453]; with_reducible exact H) | (have H2_ := (Option.bind_some _ _).symm.trans H; rw [hy453]; with_reducible exact H2_) | (have H2_ := (Option.bind_some _ _).symm.trans H; with_reducible exact H2_) | with_reducible exact H | (rw [hy453]; exact H) | exact H
 have Ny453 := Aside0.mk hy453
 clear hy453
 have H' := Aside0.mk H
 clear H
 go_enter Try.func85, Try.ntmps85
 go_wp2_with (first | ((with_reducible refine gate_dst (N := 9) rfl ?_); refine Kd.N_lit (Kd.slice 42 k42) _ 27 ?hg (N' := 9) ?hd (xs := ([] : List (List (S42)))) (inner := []) (ok := (fun k_ => ((P0_ k_ ∨ P1_ k_) ∨ w.heap.size ≤ k_))) (okp := (fun k_ => ((P0_ k_ ∨ P1_ k_) ∨ w.heap.size ≤ k_))) ?hr ?hp (fun _ hk => hk) ((show ∀ k_, w.heap.size ≤ k_ → (fun k_ => ((P0_ k_ ∨ P1_ k_) ∨ w.heap.size ≤ k_)) k_ from fun k_ hk => (.inr (Nat.le_trans (below_size (by repeat (with_reducible first | exact HB.out | apply below_alloc | apply pw_below_drewN | apply below_drew1))) hk))) _ (Nat.le_refl _)) (Below.refl _ _) (Nat.le_refl _) (by simp) ?_; (case hd => rfl); (case hg => rfl); (case hr => first | (go_simp; done) | (go_simp; rfl)); (case hp => exact (Reps.none _ _)); intro v454 w3 ho4 hb hg_ hnew_; clear hg_ hnew_; (first | rw [← Ny453.out] at ho4 | (simp only [Int.reduceToNat] at ho4; rw [← Ny453.out] at ho4)); have n0_ := Aside0.mk (Kd.V_elder' (by (with_reducible repeat (first | apply Kd.V_alloc | apply Kd.V_drewN | apply Kd.V_drew)); exact HO0.out) (Kd.N_base ho4) hb); have n1_ := Aside0.mk (Kd.V_elder' (by (with_reducible repeat (first | apply Kd.V_alloc | apply Kd.V_drewN | apply Kd.V_drew)); exact HO1.out) (Kd.N_base ho4) hb); have n2_ := Aside0.mk (Kd.N_lower ho4 (below_size (by repeat (with_reducible first | exact HB.out | apply below_alloc | apply pw_below_drewN | apply below_drew1)))); have n3_ := Aside0.mk (below_step (by repeat (with_reducible first | exact HB.out | apply below_alloc | apply pw_below_drewN | apply below_drew1)) hb); clear HO0; clear HO1; clear HB; have HO0 := n0_; have HO1 := n1_; have HO455 := n2_; have HB := n3_; clear n0_ n1_ n2_ n3_; clear hb ho4))
 go_loopg [5, 6, 7] k (fun kq v5 v6 v7 w' => ∃ (x5_1 : List (List (S42))) (x6_1 : Bool) (x7_1 : Int), v6 = .bool x6_1 ∧ v7 = .int .i64 x7_1 ∧ Aside0 (spec_l03Add.l0 kq l0 l1 x5_1 x6_1 x7_1 = some r) ∧ Aside0 (kq ≤ k) ∧ Aside0 (Kd.V (Kd.slice 42 k42) 27 w' w.heap.size (fun k_ => ((P0_ k_ ∨ P1_ k_) ∨ w.heap.size ≤ k_) ∧ some k_ ≠ (v5 : Value).ownBlock) (.slice A0 l0.length c0) l0) ∧ Aside0 (Kd.V k42 42 w' w.heap.size (fun k_ => ((P0_ k_ ∨ P1_ k_) ∨ w.heap.size ≤ k_) ∧ some k_ ≠ (v5 : Value).ownBlock) (.slice A1 l1.length c1) l1) ∧ Aside0 (Kd.N (Kd.slice 42 k42) 27 w' w.heap.size (fun k_ => ((P0_ k_ ∨ P1_ k_) ∨ w.heap.size ≤ k_)) v5 x5_1) ∧ Aside0 (Below w.heap.size w w'))
 case atStart => exact ⟨(y453), (false), (0), (by first | rfl | (simp; done) | (simp [*]; done)), (by first | rfl | (simp; done) | (simp [*]; done)), H', ⟨Nat.le_refl _⟩, ⟨by (with_reducible repeat (first | apply Kd.V_alloc | apply Kd.V_drewN | apply Kd.V_drew)); exact HO0.out⟩, ⟨by (with_reducible repeat (first | apply Kd.V_alloc | apply Kd.V_drewN | apply Kd.V_drew)); exact HO1.out⟩, ⟨by (with_reducible repeat (first | apply Kd.N_alloc | apply Kd.N_drewN | apply Kd.N_drew)); exact HO455.out⟩, ⟨by repeat (with_reducible first | exact HB.out | apply below_alloc | apply pw_below_drewN | apply below_drew1)⟩⟩
 case round =>
  clear H'
  try clear c1
  try clear p2
  obtain ⟨x5_1, x6_1, x7_1, rfl, rfl, HA, HK1, HO_0, HO_1, HO_5, HB⟩ := hrel
  cases gk with
  | zero => exact absurd HA.out (by simp [spec_l03Add.l0])
  | succ k1 =>
   have H := HA.out
   clear HA
   simp only [spec_l03Add.l0] at H
   by_cases c5 : x7_1 < (l0.length : Int)
   ·rw [if_pos c5] at H
    have c5b0 : decide (x7_1 < (l0.length : Int)) = true := decide_eq_true c5
    clear c5
    by_cases c6 : 0 ≤ x7_1
    ·rw [if_pos c6] at H
     have c6b0 : decide (0 ≤ x7_1) = true := decide_eq_true c6
     clear c6
     replace H := Option.bind_eq_some_iff.mp H
     obtain ⟨t460, A70, H⟩ := H
     replace H : (if t460 = 0 then (some l0) else (if t460 < 0 then (if x6_1 = true then (if x5_1.length < 5864062014805 then (spec_l03Add.l0 k1 l0 l1 (x5_1 ++ [rd_L3 l0 x7_1]) x6_1 (wrap64 (x7_1 + 1))) else (none)) else (if x5_1.length < 5864062014805 then ((some (x5_1 ++ [l1] : List (List (S42)))).bind fun y465 => (if y465.length < 5864062014805 then (spec_l03Add.l0 k1 l0 l1 (y465 ++ [rd_L3 l0 x7_1]) true (wrap64 (x7_1 + 1))) else (none))) else (none))) else (if x5_1.length < 5864062014805 then (spec_l03Add.l0 k1 l0 l1 (x5_1 ++ [rd_L3 l0 x7_1]) x6_1 (wrap64 (x7_1 + 1))) else (none)))) = some r := H
     have A7 := Aside0.mk A70
     clear A70
     by_cases c8 : t460 = 0
     ·rw [if_pos c8] at H
      have c8b0 : (t460 == 0) = true := beq_iff_eq.mpr c8
      have c8b1 : (t460 != 0) = false := bne_eq_false_iff_eq.mpr c8
      clear c8
      obtain rfl := Option.some.inj H
      have p459 : 0 ≤ (x7_1 : Int) := of_decide_eq_true (by first | (with_reducible assumption) | assumption)
      have q459 : x7_1 < (l0.length : Int) := of_decide_eq_true (by first | (with_reducible assumption) | assumption)
      obtain ⟨ad459, A459_0, c459_0, e459, hx459_0, hl459_0, hi459_0⟩ := at_L3 (Kd.V_reads' HO_0.out).2.2 x7_1 p459 q459
      cases e459
      obtain ⟨ce459, hce459, hMe459, hcc459⟩ := Kd.V_get HO_0.out [] x7_1 p459 (by first | exact q459 | exact of_decide_eq_true (by first | (with_reducible assumption) | assumption) | (have e_ := (Kd.V_reads' HO_0.out).1; omega))
      obtain ⟨ua459_0, uc459_0, rfl, ul459_0, ge459_0⟩ := Kd.FK_slice_open hMe459
      have hv459_0 := hcc459 0 _ rfl
      rw [Nat.add_zero, show ((Kd.slice 42 k42)).sz = 1 from rfl, Nat.mul_one] at hv459_0
      replace hv459_0 := Option.some.inj (hv459_0.symm.trans hx459_0)
      injection hv459_0 with hva_ hvn_ hvc_
      rw [hva_] at ge459_0
      rw [hvc_] at ul459_0
      have HL459_0 := Aside0.mk (show Kd.V k42 42 _ w.heap.size _ _ (rd_L3 l0 x7_1) from Kd.V_mk ul459_0 ge459_0)
      clear hva_ hvn_ hvc_ ge459_0 ul459_0
      clear hcc459 hce459
      have HR459_0 := Aside0.mk hi459_0
      have HC459_0 := Aside0.mk hl459_0
      clear hi459_0 hl459_0
      replace p459 := eq_true p459
      replace q459 := eq_true q459
      go_wp2_with (first | ((with_reducible refine gate_callee (f := 54) rfl ?_); refine goesL_ (some 21) rfl rfl Try.func54 (by kernel_rfl) rfl #[.slice A1 l1.length c1, .slice A459_0 (rd_L3 l0 x7_1).length c459_0] rfl (by (try simp only [List.map_toArray, List.map_cons, List.map_nil]); first | done | rfl) ?_; (with_reducible refine (spec_CompareShapes.calls k1 _ _ l1 _ _ (rd_L3 l0 x7_1) t460 _ ?side1 ?side2 ?side3 ?side4 A7.out).mono ?_); (case side1 => repeat (first | exact (Kd.V_reads' HO_1.out).2.2 | (with_reducible refine Kd.C_alloc ?_ _) | (with_reducible refine Kd.C_drewN ?_ _) | (with_reducible refine Kd.C_drew ?_))); (case side2 => exact (Kd.V_reads' HO_1.out).2.1); (case side3 => repeat (first | exact (by repeat (first | (with_reducible exact HR459_0.out) | (with_reducible refine Kd.C_alloc ?_ _) | (with_reducible refine Kd.C_drewN ?_ _) | (with_reducible refine Kd.C_drew ?_) | exact HR459_0.out)) | (with_reducible refine Kd.C_alloc ?_ _) | (with_reducible refine Kd.C_drewN ?_ _) | (with_reducible refine Kd.C_drew ?_))); (case side4 => exact HC459_0.out); rintro e w9 ⟨rfl, hb⟩; refine ⟨_, rfl, ?_⟩; have n0_ := Aside0.mk (Kd.V_below (by (with_reducible repeat (first | apply Kd.V_alloc | apply Kd.V_drewN | apply Kd.V_drew)); exact HO_0.out) hb); have n1_ := Aside0.mk (Kd.V_below (by (with_reducible repeat (first | apply Kd.V_alloc | apply Kd.V_drewN | apply Kd.V_drew)); exact HO_1.out) hb); have n2_ := Aside0.mk (Kd.N_below (by (with_reducible repeat (first | apply Kd.N_alloc | apply Kd.N_drewN | apply Kd.N_drew)); exact HO_5.out) hb); have n3_ := Aside0.mk (Kd.V_below (by (with_reducible repeat (first | apply Kd.V_alloc | apply Kd.V_drewN | apply Kd.V_drew)); exact HL459_0.out) hb); have n4_ := Aside0.mk (Kd.C_below (by repeat (first | (with_reducible exact HR459_0.out) | (with_reducible refine Kd.C_alloc ?_ _) | (with_reducible refine Kd.C_drewN ?_ _) | (with_reducible refine Kd.C_drew ?_) | exact HR459_0.out)) hb); have n5_ := Aside0.mk (below_step (by repeat (with_reducible first | exact HB.out | apply below_alloc | apply pw_below_drewN | apply below_drew1)) hb); clear HO_0; clear HO_1; clear HO_5; clear HL459_0; clear HR459_0; clear HB; have HO_0 := n0_; have HO_1 := n1_; have HO_5 := n2_; have HL459_0 := n3_; have HR459_0 := n4_; have HB := n5_; clear n0_ n1_ n2_ n3_ n4_ n5_; (try clear hb)))
      go_ret
      exact ⟨_, by first | rfl | (simp [*] <;> rfl), by (with_reducible repeat (first | apply Kd.V_alloc | apply Kd.V_drewN | apply Kd.V_drew)); exact Kd.V_mono HO_0.out (fun _ hk => hk.1), by repeat (with_reducible first | exact HB.out | apply below_alloc | apply pw_below_drewN | apply below_drew1)⟩
     ·rw [if_neg c8] at H
      have c8b0 : (t460 == 0) = false := beq_eq_false_iff_ne.mpr c8
      have c8b1 : (t460 != 0) = true := bne_iff_ne.mpr c8
      by_cases c10 : t460 < 0
      ·rw [if_pos c10] at H
       have c10b0 : decide (t460 < 0) = true := decide_eq_true c10
       clear c10
       by_cases c11 : x6_1 = true
       ·subst c11
        have H1 : (if x5_1.length < 5864062014805 then (spec_l03Add.l0 k1 l0 l1 (x5_1 ++ [rd_L3 l0 x7_1]) true (wrap64 (x7_1 + 1))) else (none)) = some r := by rw [if_pos rfl] at H; exact H
        clear H
        have H := H1
        clear H1
        by_cases c12 : x5_1.length < 5864062014805
        ·rw [if_pos c12] at H
         have LMc12 := Aside0.mk c12
         clear c12
         obtain ⟨y462, hy462⟩ : ∃ y_ : List (List (S42)), y_ = (x5_1 ++ [rd_L3 l0 x7_1]) := ⟨_, rfl⟩
         replace H : (spec_l03Add.l0 k1 l0 l1 y462 true (wrap64 (x7_1 + 1))) = some r := by first | (rw [hy462]; with_reducible exact H) | (have H2_ := (Option.bind_some _ _).symm.trans H; rw [hy462]; with_reducible exact H2_) | (have H2_ := (Option.bind_some _ _).symm.trans H; with_reducible exact H2_) | with_reducible exact H | (rw [hy462]; exact H) | exact H
         have Ny462 := Aside0.mk hy462
         clear hy462
         have H' := Aside0.mk H
         clear H
         have p459 : 0 ≤ (x7_1 : Int) := of_decide_eq_true (by first | (with_reducible assumption) | assumption)
         have q459 : x7_1 < (l0.length : Int) := of_decide_eq_true (by first | (with_reducible assumption) | assumption)
         obtain ⟨ad459, A459_0, c459_0, e459, hx459_0, hl459_0, hi459_0⟩ := at_L3 (Kd.V_reads' HO_0.out).2.2 x7_1 p459 q459
         cases e459
         obtain ⟨ce459, hce459, hMe459, hcc459⟩ := Kd.V_get HO_0.out [] x7_1 p459 (by first | exact q459 | exact of_decide_eq_true (by first | (with_reducible assumption) | assumption) | (have e_ := (Kd.V_reads' HO_0.out).1; omega))
         obtain ⟨ua459_0, uc459_0, rfl, ul459_0, ge459_0⟩ := Kd.FK_slice_open hMe459
         have hv459_0 := hcc459 0 _ rfl
         rw [Nat.add_zero, show ((Kd.slice 42 k42)).sz = 1 from rfl, Nat.mul_one] at hv459_0
         replace hv459_0 := Option.some.inj (hv459_0.symm.trans hx459_0)
         injection hv459_0 with hva_ hvn_ hvc_
         rw [hva_] at ge459_0
         rw [hvc_] at ul459_0
         have HL459_0 := Aside0.mk (show Kd.V k42 42 _ w.heap.size _ _ (rd_L3 l0 x7_1) from Kd.V_mk ul459_0 ge459_0)
         clear hva_ hvn_ hvc_ ge459_0 ul459_0
         clear hcc459 hce459
         have HR459_0 := Aside0.mk hi459_0
         have HC459_0 := Aside0.mk hl459_0
         clear hi459_0 hl459_0
         replace p459 := eq_true p459
         replace q459 := eq_true q459
         go_wp2_with (first | ((with_reducible refine gate_callee (f := 54) rfl ?_); refine goesL_ (some 21) rfl rfl Try.func54 (by kernel_rfl) rfl #[.slice A1 l1.length c1, .slice A459_0 (rd_L3 l0 x7_1).length c459_0] rfl (by (try simp only [List.map_toArray, List.map_cons, List.map_nil]); first | done | rfl) ?_; (with_reducible refine (spec_CompareShapes.calls k1 _ _ l1 _ _ (rd_L3 l0 x7_1) t460 _ ?side1 ?side2 ?side3 ?side4 A7.out).mono ?_); (case side1 => repeat (first | exact (Kd.V_reads' HO_1.out).2.2 | (with_reducible refine Kd.C_alloc ?_ _) | (with_reducible refine Kd.C_drewN ?_ _) | (with_reducible refine Kd.C_drew ?_))); (case side2 => exact (Kd.V_reads' HO_1.out).2.1); (case side3 => repeat (first | exact (by repeat (first | (with_reducible exact HR459_0.out) | (with_reducible refine Kd.C_alloc ?_ _) | (with_reducible refine Kd.C_drewN ?_ _) | (with_reducible refine Kd.C_drew ?_) | exact HR459_0.out)) | (with_reducible refine Kd.C_alloc ?_ _) | (with_reducible refine Kd.C_drewN ?_ _) | (with_reducible refine Kd.C_drew ?_))); (case side4 => exact HC459_0.out); rintro e w13 ⟨rfl, hb⟩; refine ⟨_, rfl, ?_⟩; have n0_ := Aside0.mk (Kd.V_below (by (with_reducible repeat (first | apply Kd.V_alloc | apply Kd.V_drewN | apply Kd.V_drew)); exact HO_0.out) hb); have n1_ := Aside0.mk (Kd.V_below (by (with_reducible repeat (first | apply Kd.V_alloc | apply Kd.V_drewN | apply Kd.V_drew)); exact HO_1.out) hb); have n2_ := Aside0.mk (Kd.N_below (by (with_reducible repeat (first | apply Kd.N_alloc | apply Kd.N_drewN | apply Kd.N_drew)); exact HO_5.out) hb); have n3_ := Aside0.mk (Kd.V_below (by (with_reducible repeat (first | apply Kd.V_alloc | apply Kd.V_drewN | apply Kd.V_drew)); exact HL459_0.out) hb); have n4_ := Aside0.mk (Kd.C_below (by repeat (first | (with_reducible exact HR459_0.out) | (with_reducible refine Kd.C_alloc ?_ _) | (with_reducible refine Kd.C_drewN ?_ _) | (with_reducible refine Kd.C_drew ?_) | exact HR459_0.out)) hb); have n5_ := Aside0.mk (below_step (by repeat (with_reducible first | exact HB.out | apply below_alloc | apply pw_below_drewN | apply below_drew1)) hb); clear HO_0; clear HO_1; clear HO_5; clear HL459_0; clear HR459_0; clear HB; have HO_0 := n0_; have HO_1 := n1_; have HO_5 := n2_; have HL459_0 := n3_; have HR459_0 := n4_; have HB := n5_; clear n0_ n1_ n2_ n3_ n4_ n5_; (try clear hb); have p461 : 0 ≤ (x7_1 : Int) := of_decide_eq_true (by first | (with_reducible assumption) | assumption); have q461 : x7_1 < (l0.length : Int) := of_decide_eq_true (by first | (with_reducible assumption) | assumption); obtain ⟨ad461, A461_0, c461_0, e461, hx461_0, hl461_0, hi461_0⟩ := at_L3 (Kd.V_reads' HO_0.out).2.2 x7_1 p461 q461; obtain rfl : ad459 = ad461 := (by injection e461); obtain ⟨ce461, hce461, hMe461, hcc461⟩ := Kd.V_get HO_0.out [] x7_1 p461 (by first | exact q461 | exact of_decide_eq_true (by first | (with_reducible assumption) | assumption) | (have e_ := (Kd.V_reads' HO_0.out).1; omega)); obtain ⟨ua461_0, uc461_0, rfl, ul461_0, ge461_0⟩ := Kd.FK_slice_open hMe461; have hv461_0 := hcc461 0 _ rfl; rw [Nat.add_zero, show ((Kd.slice 42 k42)).sz = 1 from rfl, Nat.mul_one] at hv461_0; replace hv461_0 := Option.some.inj (hv461_0.symm.trans hx461_0); injection hv461_0 with hva_ hvn_ hvc_; rw [hva_] at ge461_0; rw [hvc_] at ul461_0; have HL461_0 := Aside0.mk (show Kd.V k42 42 _ w.heap.size _ _ (rd_L3 l0 x7_1) from Kd.V_mk ul461_0 ge461_0); clear hva_ hvn_ hvc_ ge461_0 ul461_0; clear hcc461 hce461; have HR461_0 := Aside0.mk hi461_0; have HC461_0 := Aside0.mk hl461_0; clear hi461_0 hl461_0; replace p461 := eq_true p461; replace q461 := eq_true q461) | ((with_reducible refine gate_builtin (b := .append) (xs := #[.tmp 35, .tmp 40]) rfl ?_); at_builtin; refine Kd.N_append (Kd.slice 42 k42) (w0 := w) w.heap.size rfl (.tmp 35) (.tmp 40) 43 27 (.slice none 0 0) 24 rfl Try.underlying43 info27 rfl (by decide) (by omega) u5 x5_1 (rd_L3 l0 x7_1) [.slice A461_0 (rd_L3 l0 x7_1).length c461_0] (fun k_ => ((P0_ k_ ∨ P1_ k_) ∨ w.heap.size ≤ k_)) (fun k_ => ((fun k_ => ((P0_ k_ ∨ P1_ k_) ∨ w.heap.size ≤ k_))) k_ ∧ some k_ ≠ (u5 : Value).ownBlock) rfl rfl ?aP (fun _ hk => hk) ?aF ?aO ?aB ?aS ?aL ?_; (case aP => exact (Kd.FK_slice_mk (Kd.V_reads' (Kd.V_mono (ok' := (fun k_ => ((fun k_ => ((P0_ k_ ∨ P1_ k_) ∨ w.heap.size ≤ k_))) k_ ∧ some k_ ≠ (u5 : Value).ownBlock)) (HL461_0.out) (fun k_ hk => ⟨hk.1, hk.2⟩))).2.1 (Kd.V_F (Kd.V_mono (ok' := (fun k_ => ((fun k_ => ((P0_ k_ ∨ P1_ k_) ∨ w.heap.size ≤ k_))) k_ ∧ some k_ ≠ (u5 : Value).ownBlock)) (HL461_0.out) (fun k_ hk => ⟨hk.1, hk.2⟩))))); (case aB => exact (by repeat (with_reducible first | exact HB.out | apply below_alloc | apply pw_below_drewN | apply below_drew1))); (case aF => exact (fun k_ hk => (.inr (Nat.le_trans (below_size (by repeat (with_reducible first | exact HB.out | apply below_alloc | apply pw_below_drewN | apply below_drew1))) hk)))); (case aO => exact (by (with_reducible repeat (first | apply Kd.N_alloc | apply Kd.N_drewN | apply Kd.N_drew)); exact HO_5.out)); (case aS => exact (below_size (by repeat (with_reducible first | exact HB.out | apply below_alloc | apply pw_below_drewN | apply below_drew1)))); (case aL => have := LMc12.out; omega); intro v463 w14 ho hb hg hat; rw [← Ny462.out] at ho; have n0_ := Aside0.mk (Kd.V_afterv (ok := (fun k_ => ((P0_ k_ ∨ P1_ k_) ∨ w.heap.size ≤ k_))) (by (with_reducible repeat (first | apply Kd.V_alloc | apply Kd.V_drewN | apply Kd.V_drew)); exact HO_0.out) hg hat); have n1_ := Aside0.mk (Kd.V_afterv (ok := (fun k_ => ((P0_ k_ ∨ P1_ k_) ∨ w.heap.size ≤ k_))) (by (with_reducible repeat (first | apply Kd.V_alloc | apply Kd.V_drewN | apply Kd.V_drew)); exact HO_1.out) hg hat); have n2_ := Aside0.mk (Kd.V_afterv (ok := (fun k_ => ((P0_ k_ ∨ P1_ k_) ∨ w.heap.size ≤ k_))) (by (with_reducible repeat (first | apply Kd.V_alloc | apply Kd.V_drewN | apply Kd.V_drew)); exact HL459_0.out) hg hat); have n3_ := Aside0.mk (Kd.V_afterv (ok := (fun k_ => ((P0_ k_ ∨ P1_ k_) ∨ w.heap.size ≤ k_))) (by (with_reducible repeat (first | apply Kd.V_alloc | apply Kd.V_drewN | apply Kd.V_drew)); exact HL461_0.out) hg hat); have n4_ := Aside0.mk (hb); have n5_ := Aside0.mk (ho); clear HO_0; clear HO_1; clear HL459_0; clear HL461_0; clear HB; clear HO_5; have HO_0 := n0_; have HO_1 := n1_; have HL459_0 := n2_; have HL461_0 := n3_; have HB := n4_; have HO464 := n5_; clear n0_ n1_ n2_ n3_ n4_ n5_; clear ho hb hg hat))
         go_roundg k1
         case measure => have := HK1.out; omega
         case rel => exact ⟨(y462), (true), (wrap64 (x7_1 + 1)), (by first | rfl | (simp; done) | (simp [*]; done)), (by first | rfl | (simp; done) | (simp [*]; done)), H', ⟨by have := HK1.out; omega⟩, ⟨by (with_reducible repeat (first | apply Kd.V_alloc | apply Kd.V_drewN | apply Kd.V_drew)); exact HO_0.out⟩, ⟨by (with_reducible repeat (first | apply Kd.V_alloc | apply Kd.V_drewN | apply Kd.V_drew)); exact HO_1.out⟩, ⟨by (with_reducible repeat (first | apply Kd.N_alloc | apply Kd.N_drewN | apply Kd.N_drew)); exact HO464.out⟩, ⟨by repeat (with_reducible first | exact HB.out | apply below_alloc | apply pw_below_drewN | apply below_drew1)⟩⟩
        ·rw [if_neg c12] at H
         exact absurd H (by simp)
       ·replace c11 := Bool.eq_false_iff.mpr c11
        subst c11
        have H1 : (if x5_1.length < 5864062014805 then ((some (x5_1 ++ [l1] : List (List (S42)))).bind fun y465 => (if y465.length < 5864062014805 then (spec_l03Add.l0 k1 l0 l1 (y465 ++ [rd_L3 l0 x7_1]) true (wrap64 (x7_1 + 1))) else (none))) else (none)) = some r := by rw [if_neg (show ¬ (false = true) by decide)] at H; exact H
        clear H
        have H := H1
        clear H1
        by_cases c15 : x5_1.length < 5864062014805
        ·rw [if_pos c15] at H
         have LMc15 := Aside0.mk c15
         clear c15
         obtain ⟨y465, hy465⟩ : ∃ y_ : List (List (S42)), y_ = (x5_1 ++ [l1]) := ⟨_, rfl⟩
         replace H : (if y465.length < 5864062014805 then (spec_l03Add.l0 k1 l0 l1 (y465 ++ [rd_L3 l0 x7_1]) true (wrap64 (x7_1 + 1))) else (none)) = some r := by first | (rw [hy465]; with_reducible exact H) | (have H2_ := (Option.bind_some _ _).symm.trans H; rw [hy465]; with_reducible exact H2_) | (have H2_ := (Option.bind_some _ _).symm.trans H; with_reducible exact H2_) | with_reducible exact H | (rw [hy465]; exact H) | exact H
         have Ny465 := Aside0.mk hy465
         clear hy465
         by_cases c16 : y465.length < 5864062014805
         ·rw [if_pos c16] at H
          have LMc16 := Aside0.mk c16
          clear c16
          obtain ⟨y469, hy469⟩ : ∃ y_ : List (List (S42)), y_ = (y465 ++ [rd_L3 l0 x7_1]) := ⟨_, rfl⟩
          replace H : (spec_l03Add.l0 k1 l0 l1 y469 true (wrap64 (x7_1 + 1))) = some r := by first | (rw [hy469]; with_reducible exact H) | (have H2_ := (Option.bind_some _ _).symm.trans H; rw [hy469]; with_reducible exact H2_) | (have H2_ := (Option.bind_some _ _).symm.trans H; with_reducible exact H2_) | with_reducible exact H | (rw [hy469]; exact H) | exact H
          have Ny469 := Aside0.mk hy469
          clear hy469
          have H' := Aside0.mk H
          clear H
          have p459 : 0 ≤ (x7_1 : Int) := of_decide_eq_true (by first | (with_reducible assumption) | assumption)
          have q459 : x7_1 < (l0.length : Int) := of_decide_eq_true (by first | (with_reducible assumption) | assumption)
          obtain ⟨ad459, A459_0, c459_0, e459, hx459_0, hl459_0, hi459_0⟩ := at_L3 (Kd.V_reads' HO_0.out).2.2 x7_1 p459 q459
          cases e459
          obtain ⟨ce459, hce459, hMe459, hcc459⟩ := Kd.V_get HO_0.out [] x7_1 p459 (by first | exact q459 | exact of_decide_eq_true (by first | (with_reducible assumption) | assumption) | (have e_ := (Kd.V_reads' HO_0.out).1; omega))
          obtain ⟨ua459_0, uc459_0, rfl, ul459_0, ge459_0⟩ := Kd.FK_slice_open hMe459
          have hv459_0 := hcc459 0 _ rfl
          rw [Nat.add_zero, show ((Kd.slice 42 k42)).sz = 1 from rfl, Nat.mul_one] at hv459_0
          replace hv459_0 := Option.some.inj (hv459_0.symm.trans hx459_0)
          injection hv459_0 with hva_ hvn_ hvc_
          rw [hva_] at ge459_0
          rw [hvc_] at ul459_0
          have HL459_0 := Aside0.mk (show Kd.V k42 42 _ w.heap.size _ _ (rd_L3 l0 x7_1) from Kd.V_mk ul459_0 ge459_0)
          clear hva_ hvn_ hvc_ ge459_0 ul459_0
          clear hcc459 hce459
          have HR459_0 := Aside0.mk hi459_0
          have HC459_0 := Aside0.mk hl459_0
          clear hi459_0 hl459_0
          replace p459 := eq_true p459
          replace q459 := eq_true q459
          go_wp2_with (first | ((with_reducible refine gate_callee (f := 54) rfl ?_); refine goesL_ (some 21) rfl rfl Try.func54 (by kernel_rfl) rfl #[.slice A1 l1.length c1, .slice A459_0 (rd_L3 l0 x7_1).length c459_0] rfl (by (try simp only [List.map_toArray, List.map_cons, List.map_nil]); first | done | rfl) ?_; (with_reducible refine (spec_CompareShapes.calls k1 _ _ l1 _ _ (rd_L3 l0 x7_1) t460 _ ?side1 ?side2 ?side3 ?side4 A7.out).mono ?_); (case side1 => repeat (first | exact (Kd.V_reads' HO_1.out).2.2 | (with_reducible refine Kd.C_alloc ?_ _) | (with_reducible refine Kd.C_drewN ?_ _) | (with_reducible refine Kd.C_drew ?_))); (case side2 => exact (Kd.V_reads' HO_1.out).2.1); (case side3 => repeat (first | exact (by repeat (first | (with_reducible exact HR459_0.out) | (with_reducible refine Kd.C_alloc ?_ _) | (with_reducible refine Kd.C_drewN ?_ _) | (with_reducible refine Kd.C_drew ?_) | exact HR459_0.out)) | (with_reducible refine Kd.C_alloc ?_ _) | (with_reducible refine Kd.C_drewN ?_ _) | (with_reducible refine Kd.C_drew ?_))); (case side4 => exact HC459_0.out); rintro e w17 ⟨rfl, hb⟩; refine ⟨_, rfl, ?_⟩; have n0_ := Aside0.mk (Kd.V_below (by (with_reducible repeat (first | apply Kd.V_alloc | apply Kd.V_drewN | apply Kd.V_drew)); exact HO_0.out) hb); have n1_ := Aside0.mk (Kd.V_below (by (with_reducible repeat (first | apply Kd.V_alloc | apply Kd.V_drewN | apply Kd.V_drew)); exact HO_1.out) hb); have n2_ := Aside0.mk (Kd.N_below (by (with_reducible repeat (first | apply Kd.N_alloc | apply Kd.N_drewN | apply Kd.N_drew)); exact HO_5.out) hb); have n3_ := Aside0.mk (Kd.V_below (by (with_reducible repeat (first | apply Kd.V_alloc | apply Kd.V_drewN | apply Kd.V_drew)); exact HL459_0.out) hb); have n4_ := Aside0.mk (Kd.C_below (by repeat (first | (with_reducible exact HR459_0.out) | (with_reducible refine Kd.C_alloc ?_ _) | (with_reducible refine Kd.C_drewN ?_ _) | (with_reducible refine Kd.C_drew ?_) | exact HR459_0.out)) hb); have n5_ := Aside0.mk (below_step (by repeat (with_reducible first | exact HB.out | apply below_alloc | apply pw_below_drewN | apply below_drew1)) hb); clear HO_0; clear HO_1; clear HO_5; clear HL459_0; clear HR459_0; clear HB; have HO_0 := n0_; have HO_1 := n1_; have HO_5 := n2_; have HL459_0 := n3_; have HR459_0 := n4_; have HB := n5_; clear n0_ n1_ n2_ n3_ n4_ n5_; (try clear hb)) | ((with_reducible refine gate_builtin (b := .append) (xs := #[.tmp 31, .tmp 33]) rfl ?_); at_builtin; refine Kd.N_append (Kd.slice 42 k42) (w0 := w) w.heap.size rfl (.tmp 31) (.tmp 33) 43 27 (.slice none 0 0) 24 rfl Try.underlying43 info27 rfl (by decide) (by omega) u5 x5_1 l1 [.slice A1 l1.length c1] (fun k_ => ((P0_ k_ ∨ P1_ k_) ∨ w.heap.size ≤ k_)) (fun k_ => ((fun k_ => ((P0_ k_ ∨ P1_ k_) ∨ w.heap.size ≤ k_))) k_ ∧ some k_ ≠ (u5 : Value).ownBlock) rfl rfl ?aP (fun _ hk => hk) ?aF ?aO ?aB ?aS ?aL ?_; (case aP => exact (Kd.FK_slice_mk (Kd.V_reads' (Kd.V_mono (ok' := (fun k_ => ((fun k_ => ((P0_ k_ ∨ P1_ k_) ∨ w.heap.size ≤ k_))) k_ ∧ some k_ ≠ (u5 : Value).ownBlock)) (HO_1.out) (fun k_ hk => ⟨hk.1, hk.2⟩))).2.1 (Kd.V_F (Kd.V_mono (ok' := (fun k_ => ((fun k_ => ((P0_ k_ ∨ P1_ k_) ∨ w.heap.size ≤ k_))) k_ ∧ some k_ ≠ (u5 : Value).ownBlock)) (HO_1.out) (fun k_ hk => ⟨hk.1, hk.2⟩))))); (case aB => exact (by repeat (with_reducible first | exact HB.out | apply below_alloc | apply pw_below_drewN | apply below_drew1))); (case aF => exact (fun k_ hk => (.inr (Nat.le_trans (below_size (by repeat (with_reducible first | exact HB.out | apply below_alloc | apply pw_below_drewN | apply below_drew1))) hk)))); (case aO => exact (by (with_reducible repeat (first | apply Kd.N_alloc | apply Kd.N_drewN | apply Kd.N_drew)); exact HO_5.out)); (case aS => exact (below_size (by repeat (with_reducible first | exact HB.out | apply below_alloc | apply pw_below_drewN | apply below_drew1)))); (case aL => have := LMc15.out; omega); intro v466 w18 ho hb hg hat; rw [← Ny465.out] at ho; have n0_ := Aside0.mk (Kd.V_afterv (ok := (fun k_ => ((P0_ k_ ∨ P1_ k_) ∨ w.heap.size ≤ k_))) (by (with_reducible repeat (first | apply Kd.V_alloc | apply Kd.V_drewN | apply Kd.V_drew)); exact HO_0.out) hg hat); have n1_ := Aside0.mk (Kd.V_afterv (ok := (fun k_ => ((P0_ k_ ∨ P1_ k_) ∨ w.heap.size ≤ k_))) (by (with_reducible repeat (first | apply Kd.V_alloc | apply Kd.V_drewN | apply Kd.V_drew)); exact HO_1.out) hg hat); have n2_ := Aside0.mk (Kd.V_afterv (ok := (fun k_ => ((P0_ k_ ∨ P1_ k_) ∨ w.heap.size ≤ k_))) (by (with_reducible repeat (first | apply Kd.V_alloc | apply Kd.V_drewN | apply Kd.V_drew)); exact HL459_0.out) hg hat); have n3_ := Aside0.mk (hb); have n4_ := Aside0.mk (ho); clear HO_0; clear HO_1; clear HL459_0; clear HB; clear HO_5; have HO_0 := n0_; have HO_1 := n1_; have HL459_0 := n2_; have HB := n3_; have HO467 := n4_; clear n0_ n1_ n2_ n3_ n4_; clear ho hb hg hat; have p468 : 0 ≤ (x7_1 : Int) := of_decide_eq_true (by first | (with_reducible assumption) | assumption); have q468 : x7_1 < (l0.length : Int) := of_decide_eq_true (by first | (with_reducible assumption) | assumption); obtain ⟨ad468, A468_0, c468_0, e468, hx468_0, hl468_0, hi468_0⟩ := at_L3 (Kd.V_reads' HO_0.out).2.2 x7_1 p468 q468; obtain rfl : ad459 = ad468 := (by injection e468); obtain ⟨ce468, hce468, hMe468, hcc468⟩ := Kd.V_get HO_0.out [] x7_1 p468 (by first | exact q468 | exact of_decide_eq_true (by first | (with_reducible assumption) | assumption) | (have e_ := (Kd.V_reads' HO_0.out).1; omega)); obtain ⟨ua468_0, uc468_0, rfl, ul468_0, ge468_0⟩ := Kd.FK_slice_open hMe468; have hv468_0 := hcc468 0 _ rfl; rw [Nat.add_zero, show ((Kd.slice 42 k42)).sz = 1 from rfl, Nat.mul_one] at hv468_0; replace hv468_0 := Option.some.inj (hv468_0.symm.trans hx468_0); injection hv468_0 with hva_ hvn_ hvc_; rw [hva_] at ge468_0; rw [hvc_] at ul468_0; have HL468_0 := Aside0.mk (show Kd.V k42 42 _ w.heap.size _ _ (rd_L3 l0 x7_1) from Kd.V_mk ul468_0 ge468_0); clear hva_ hvn_ hvc_ ge468_0 ul468_0; clear hcc468 hce468; have HR468_0 := Aside0.mk hi468_0; have HC468_0 := Aside0.mk hl468_0; clear hi468_0 hl468_0; replace p468 := eq_true p468; replace q468 := eq_true q468) | ((with_reducible refine gate_builtin (b := .append) (xs := #[.tmp 35, .tmp 40]) rfl ?_); at_builtin; refine Kd.N_append (Kd.slice 42 k42) (w0 := w) w.heap.size rfl (.tmp 35) (.tmp 40) 43 27 (.slice none 0 0) 24 rfl Try.underlying43 info27 rfl (by decide) (by omega) v466 y465 (rd_L3 l0 x7_1) [.slice A468_0 (rd_L3 l0 x7_1).length c468_0] (fun k_ => ((P0_ k_ ∨ P1_ k_) ∨ w.heap.size ≤ k_)) (fun k_ => ((fun k_ => ((P0_ k_ ∨ P1_ k_) ∨ w.heap.size ≤ k_))) k_ ∧ some k_ ≠ (v466 : Value).ownBlock) rfl rfl ?aP (fun _ hk => hk) ?aF ?aO ?aB ?aS ?aL ?_; (case aP => exact (Kd.FK_slice_mk (Kd.V_reads' (Kd.V_mono (ok' := (fun k_ => ((fun k_ => ((P0_ k_ ∨ P1_ k_) ∨ w.heap.size ≤ k_))) k_ ∧ some k_ ≠ (v466 : Value).ownBlock)) (HL468_0.out) (fun k_ hk => ⟨hk.1, hk.2⟩))).2.1 (Kd.V_F (Kd.V_mono (ok' := (fun k_ => ((fun k_ => ((P0_ k_ ∨ P1_ k_) ∨ w.heap.size ≤ k_))) k_ ∧ some k_ ≠ (v466 : Value).ownBlock)) (HL468_0.out) (fun k_ hk => ⟨hk.1, hk.2⟩))))); (case aB => exact (by repeat (with_reducible first | exact HB.out | apply below_alloc | apply pw_below_drewN | apply below_drew1))); (case aF => exact (fun k_ hk => (.inr (Nat.le_trans (below_size (by repeat (with_reducible first | exact HB.out | apply below_alloc | apply pw_below_drewN | apply below_drew1))) hk)))); (case aO => exact (by (with_reducible repeat (first | apply Kd.N_alloc | apply Kd.N_drewN | apply Kd.N_drew)); exact HO467.out)); (case aS => exact (below_size (by repeat (with_reducible first | exact HB.out | apply below_alloc | apply pw_below_drewN | apply below_drew1)))); (case aL => have := LMc16.out; omega); intro v470 w19 ho hb hg hat; rw [← Ny469.out] at ho; have n0_ := Aside0.mk (Kd.V_afterv (ok := (fun k_ => ((P0_ k_ ∨ P1_ k_) ∨ w.heap.size ≤ k_))) (by (with_reducible repeat (first | apply Kd.V_alloc | apply Kd.V_drewN | apply Kd.V_drew)); exact HO_0.out) hg hat); have n1_ := Aside0.mk (Kd.V_afterv (ok := (fun k_ => ((P0_ k_ ∨ P1_ k_) ∨ w.heap.size ≤ k_))) (by (with_reducible repeat (first | apply Kd.V_alloc | apply Kd.V_drewN | apply Kd.V_drew)); exact HO_1.out) hg hat); have n2_ := Aside0.mk (Kd.V_afterv (ok := (fun k_ => ((P0_ k_ ∨ P1_ k_) ∨ w.heap.size ≤ k_))) (by (with_reducible repeat (first | apply Kd.V_alloc | apply Kd.V_drewN | apply Kd.V_drew)); exact HL459_0.out) hg hat); have n3_ := Aside0.mk (Kd.V_afterv (ok := (fun k_ => ((P0_ k_ ∨ P1_ k_) ∨ w.heap.size ≤ k_))) (by (with_reducible repeat (first | apply Kd.V_alloc | apply Kd.V_drewN | apply Kd.V_drew)); exact HL468_0.out) hg hat); have n4_ := Aside0.mk (hb); have n5_ := Aside0.mk (ho); clear HO_0; clear HO_1; clear HL459_0; clear HL468_0; clear HB; clear HO467; have HO_0 := n0_; have HO_1 := n1_; have HL459_0 := n2_; have HL468_0 := n3_; have HB := n4_; have HO471 := n5_; clear n0_ n1_ n2_ n3_ n4_ n5_; clear ho hb hg hat))
          go_roundg k1
          case measure => have := HK1.out; omega
          case rel => exact ⟨(y469), (true), (wrap64 (x7_1 + 1)), (by first | rfl | (simp; done) | (simp [*]; done)), (by first | rfl | (simp; done) | (simp [*]; done)), H', ⟨by have := HK1.out; omega⟩, ⟨by (with_reducible repeat (first | apply Kd.V_alloc | apply Kd.V_drewN | apply Kd.V_drew)); exact HO_0.out⟩, ⟨by (with_reducible repeat (first | apply Kd.V_alloc | apply Kd.V_drewN | apply Kd.V_drew)); exact HO_1.out⟩, ⟨by (with_reducible repeat (first | apply Kd.N_alloc | apply Kd.N_drewN | apply Kd.N_drew)); exact HO471.out⟩, ⟨by repeat (with_reducible first | exact HB.out | apply below_alloc | apply pw_below_drewN | apply below_drew1)⟩⟩
         ·rw [if_neg c16] at H
          exact absurd H (by simp)
        ·rw [if_neg c15] at H
         exact absurd H (by simp)
      ·rw [if_neg c10] at H
       have c10b0 : decide (t460 < 0) = false := decide_eq_false c10
       clear c10
       by_cases c20 : x5_1.length < 5864062014805
       ·rw [if_pos c20] at H
        have LMc20 := Aside0.mk c20
        clear c20
        obtain ⟨y473, hy473⟩ : ∃ y_ : List (List (S42)), y_ = (x5_1 ++ [rd_L3 l0 x7_1]) := ⟨_, rfl⟩
        replace H : (spec_l03Add.l0 k1 l0 l1 y473 x6_1 (wrap64 (x7_1 + 1))) = some r := by first | (rw [hy473]; with_reducible exact H) | (have H2_ := (Option.bind_some _ _).symm.trans H; rw [hy473]; with_reducible exact H2_) | (have H2_ := (Option.bind_some _ _).symm.trans H; with_reducible exact H2_) | with_reducible exact H | (rw [hy473]; exact H) | exact H
        have Ny473 := Aside0.mk hy473
        clear hy473
        have H' := Aside0.mk H
        clear H
        have p459 : 0 ≤ (x7_1 : Int) := of_decide_eq_true (by first | (with_reducible assumption) | assumption)
        have q459 : x7_1 < (l0.length : Int) := of_decide_eq_true (by first | (with_reducible assumption) | assumption)
        obtain ⟨ad459, A459_0, c459_0, e459, hx459_0, hl459_0, hi459_0⟩ := at_L3 (Kd.V_reads' HO_0.out).2.2 x7_1 p459 q459
        cases e459
        obtain ⟨ce459, hce459, hMe459, hcc459⟩ := Kd.V_get HO_0.out [] x7_1 p459 (by first | exact q459 | exact of_decide_eq_true (by first | (with_reducible assumption) | assumption) | (have e_ := (Kd.V_reads' HO_0.out).1; omega))
        obtain ⟨ua459_0, uc459_0, rfl, ul459_0, ge459_0⟩ := Kd.FK_slice_open hMe459
        have hv459_0 := hcc459 0 _ rfl
        rw [Nat.add_zero, show ((Kd.slice 42 k42)).sz = 1 from rfl, Nat.mul_one] at hv459_0
        replace hv459_0 := Option.some.inj (hv459_0.symm.trans hx459_0)
        injection hv459_0 with hva_ hvn_ hvc_
        rw [hva_] at ge459_0
        rw [hvc_] at ul459_0
        have HL459_0 := Aside0.mk (show Kd.V k42 42 _ w.heap.size _ _ (rd_L3 l0 x7_1) from Kd.V_mk ul459_0 ge459_0)
        clear hva_ hvn_ hvc_ ge459_0 ul459_0
        clear hcc459 hce459
        have HR459_0 := Aside0.mk hi459_0
        have HC459_0 := Aside0.mk hl459_0
        clear hi459_0 hl459_0
        replace p459 := eq_true p459
        replace q459 := eq_true q459
        go_wp2_with (first | ((with_reducible refine gate_callee (f := 54) rfl ?_); refine goesL_ (some 21) rfl rfl Try.func54 (by kernel_rfl) rfl #[.slice A1 l1.length c1, .slice A459_0 (rd_L3 l0 x7_1).length c459_0] rfl (by (try simp only [List.map_toArray, List.map_cons, List.map_nil]); first | done | rfl) ?_; (with_reducible refine (spec_CompareShapes.calls k1 _ _ l1 _ _ (rd_L3 l0 x7_1) t460 _ ?side1 ?side2 ?side3 ?side4 A7.out).mono ?_); (case side1 => repeat (first | exact (Kd.V_reads' HO_1.out).2.2 | (with_reducible refine Kd.C_alloc ?_ _) | (with_reducible refine Kd.C_drewN ?_ _) | (with_reducible refine Kd.C_drew ?_))); (case side2 => exact (Kd.V_reads' HO_1.out).2.1); (case side3 => repeat (first | exact (by repeat (first | (with_reducible exact HR459_0.out) | (with_reducible refine Kd.C_alloc ?_ _) | (with_reducible refine Kd.C_drewN ?_ _) | (with_reducible refine Kd.C_drew ?_) | exact HR459_0.out)) | (with_reducible refine Kd.C_alloc ?_ _) | (with_reducible refine Kd.C_drewN ?_ _) | (with_reducible refine Kd.C_drew ?_))); (case side4 => exact HC459_0.out); rintro e w21 ⟨rfl, hb⟩; refine ⟨_, rfl, ?_⟩; have n0_ := Aside0.mk (Kd.V_below (by (with_reducible repeat (first | apply Kd.V_alloc | apply Kd.V_drewN | apply Kd.V_drew)); exact HO_0.out) hb); have n1_ := Aside0.mk (Kd.V_below (by (with_reducible repeat (first | apply Kd.V_alloc | apply Kd.V_drewN | apply Kd.V_drew)); exact HO_1.out) hb); have n2_ := Aside0.mk (Kd.N_below (by (with_reducible repeat (first | apply Kd.N_alloc | apply Kd.N_drewN | apply Kd.N_drew)); exact HO_5.out) hb); have n3_ := Aside0.mk (Kd.V_below (by (with_reducible repeat (first | apply Kd.V_alloc | apply Kd.V_drewN | apply Kd.V_drew)); exact HL459_0.out) hb); have n4_ := Aside0.mk (Kd.C_below (by repeat (first | (with_reducible exact HR459_0.out) | (with_reducible refine Kd.C_alloc ?_ _) | (with_reducible refine Kd.C_drewN ?_ _) | (with_reducible refine Kd.C_drew ?_) | exact HR459_0.out)) hb); have n5_ := Aside0.mk (below_step (by repeat (with_reducible first | exact HB.out | apply below_alloc | apply pw_below_drewN | apply below_drew1)) hb); clear HO_0; clear HO_1; clear HO_5; clear HL459_0; clear HR459_0; clear HB; have HO_0 := n0_; have HO_1 := n1_; have HO_5 := n2_; have HL459_0 := n3_; have HR459_0 := n4_; have HB := n5_; clear n0_ n1_ n2_ n3_ n4_ n5_; (try clear hb); have p472 : 0 ≤ (x7_1 : Int) := of_decide_eq_true (by first | (with_reducible assumption) | assumption); have q472 : x7_1 < (l0.length : Int) := of_decide_eq_true (by first | (with_reducible assumption) | assumption); obtain ⟨ad472, A472_0, c472_0, e472, hx472_0, hl472_0, hi472_0⟩ := at_L3 (Kd.V_reads' HO_0.out).2.2 x7_1 p472 q472; obtain rfl : ad459 = ad472 := (by injection e472); obtain ⟨ce472, hce472, hMe472, hcc472⟩ := Kd.V_get HO_0.out [] x7_1 p472 (by first | exact q472 | exact of_decide_eq_true (by first | (with_reducible assumption) | assumption) | (have e_ := (Kd.V_reads' HO_0.out).1; omega)); obtain ⟨ua472_0, uc472_0, rfl, ul472_0, ge472_0⟩ := Kd.FK_slice_open hMe472; have hv472_0 := hcc472 0 _ rfl; rw [Nat.add_zero, show ((Kd.slice 42 k42)).sz = 1 from rfl, Nat.mul_one] at hv472_0; replace hv472_0 := Option.some.inj (hv472_0.symm.trans hx472_0); injection hv472_0 with hva_ hvn_ hvc_; rw [hva_] at ge472_0; rw [hvc_] at ul472_0; have HL472_0 := Aside0.mk (show Kd.V k42 42 _ w.heap.size _ _ (rd_L3 l0 x7_1) from Kd.V_mk ul472_0 ge472_0); clear hva_ hvn_ hvc_ ge472_0 ul472_0; clear hcc472 hce472; have HR472_0 := Aside0.mk hi472_0; have HC472_0 := Aside0.mk hl472_0; clear hi472_0 hl472_0; replace p472 := eq_true p472; replace q472 := eq_true q472) | ((with_reducible refine gate_builtin (b := .append) (xs := #[.tmp 35, .tmp 40]) rfl ?_); at_builtin; refine Kd.N_append (Kd.slice 42 k42) (w0 := w) w.heap.size rfl (.tmp 35) (.tmp 40) 43 27 (.slice none 0 0) 24 rfl Try.underlying43 info27 rfl (by decide) (by omega) u5 x5_1 (rd_L3 l0 x7_1) [.slice A472_0 (rd_L3 l0 x7_1).length c472_0] (fun k_ => ((P0_ k_ ∨ P1_ k_) ∨ w.heap.size ≤ k_)) (fun k_ => ((fun k_ => ((P0_ k_ ∨ P1_ k_) ∨ w.heap.size ≤ k_))) k_ ∧ some k_ ≠ (u5 : Value).ownBlock) rfl rfl ?aP (fun _ hk => hk) ?aF ?aO ?aB ?aS ?aL ?_; (case aP => exact (Kd.FK_slice_mk (Kd.V_reads' (Kd.V_mono (ok' := (fun k_ => ((fun k_ => ((P0_ k_ ∨ P1_ k_) ∨ w.heap.size ≤ k_))) k_ ∧ some k_ ≠ (u5 : Value).ownBlock)) (HL472_0.out) (fun k_ hk => ⟨hk.1, hk.2⟩))).2.1 (Kd.V_F (Kd.V_mono (ok' := (fun k_ => ((fun k_ => ((P0_ k_ ∨ P1_ k_) ∨ w.heap.size ≤ k_))) k_ ∧ some k_ ≠ (u5 : Value).ownBlock)) (HL472_0.out) (fun k_ hk => ⟨hk.1, hk.2⟩))))); (case aB => exact (by repeat (with_reducible first | exact HB.out | apply below_alloc | apply pw_below_drewN | apply below_drew1))); (case aF => exact (fun k_ hk => (.inr (Nat.le_trans (below_size (by repeat (with_reducible first | exact HB.out | apply below_alloc | apply pw_below_drewN | apply below_drew1))) hk)))); (case aO => exact (by (with_reducible repeat (first | apply Kd.N_alloc | apply Kd.N_drewN | apply Kd.N_drew)); exact HO_5.out)); (case aS => exact (below_size (by repeat (with_reducible first | exact HB.out | apply below_alloc | apply pw_below_drewN | apply below_drew1)))); (case aL => have := LMc20.out; omega); intro v474 w22 ho hb hg hat; rw [← Ny473.out] at ho; have n0_ := Aside0.mk (Kd.V_afterv (ok := (fun k_ => ((P0_ k_ ∨ P1_ k_) ∨ w.heap.size ≤ k_))) (by (with_reducible repeat (first | apply Kd.V_alloc | apply Kd.V_drewN | apply Kd.V_drew)); exact HO_0.out) hg hat); have n1_ := Aside0.mk (Kd.V_afterv (ok := (fun k_ => ((P0_ k_ ∨ P1_ k_) ∨ w.heap.size ≤ k_))) (by (with_reducible repeat (first | apply Kd.V_alloc | apply Kd.V_drewN | apply Kd.V_drew)); exact HO_1.out) hg hat); have n2_ := Aside0.mk (Kd.V_afterv (ok := (fun k_ => ((P0_ k_ ∨ P1_ k_) ∨ w.heap.size ≤ k_))) (by (with_reducible repeat (first | apply Kd.V_alloc | apply Kd.V_drewN | apply Kd.V_drew)); exact HL459_0.out) hg hat); have n3_ := Aside0.mk (Kd.V_afterv (ok := (fun k_ => ((P0_ k_ ∨ P1_ k_) ∨ w.heap.size ≤ k_))) (by (with_reducible repeat (first | apply Kd.V_alloc | apply Kd.V_drewN | apply Kd.V_drew)); exact HL472_0.out) hg hat); have n4_ := Aside0.mk (hb); have n5_ := Aside0.mk (ho); clear HO_0; clear HO_1; clear HL459_0; clear HL472_0; clear HB; clear HO_5; have HO_0 := n0_; have HO_1 := n1_; have HL459_0 := n2_; have HL472_0 := n3_; have HB := n4_; have HO475 := n5_; clear n0_ n1_ n2_ n3_ n4_ n5_; clear ho hb hg hat))
        go_roundg k1
        case measure => have := HK1.out; omega
        case rel => exact ⟨(y473), (x6_1), (wrap64 (x7_1 + 1)), (by first | rfl | (simp; done) | (simp [*]; done)), (by first | rfl | (simp; done) | (simp [*]; done)), H', ⟨by have := HK1.out; omega⟩, ⟨by (with_reducible repeat (first | apply Kd.V_alloc | apply Kd.V_drewN | apply Kd.V_drew)); exact HO_0.out⟩, ⟨by (with_reducible repeat (first | apply Kd.V_alloc | apply Kd.V_drewN | apply Kd.V_drew)); exact HO_1.out⟩, ⟨by (with_reducible repeat (first | apply Kd.N_alloc | apply Kd.N_drewN | apply Kd.N_drew)); exact HO475.out⟩, ⟨by repeat (with_reducible first | exact HB.out | apply below_alloc | apply pw_below_drewN | apply below_drew1)⟩⟩
       ·rw [if_neg c20] at H
        exact absurd H (by simp)
    ·rw [if_neg c6] at H
     exact absurd H (by simp)
   ·rw [if_neg c5] at H
    have c5b0 : decide (x7_1 < (l0.length : Int)) = false := decide_eq_false c5
    clear c5
    by_cases c23 : x6_1 = true
    ·subst c23
     have H1 : (some x5_1) = some r := by rw [if_pos rfl] at H; exact H
     clear H
     have H := H1
     clear H1
     obtain rfl := Option.some.inj H
     go_wp2
     go_ret
     exact ⟨_, by first | rfl | (simp [*] <;> rfl), Kd.N_V (by (with_reducible repeat (first | apply Kd.N_alloc | apply Kd.N_drewN | apply Kd.N_drew)); exact HO_5.out), by repeat (with_reducible first | exact HB.out | apply below_alloc | apply pw_below_drewN | apply below_drew1)⟩
    ·replace c23 := Bool.eq_false_iff.mpr c23
     subst c23
     have H1 : (if x5_1.length < 5864062014805 then (some (x5_1 ++ [l1])) else (none)) = some r := by rw [if_neg (show ¬ (false = true) by decide)] at H; exact H
     clear H
     have H := H1
     clear H1
     by_cases c24 : x5_1.length < 5864062014805
     ·rw [if_pos c24] at H
      have LMc24 := Aside0.mk c24
      clear c24
      obtain ⟨y456, hy456⟩ : ∃ y_ : List (List (S42)), y_ = (x5_1 ++ [l1]) := ⟨_, rfl⟩
      replace H : (some y456) = some r := by first | (rw [hy456]; with_reducible exact H) | (have H2_ := (Option.bind_some _ _).symm.trans H; rw [hy456]; with_reducible exact H2_) | (have H2_ := (Option.bind_some _ _).symm.trans H; with_reducible exact H2_) | with_reducible exact H | (rw [hy456]; exact H) | exact H
      have Ny456 := Aside0.mk hy456
      clear hy456
      obtain rfl := Option.some.inj H
      go_wp2_with (first | ((with_reducible refine gate_builtin (b := .append) (xs := #[.tmp 44, .tmp 46]) rfl ?_); at_builtin; refine Kd.N_append (Kd.slice 42 k42) (w0 := w) w.heap.size rfl (.tmp 44) (.tmp 46) 43 27 (.slice none 0 0) 24 rfl Try.underlying43 info27 rfl (by decide) (by omega) u5 x5_1 l1 [.slice A1 l1.length c1] (fun k_ => ((P0_ k_ ∨ P1_ k_) ∨ w.heap.size ≤ k_)) (fun k_ => ((fun k_ => ((P0_ k_ ∨ P1_ k_) ∨ w.heap.size ≤ k_))) k_ ∧ some k_ ≠ (u5 : Value).ownBlock) rfl rfl ?aP (fun _ hk => hk) ?aF ?aO ?aB ?aS ?aL ?_; (case aP => exact (Kd.FK_slice_mk (Kd.V_reads' (Kd.V_mono (ok' := (fun k_ => ((fun k_ => ((P0_ k_ ∨ P1_ k_) ∨ w.heap.size ≤ k_))) k_ ∧ some k_ ≠ (u5 : Value).ownBlock)) (HO_1.out) (fun k_ hk => ⟨hk.1, hk.2⟩))).2.1 (Kd.V_F (Kd.V_mono (ok' := (fun k_ => ((fun k_ => ((P0_ k_ ∨ P1_ k_) ∨ w.heap.size ≤ k_))) k_ ∧ some k_ ≠ (u5 : Value).ownBlock)) (HO_1.out) (fun k_ hk => ⟨hk.1, hk.2⟩))))); (case aB => exact (by repeat (with_reducible first | exact HB.out | apply below_alloc | apply pw_below_drewN | apply below_drew1))); (case aF => exact (fun k_ hk => (.inr (Nat.le_trans (below_size (by repeat (with_reducible first | exact HB.out | apply below_alloc | apply pw_below_drewN | apply below_drew1))) hk)))); (case aO => exact (by (with_reducible repeat (first | apply Kd.N_alloc | apply Kd.N_drewN | apply Kd.N_drew)); exact HO_5.out)); (case aS => exact (below_size (by repeat (with_reducible first | exact HB.out | apply below_alloc | apply pw_below_drewN | apply below_drew1)))); (case aL => have := LMc24.out; omega); intro v457 w25 ho hb hg hat; rw [← Ny456.out] at ho; have n0_ := Aside0.mk (Kd.V_afterv (ok := (fun k_ => ((P0_ k_ ∨ P1_ k_) ∨ w.heap.size ≤ k_))) (by (with_reducible repeat (first | apply Kd.V_alloc | apply Kd.V_drewN | apply Kd.V_drew)); exact HO_0.out) hg hat); have n1_ := Aside0.mk (Kd.V_afterv (ok := (fun k_ => ((P0_ k_ ∨ P1_ k_) ∨ w.heap.size ≤ k_))) (by (with_reducible repeat (first | apply Kd.V_alloc | apply Kd.V_drewN | apply Kd.V_drew)); exact HO_1.out) hg hat); have n2_ := Aside0.mk (hb); have n3_ := Aside0.mk (ho); clear HO_0; clear HO_1; clear HB; clear HO_5; have HO_0 := n0_; have HO_1 := n1_; have HB := n2_; have HO458 := n3_; clear n0_ n1_ n2_ n3_; clear ho hb hg hat))
      go_ret
      exact ⟨_, by first | rfl | (simp [*] <;> rfl), Kd.N_V (by (with_reducible repeat (first | apply Kd.N_alloc | apply Kd.N_drewN | apply Kd.N_drew)); exact HO458.out), by repeat (with_reducible first | exact HB.out | apply below_alloc | apply pw_below_drewN | apply below_drew1)⟩
     ·rw [if_neg c24] at H
      exact absurd H (by simp)

end Go.Proofs.Ytpilmhjbgbpbmaa.X
