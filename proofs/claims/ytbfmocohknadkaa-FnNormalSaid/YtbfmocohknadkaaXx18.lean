-- xprint.py
import Derived.Test.YtbfmocohknadkaaXx0
import Derived.Test.YtbfmocohknadkaaXx5
import Derived.Test.YtbfmocohknadkaaXx8
import Derived.Test.YtbfmocohknadkaaXx12
import Derived.Test.YtbfmocohknadkaaXx13
namespace Go.Proofs.Ytbfmocohknadkaa.X
open Go.RowKit Go.Proofs.YtbfmocohknadkaaW.PrintWords Go.Proofs.YtbfmocohknadkaaW.PrintLast Go.Proofs.YtbfmocohknadkaaW.PrintMore
attribute [local go_sem] max2_int min2_int max_two min_two max_three min_three max_four min_four   -- for this text's walks alone
set_option linter.unusedVariables false
set_option linter.unusedSimpArgs false

/-! ### laws_big: function 30 -/
def laws_big.f (l0 : List Int) : Option (Bool) := some (decide ((l0.length : Int) > 4096))
set_option maxHeartbeats 8000000 in
set_option maxRecDepth 100000 in
theorem laws_big.calls (A0 : Option Addr) (c0 : Nat) (l0 : List Int) (r : Bool) (w : World) (hr0 : Kd.C (Kd.int .u8) w A0 l0.length l0) (hc0 : l0.length ≤ c0) (h : laws_big.f l0 = some r) :
  Calls Try.prog 30 #[.slice A0 l0.length c0] w fun e w' => e = .returned (.bool r) ∧ Drawn0 w w' := by
 have HR0 := Aside0.mk hr0
 have HC0 := Aside0.mk hc0
 clear hr0 hc0
 have H : (some (decide ((l0.length : Int) > 4096))) = some r := h
 clear h
 obtain rfl := Option.some.inj H
 go_enter Try.func30, Try.ntmps30
 go_wp2
 go_ret
 exact ⟨r3_, by repeat (first | exact Drawn0.refl _ | apply Drawn0.step)⟩

/-- A state of type 96 at block g of W; what its slices lead to came in by w0. -/
def IsS96 (w0 W : World) (g : Nat) (f0 : List Int) (f1 : Int) (f2 : Int) : Prop := ∃ A0 c0, W.heap[g]? = some (.cells #[.slice A0 f0.length c0, .int .i64 f1, .int .i64 f2] 96 (0, 0)) ∧ w0.heap.size ≤ g ∧ Kd.C (Kd.int .u8) w0 A0 f0.length f0
theorem IsS96.grown {w0 W : World} {g : Nat} {f0 : List Int} {f1 : Int} {f2 : Int} {W1 : World} {row : Option Nat} (h : IsS96 w0 W g f0 f1 f2) (hw : W.grownBy W1 row) (hne : some g ≠ row) : IsS96 w0 W1 g f0 f1 f2 := by
 obtain ⟨A0, c0, hb, hg, hr0⟩ := h
 exact ⟨A0, c0, blk_grown hb hw hne, hg, hr0⟩
theorem IsS96.own_neN {w0 W : World} {g : Nat} {f0 : List Int} {f1 : Int} {f2 : Int} {α : Type} {d : Kd α} {e : Nat} {base : Nat} {ok : Nat → Prop} {v : Value} {xs : List α} (h : IsS96 w0 W g f0 f1 f2) (ho : Kd.N d e W base ok v xs) (ht : e ≠ 96) : some g ≠ v.ownBlock := by
 obtain ⟨A0, c0, hb, hg, hr0⟩ := h
 exact Kd.N_ne ho hb ht
theorem IsS96.fresh {w0 W : World} {g : Nat} {f0 : List Int} {f1 : Int} {f2 : Int} (h : IsS96 w0 W g f0 f1 f2) : ∀ k, W.heap.size ≤ k → k ≠ g := by
 obtain ⟨A0, c0, hb, hg, hr0⟩ := h
 exact Kd.freshB hb
theorem IsS96.kept {w0 W : World} {g : Nat} {f0 : List Int} {f1 : Int} {f2 : Int} {W1 : World} {S : Nat → Prop} (h : IsS96 w0 W g f0 f1 f2) (hk : Kept W W1 S) (hne : ¬ S g) : IsS96 w0 W1 g f0 f1 f2 := by
 obtain ⟨A0, c0, hb, hg, hr0⟩ := h
 exact ⟨A0, c0, blk_kept hb hk hne, hg, hr0⟩
theorem IsS96.below {w0 W : World} {g : Nat} {f0 : List Int} {f1 : Int} {f2 : Int} {W1 : World} (h : IsS96 w0 W g f0 f1 f2) (hw : Below W.heap.size W W1) : IsS96 w0 W1 g f0 f1 f2 := h.grown (grown_of_below hw none) (by simp)
theorem IsS96.alloc {w0 W : World} {g : Nat} {f0 : List Int} {f1 : Int} {f2 : Int} (h : IsS96 w0 W g f0 f1 f2) (o : Obj) : IsS96 w0 (W.alloc o) g f0 f1 f2 := h.below (below_alloc (Below.refl _ _) o)
theorem IsS96.drewN {w0 W : World} {g : Nat} {f0 : List Int} {f1 : Int} {f2 : Int} (h : IsS96 w0 W g f0 f1 f2) (m : Nat) : IsS96 w0 (W.drewN m) g f0 f1 f2 := h
theorem IsS96.drew {w0 W : World} {g : Nat} {f0 : List Int} {f1 : Int} {f2 : Int} (h : IsS96 w0 W g f0 f1 f2) : IsS96 w0 W.drew g f0 f1 f2 := h
theorem IsS96.at_ {w0 W : World} {g : Nat} {f0 : List Int} {f1 : Int} {f2 : Int} {w' : World} {m : Nat} (hq : W.drewN m = w') (h : IsS96 w0 W g f0 f1 f2) : IsS96 w0 w' g f0 f1 f2 := by subst hq; exact IsS96.drewN h m
theorem IsS96.apart {w0 W : World} {g : Nat} {f0 : List Int} {f1 : Int} {f2 : Int} {α : Type} {d : Kd α} {e : Nat} {base : Nat} {ok : Nat → Prop} {v : Value} {xs : List α} (h : IsS96 w0 W g f0 f1 f2) (ho : d.R e W base ok v xs) (ht : ∀ q, q ∈ e :: d.E → q ≠ 96) : d.R e W base (fun k => ok k ∧ k ≠ g) v xs := by
 obtain ⟨A0, c0, hb, hg, hr0⟩ := h
 exact Kd.R_types ho hb ht
theorem IsS96.own_ne {w0 W : World} {g : Nat} {f0 : List Int} {f1 : Int} {f2 : Int} {α : Type} {d : Kd α} {e : Nat} {base : Nat} {ok : Nat → Prop} {v : Value} {xs : List α} (h : IsS96 w0 W g f0 f1 f2) (ho : d.R e W base ok v xs) (ht : e ≠ 96) : some g ≠ v.ownBlock := by
 obtain ⟨A0, c0, hb, hg, hr0⟩ := h
 exact Kd.R_ne ho hb ht
theorem IsS96.apartQ {w0 W : World} {g : Nat} {f0 : List Int} {f1 : Int} {f2 : Int} {α : Type} {d : Kd α} {e : Nat} {base : Nat} {ok : Nat → Prop} {v : Value} {xs : List α} (h : IsS96 w0 W g f0 f1 f2) (ho : d.Q e W base ok v xs) (ht : ∀ q, q ∈ e :: d.E → q ≠ 96) : d.Q e W base (fun k => ok k ∧ k ≠ g) v xs := by
 obtain ⟨A0, c0, hb, hg, hr0⟩ := h
 exact Kd.Q_types ho hb ht
theorem IsS96.own_neQ {w0 W : World} {g : Nat} {f0 : List Int} {f1 : Int} {f2 : Int} {α : Type} {d : Kd α} {e : Nat} {base : Nat} {ok : Nat → Prop} {v : Value} {xs : List α} (h : IsS96 w0 W g f0 f1 f2) (ho : d.Q e W base ok v xs) (ht : e ≠ 96) : some g ≠ v.ownBlock := by
 obtain ⟨A0, c0, hb, hg, hr0⟩ := h
 exact Kd.Q_ne ho hb ht
theorem IsS96.apartS {w0 W : World} {g : Nat} {f0 : List Int} {f1 : Int} {f2 : Int} {α : Type} {d : Kd α} {e : Nat} {base : Nat} {ok : Nat → Prop} {v : Value} {xs : List α} (h : IsS96 w0 W g f0 f1 f2) (ho : d.S e W base ok v xs) (ht : ∀ q, q ∈ e :: d.E → q ≠ 96) : d.S e W base (fun k => ok k ∧ k ≠ g) v xs := by
 obtain ⟨A0, c0, hb, hg, hr0⟩ := h
 exact Kd.S_types ho hb ht
theorem IsS96.own_neS {w0 W : World} {g : Nat} {f0 : List Int} {f1 : Int} {f2 : Int} {α : Type} {d : Kd α} {e : Nat} {base : Nat} {ok : Nat → Prop} {v : Value} {xs : List α} (h : IsS96 w0 W g f0 f1 f2) (ho : d.S e W base ok v xs) (ht : e ≠ 96) : some g ≠ v.ownBlock := by
 obtain ⟨A0, c0, hb, hg, hr0⟩ := h
 exact Kd.S_ne ho hb ht
theorem IsS96.lt {w0 W : World} {g : Nat} {f0 : List Int} {f1 : Int} {f2 : Int} (h : IsS96 w0 W g f0 f1 f2) : g < W.heap.size := by
 obtain ⟨A0, c0, hb, hg, hr0⟩ := h
 exact blk_lt hb
theorem IsS96.ge {w0 W : World} {g : Nat} {f0 : List Int} {f1 : Int} {f2 : Int} (h : IsS96 w0 W g f0 f1 f2) : w0.heap.size ≤ g := by
 obtain ⟨A0, c0, hb, hg, hr0⟩ := h
 exact hg
theorem IsS96.ne_blk {w0 W : World} {g : Nat} {f0 : List Int} {f1 : Int} {f2 : Int} {a : Nat} {cs : Array Value} {t : TypeId} {fr : Nat × Nat} (h : IsS96 w0 W g f0 f1 f2) (hb2 : W.heap[a]? = some (.cells cs t fr)) (ht : t ≠ 96) : g ≠ a := by
 obtain ⟨A0, c0, hb, hg, hr0⟩ := h
 rintro rfl
 rw [hb] at hb2
 injection hb2 with hb2
 injection hb2 with _ ht2
 exact ht ht2.symm
theorem IsS96.far {w0 W : World} {g : Nat} {f0 : List Int} {f1 : Int} {f2 : Int} {p : Addr} (h : IsS96 w0 W g f0 f1 f2) (hne : g ≠ p.block) (u : Value) : IsS96 w0 (W.setCell p u) g f0 f1 f2 := by
 obtain ⟨A0, c0, hb, hg, hr0⟩ := h
 exact ⟨A0, c0, blk_far hb hne u, hg, hr0⟩
theorem cellS96_0 {W : World} {g : Nat} {A0 : Option Addr} {c0 : Nat} {f0 : List Int} {f1 : Int} {f2 : Int} (h : W.heap[g]? = some (.cells #[.slice A0 f0.length c0, .int .i64 f1, .int .i64 f2] 96 (0, 0))) : W.cell? ⟨g, 0, none⟩ = some (.slice A0 f0.length c0) := (blk_cell h 0).trans rfl
theorem cellS96_1 {W : World} {g : Nat} {A0 : Option Addr} {c0 : Nat} {f0 : List Int} {f1 : Int} {f2 : Int} (h : W.heap[g]? = some (.cells #[.slice A0 f0.length c0, .int .i64 f1, .int .i64 f2] 96 (0, 0))) : W.cell? ⟨g, 1, none⟩ = some (.int .i64 f1) := (blk_cell h 1).trans rfl
theorem IsS96.set_1 {w0 W : World} {g : Nat} {f0 : List Int} {f1 : Int} {f2 : Int} (h : IsS96 w0 W g f0 f1 f2) (x : Int) : IsS96 w0 (W.setCell ⟨g, 1, none⟩ (.int .i64 x)) g f0 x f2 := by
 obtain ⟨A0, c0, hb, hg, hr0⟩ := h
 exact ⟨A0, c0, by simpa using blk_set hb 1 (.int .i64 x), hg, hr0⟩
theorem cellS96_2 {W : World} {g : Nat} {A0 : Option Addr} {c0 : Nat} {f0 : List Int} {f1 : Int} {f2 : Int} (h : W.heap[g]? = some (.cells #[.slice A0 f0.length c0, .int .i64 f1, .int .i64 f2] 96 (0, 0))) : W.cell? ⟨g, 2, none⟩ = some (.int .i64 f2) := (blk_cell h 2).trans rfl
theorem IsS96.set_2 {w0 W : World} {g : Nat} {f0 : List Int} {f1 : Int} {f2 : Int} (h : IsS96 w0 W g f0 f1 f2) (x : Int) : IsS96 w0 (W.setCell ⟨g, 2, none⟩ (.int .i64 x)) g f0 f1 x := by
 obtain ⟨A0, c0, hb, hg, hr0⟩ := h
 exact ⟨A0, c0, by simpa using blk_set hb 2 (.int .i64 x), hg, hr0⟩
theorem IsS96.new (w0 W : World) (A0 : Option Addr) (c0 : Nat) (f0 : List Int) (f1 : Int) (f2 : Int) (hB : Below w0.heap.size w0 W) (hr0 : Kd.C (Kd.int .u8) w0 A0 f0.length f0) : IsS96 w0 (W.alloc (.cells #[.slice A0 f0.length c0, .int .i64 f1, .int .i64 f2] 96)) W.heap.size f0 f1 f2 := ⟨A0, c0, by simpa using heap_alloc_new W _, hB.size, hr0⟩

/-! ### spec_l01Next: function 96, by hand -/
/-- the next number: what is told holds where the source's own numbers are in range -/
def spec_l01Next.f (c : List Int) (i : Int) (s : Int) (n : Int) : Option (Int × Int × Int) :=
 if n ≤ 1 then some (0, i, s)
 else if 0 ≤ s ∧ s < 2147483647 ∧ 0 ≤ i ∧ i ≤ 4611686018427387904 ∧ 0 ≤ rd c i ∧ rd c i ≤ 255 then
  (if i < (c.length : Int) then
   (if n ≤ 256 ∧ (i + 1) % 2 = 0 then some (rd c i % n, i + 1, (s * 48271 + 29) % 2147483647)
    else some (((s * 48271 + 29) % 2147483647 / 31 + rd c i) % n, i + 1, (s * 48271 + 29) % 2147483647))
   else some ((s * 48271 + 29) % 2147483647 / 31 % n, i, (s * 48271 + 29) % 2147483647))
 else none
set_option maxHeartbeats 4000000 in
set_option maxRecDepth 100000 in
theorem spec_l01Next.calls (g : Nat) (s0_0 : List Int) (s0_1 : Int) (s0_2 : Int) (a1 : Int) (r1 : Int) (r2 : Int) (r3 : Int) (w0 w : World) (hI : IsS96 w0 w g s0_0 s0_1 s0_2) (hB : Below w0.heap.size w0 w) (h : spec_l01Next.f s0_0 s0_1 s0_2 a1 = some (r1, r2, r3)) :
  Calls Try.prog 96 #[.pointer (some ⟨g, 0, none⟩), .int .i64 a1] w fun e w' => e = .returned (.int .i64 r1) ∧ IsS96 w0 w' g s0_0 r2 r3 ∧ Below w0.heap.size w0 w' ∧ KeepBut w w' g none := by
 have HI0 := Aside0.mk hI
 have HK := Aside0.mk (KeepBut.refl w g none)
 have HL := Aside0.mk hB.size
 have HB := Aside0.mk hB
 obtain ⟨A, c0, hblk, hg, hC⟩ := hI
 have HBK := Aside0.mk hblk
 have HG := Aside0.mk hg
 have HC := Aside0.mk hC
 have x0 : w.cell? ⟨g, 0, none⟩ = some (.slice A s0_0.length c0) := (blk_cell hblk 0).trans rfl
 have x1 : w.cell? ⟨g, 1, none⟩ = some (.int .i64 s0_1) := (blk_cell hblk 1).trans rfl
 have x2 : w.cell? ⟨g, 2, none⟩ = some (.int .i64 s0_2) := (blk_cell hblk 2).trans rfl
 have f0 := blk_frozen hblk 0
 have f1 := blk_frozen hblk 1
 have f2 := blk_frozen hblk 2
 clear hblk hg hC hB
 unfold spec_l01Next.f at h
 by_cases c1 : a1 ≤ 1
 ·rw [if_pos c1] at h
  simp only [Option.some.injEq, Prod.mk.injEq] at h
  obtain ⟨rfl, rfl, rfl⟩ := h
  go_enter Try.func96, Try.ntmps96
  go_wp2
  go_ret
  exact ⟨rfl, HI0.out, HB.out, HK.out⟩
 rw [if_neg c1] at h
 have z1 : (a1 == 0) = false := beq_eq_false_iff_ne.mpr (by omega)
 have z2 : 1 < a1 := by omega
 by_cases c2 : 0 ≤ s0_2 ∧ s0_2 < 2147483647 ∧ 0 ≤ s0_1 ∧ s0_1 ≤ 4611686018427387904 ∧ 0 ≤ rd s0_0 s0_1 ∧ rd s0_0 s0_1 ≤ 255
 ·rw [if_pos c2] at h
  obtain ⟨b1, b2, b3, b4, b5, b6⟩ := c2
  by_cases c3 : s0_1 < (s0_0.length : Int)
  ·rw [if_pos c3] at h
   obtain ⟨ad, e1, hx⟩ := Kd.at_int HC.out s0_1 b3 c3
   cases e1
   have hlt : ad.block < w0.heap.size := by
    have := World.block_lt_of_cell? w0 _ hx
    rwa [add_block] at this
   have hne : (ad.add s0_1.toNat).block ≠ g := by rw [add_block]; have := HG.out; omega
   replace hx := (HB.out.cell (World.block_lt_of_cell? w0 _ hx)).trans hx
   have hx1 : ∀ u, (w.setCell ⟨g, 2, none⟩ u).cell? (ad.add s0_1.toNat) = some (.int .u8 (rd s0_0 s0_1)) := fun u => (cell_far (p := ⟨g, 2, none⟩) hne u).trans hx
   have hx2 : ∀ u n v, (((w.setCell ⟨g, 2, none⟩ u).drewN n).setCell ⟨g, 1, none⟩ v).cell? (ad.add s0_1.toNat) = some (.int .u8 (rd s0_0 s0_1)) := fun u n v => (cell_far (p := ⟨g, 1, none⟩) hne v).trans (hx1 u)
   have q1 : decide (s0_1 < (s0_0.length : Int)) = true := decide_eq_true c3
   clear hlt hne
   by_cases c4 : a1 ≤ 256 ∧ (s0_1 + 1) % 2 = 0
   ·rw [if_pos c4] at h
    simp only [Option.some.injEq, Prod.mk.injEq] at h
    obtain ⟨rfl, rfl, rfl⟩ := h
    obtain ⟨c5, c6⟩ := c4
    have q2 : ((s0_1 + 1) % 2 == 0) = true := beq_iff_eq.mpr c6
    clear c6
    go_enter Try.func96, Try.ntmps96
    go_wp2
    go_quiet (fail)
    go_wp2
    go_quiet (fail)
    go_wp2
    go_quiet (fail)
    go_wp2
    go_ret
    refine ⟨rfl, by repeat (first | (with_reducible first | exact HI0.out | apply IsS96.drewN | refine IsS96.set_1 (f1 := s0_1) ?_ _ | refine IsS96.set_2 (f2 := s0_2) ?_ _) | exact HI0.out), by repeat (first | (with_reducible first | exact HB.out | apply pw_below_drewN | refine below_set ?_ HG.out) | exact HB.out), by repeat (first | (with_reducible first | exact HK.out | apply keep_drewN | refine KeepBut.set_ ?_ _ _) | exact HK.out)⟩
   ·rw [if_neg c4] at h
    simp only [Option.some.injEq, Prod.mk.injEq] at h
    obtain ⟨rfl, rfl, rfl⟩ := h
    by_cases c5 : a1 ≤ 256
    ·have c6 : ¬ (s0_1 + 1) % 2 = 0 := fun z => c4 ⟨c5, z⟩
     have q2 : ((s0_1 + 1) % 2 == 0) = false := beq_eq_false_iff_ne.mpr c6
     clear c6 c4
     go_enter Try.func96, Try.ntmps96
     go_wp2
     repeat (go_quiet (fail); try go_wp2)
     try go_wp2
     go_ret
     refine ⟨rfl, by repeat (first | (with_reducible first | exact HI0.out | apply IsS96.drewN | refine IsS96.set_1 (f1 := s0_1) ?_ _ | refine IsS96.set_2 (f2 := s0_2) ?_ _) | exact HI0.out), by repeat (first | (with_reducible first | exact HB.out | apply pw_below_drewN | refine below_set ?_ HG.out) | exact HB.out), by repeat (first | (with_reducible first | exact HK.out | apply keep_drewN | refine KeepBut.set_ ?_ _ _) | exact HK.out)⟩
    ·have q3 : decide (a1 ≤ 256) = false := decide_eq_false c5
     clear c4
     go_enter Try.func96, Try.ntmps96
     go_wp2
     repeat (go_quiet (fail); try go_wp2)
     try go_wp2
     go_ret
     refine ⟨rfl, by repeat (first | (with_reducible first | exact HI0.out | apply IsS96.drewN | refine IsS96.set_1 (f1 := s0_1) ?_ _ | refine IsS96.set_2 (f2 := s0_2) ?_ _) | exact HI0.out), by repeat (first | (with_reducible first | exact HB.out | apply pw_below_drewN | refine below_set ?_ HG.out) | exact HB.out), by repeat (first | (with_reducible first | exact HK.out | apply keep_drewN | refine KeepBut.set_ ?_ _ _) | exact HK.out)⟩
  ·rw [if_neg c3] at h
   simp only [Option.some.injEq, Prod.mk.injEq] at h
   obtain ⟨rfl, rfl, rfl⟩ := h
   have q1 : decide (s0_1 < (s0_0.length : Int)) = false := decide_eq_false c3
   go_enter Try.func96, Try.ntmps96
   go_wp2
   repeat (go_quiet (fail); try go_wp2)
   try go_wp2
   go_ret
   refine ⟨rfl, by repeat (first | (with_reducible first | exact HI0.out | apply IsS96.drewN | refine IsS96.set_1 (f1 := s0_1) ?_ _ | refine IsS96.set_2 (f2 := s0_2) ?_ _) | exact HI0.out), by repeat (first | (with_reducible first | exact HB.out | apply pw_below_drewN | refine below_set ?_ HG.out) | exact HB.out), by repeat (first | (with_reducible first | exact HK.out | apply keep_drewN | refine KeepBut.set_ ?_ _ _) | exact HK.out)⟩
 ·rw [if_neg c2] at h; cases h

/-! ### spec_l02DrawPoly: function 110 -/
def spec_l02DrawPoly.l0 : Nat → List (S57) → Int → List Int → Int → Int → Option ((List (S57)) × Int × Int)
 | 0, _, _, _, _, _ => none
 | k + 1, x5, x6, x1000, x1001, x1002 => if x6 > 0 then ((spec_l02Neighbours.f k x5).bind fun t379 => ((spec_l01Next.f x1000 x1001 x1002 (t379.length : Int)).bind fun bt382 => (if 0 ≤ bt382.1 then (if bt382.1 < (t379.length : Int) then ((spec_l02Insert.f k x5 ((rd_T57 t379 bt382.1).f0) ((rd_T57 t379 bt382.1).f1)).bind fun t386 => (spec_l02DrawPoly.l0 k t386 (wrap64 (x6 - 1)) x1000 bt382.2.1 bt382.2.2)) else (none)) else (none)))) else ((spec_l02Normal.f k x5).bind fun t389 => (some (t389, x1001, x1002)))
def spec_l02DrawPoly.f (k : Nat) (s0_0 : List Int) (s0_1 : Int) (s0_2 : Int) (a1 : Int) : Option ((List (S57)) × Int × Int) := (spec_l01Next.f s0_0 s0_1 s0_2 a1).bind fun bt376 => (spec_l02DrawPoly.l0 k (([(⟨0, 0⟩ : S57)] : List (S57))) bt376.1 s0_0 bt376.2.1 bt376.2.2)
theorem spec_l02DrawPoly.mono_l : ∀ k, (∀ y0 y1 y2 y3 y4, LeO (spec_l02DrawPoly.l0 k y0 y1 y2 y3 y4) (spec_l02DrawPoly.l0 (k + 1) y0 y1 y2 y3 y4))
 | 0 => fun _ _ _ _ _ r h => by simp [spec_l02DrawPoly.l0] at h
 | k + 1 => by
  have ih0 := spec_l02DrawPoly.mono_l k
  ·intro y0 y1 y2 y3 y4
   unfold spec_l02DrawPoly.l0
   repeat' first
   | (with_reducible exact ih0 _ _ _ _ _)
   | (with_reducible exact spec_l02Insert.mono _ _ _ _)
   | (with_reducible exact spec_l02Neighbours.mono _ _)
   | (with_reducible exact spec_l02Normal.mono _ _)
   | (with_reducible exact LeO.refl _)
   | (with_reducible exact LeO.none _)
   | (with_reducible refine LeO.ite ?_ ?_)
   | (with_reducible refine LeO.bind ?_ (fun _ => ?_))
   | exact ih0 _ _ _ _ _
   | exact spec_l02Insert.mono _ _ _ _
   | exact spec_l02Neighbours.mono _ _
   | exact spec_l02Normal.mono _ _
   | exact LeO.none _
   | refine LeO.ite ?_ ?_
   | refine LeO.bind ?_ (fun _ => ?_)
theorem spec_l02DrawPoly.mono : ∀ a0 a1 a2 a3 k, LeO (spec_l02DrawPoly.f k a0 a1 a2 a3) (spec_l02DrawPoly.f (k + 1) a0 a1 a2 a3) := by
 intro a0 a1 a2 a3 k
 have ih0 := spec_l02DrawPoly.mono_l k
 unfold spec_l02DrawPoly.f
 repeat' first
   | (with_reducible exact ih0 _ _ _ _ _)
   | (with_reducible exact spec_l02Insert.mono _ _ _ _)
   | (with_reducible exact spec_l02Neighbours.mono _ _)
   | (with_reducible exact spec_l02Normal.mono _ _)
   | (with_reducible exact LeO.refl _)
   | (with_reducible exact LeO.none _)
   | (with_reducible refine LeO.ite ?_ ?_)
   | (with_reducible refine LeO.bind ?_ (fun _ => ?_))
   | exact ih0 _ _ _ _ _
   | exact spec_l02Insert.mono _ _ _ _
   | exact spec_l02Neighbours.mono _ _
   | exact spec_l02Normal.mono _ _
   | exact LeO.none _
   | refine LeO.ite ?_ ?_
   | refine LeO.bind ?_ (fun _ => ?_)
set_option maxHeartbeats 8000000 in
set_option maxRecDepth 100000 in
theorem spec_l02DrawPoly.calls (k : Nat) (g : Nat) (s0_0 : List Int) (s0_1 : Int) (s0_2 : Int) (a1 : Int) (r1 : List (S57)) (r2 : Int) (r3 : Int) (w0 w : World) (hI : IsS96 w0 w g s0_0 s0_1 s0_2) (hB : Below w0.heap.size w0 w) (h : spec_l02DrawPoly.f k s0_0 s0_1 s0_2 a1 = some (r1, r2, r3)) :
  Calls Try.prog 110 #[.pointer (some ⟨g, 0, none⟩), .int .i64 a1] w fun e w' => ∃ v0_ : Value, e = .returned (v0_) ∧ Kd.R k57 57 w' w.heap.size (fun _ => True) v0_ r1 ∧ IsS96 w0 w' g s0_0 r2 r3 ∧ Below w0.heap.size w0 w' ∧ KeepBut w w' g none := by
 have hu57 := Try.underlying57
 have HI0 := Aside0.mk hI
 have HK := Aside0.mk (KeepBut.refl w g none)
 have HL := Aside0.mk hB.size
 clear hI
 have HW0 := Aside0.mk hB.size
 have HB := Aside0.mk hB
 clear hB
 have H : ((spec_l01Next.f s0_0 s0_1 s0_2 a1).bind fun bt376 => (spec_l02DrawPoly.l0 k (([(⟨0, 0⟩ : S57)] : List (S57))) bt376.1 s0_0 bt376.2.1 bt376.2.2)) = some (r1, r2, r3) := h
 clear h
 obtain ⟨y373, hY_⟩ : ∃ y_ : List (S57), y_ = (([(⟨0, 0⟩ : S57)] : List (S57))) := ⟨_, rfl⟩
 replace H : ((spec_l01Next.f s0_0 s0_1 s0_2 a1).bind fun bt376 => (spec_l02DrawPoly.l0 k y373 bt376.1 s0_0 bt376.2.1 bt376.2.2)) = some (r1, r2, r3) := yY_
 have Ny373 := Aside0.mk hY_
 clear hY_
 replace H := Option.bind_eq_some_iff.mp H
 obtain ⟨⟨t376, t377, t378⟩, A30, H⟩ := H
 try dsimp only at H
 have A3 := Aside0.mk A30
 clear A30
 have H' := Aside0.mk H
 clear H
 go_enter Try.func110, Try.ntmps110
 go_wp2_with (first | ((with_reducible refine gate_dst (N := 9) rfl ?_); refine Kd.R_lit k57 _ 57 ?hg (N := 9) ?hd (xs := ([(⟨0, 0⟩ : S57)] : List (S57))) (inner := [.int .i64 0, .int .i64 0]) (ok := fun _ => True) (okp := fun _ => True) ?hr ?hp (fun _ hk => hk) trivial (Below.refl _ _) (Nat.le_refl _) (by simp) ?_; (case hd => rfl); (case hg => rfl); (case hr => first | (go_simp; done) | (go_simp; rfl)); (case hp => exact (Reps.c2 (show Kd.M k57 _ _ _ (⟨0, 0⟩ : S57) [.int .i64 0, .int .i64 0] from (k57_mkM _ _ _ (⟨0, 0⟩ : S57) )) (Reps.none _ _))); intro v374 w4 ho5 hb hg_ hnew_; clear hg_ hnew_; (first | rw [← Ny373.out] at ho5 | (simp only [Int.reduceToNat] at ho5; rw [← Ny373.out] at ho5)); have HO375 := Aside0.mk (Kd.R_lower ho5 (keep_size (w := w) (g := g) (row := none) kK_)); replace HK := Aside0.mk (KeepBut.trans kK_ (KeepBut.of_below hb g none) (.inl rfl)); replace HB := Aside0.mk (below_step bS96_ hb); replace HI0 := Aside0.mk (IsS96.below iS96_ hb); clear hb ho5) | ((with_reducible refine gate_callee (f := 96) rfl ?_); refine gL_ (some 12) Try.func96 #[.pointer (some ⟨g, 0, none⟩), .int .i64 a1] ?_; (with_reducible refine (spec_l01Next.calls g s0_0 s0_1 s0_2 a1 t376 t377 t378 w0 _ ?side1 ?side2 A3.out).mono ?_); (case side1 => exact iS96_); (case side2 => exact bS96_); rintro e w6 ⟨rfl, hi, hb, hk⟩; refine ⟨_, rfl, ?_⟩; replace HO375 := Aside0.mk (Kd.R_mono (Kd.R_keep (IsS96.apart (show IsS96 w0 _ g s0_0 s0_1 s0_2 from iS96_) (rS_ HO375.out) (by decide)) hk (fun _ h => h.2)) (fun _ h => h.1)); replace HK := Aside0.mk (KeepBut.trans kK_ hk (.inl rfl)); replace HB := Aside0.mk (hb); replace HI0 := Aside0.mk (hi); (try clear hb hk hi)))
 go_loopg [5, 6] k (fun kq v5 v6 w' => ∃ (x5_1 : List (S57)) (x6_1 : Int) (x1001_1 : Int) (x1002_1 : Int), v6 = .int .i64 x6_1 ∧ Aside0 (spec_l02DrawPoly.l0 kq x5_1 x6_1 s0_0 x1001_1 x1002_1 = some (r1, r2, r3)) ∧ Aside0 (kq ≤ k) ∧ Aside0 (Kd.R k57 57 w' w.heap.size (fun _ => True) v5 x5_1) ∧ Aside0 (IsS96 w0 w' g s0_0 x1001_1 x1002_1) ∧ Aside0 (KeepBut w w' g none) ∧ Aside0 (Below w0.heap.size w0 w'))
 case atStart => exact ⟨(y373), (t376), (t377), (t378), r3_, H', ⟨Nat.le_refl _⟩, ⟨rS_ HO375.out⟩, ⟨iS96_⟩, ⟨kK_⟩, ⟨bS96_⟩⟩
 case round =>
  clear H'
  try clear c1
  try clear c2
  try clear p2
  obtain ⟨x5_1, x6_1, x1001_1, x1002_1, rfl, HA, HK1, HO_5, HI0, HK, HB⟩ := hrel
  cases gk with
  | zero => exact absurd HA.out (by simp [spec_l02DrawPoly.l0])
  | succ k1 =>
   have H := HA.out
   clear HA
   simp only [spec_l02DrawPoly.l0] at H
   by_cases c7 : x6_1 > 0
   ·rw [if_pos c7] at H
    have c7b0 : decide (0 < x6_1) = true := decide_eq_true c7
    clear c7
    replace H := Option.bind_eq_some_iff.mp H
    obtain ⟨t379, A80, H⟩ := H
    try dsimp only at H
    have A8 := Aside0.mk A80
    clear A80
    replace H := Option.bind_eq_some_iff.mp H
    obtain ⟨⟨t382, t383, t384⟩, A90, H⟩ := H
    try dsimp only at H
    have A9 := Aside0.mk A90
    clear A90
    by_cases c10 : 0 ≤ t382
    ·rw [if_pos c10] at H
     have c10b0 : decide (0 ≤ t382) = true := decide_eq_true c10
     clear c10
     by_cases c11 : t382 < (t379.length : Int)
     ·rw [if_pos c11] at H
      have c11b0 : decide (t382 < (t379.length : Int)) = true := decide_eq_true c11
      clear c11
      replace H := Option.bind_eq_some_iff.mp H
      obtain ⟨t386, A120, H⟩ := H
      try dsimp only at H
      have A12 := Aside0.mk A120
      clear A120
      have H' := Aside0.mk H
      clear H
      obtain ⟨Ao13, co13, eo13⟩ := Kd.R_slice HO_5.out
      subst eo13
      go_wp2_with (first | ((with_reducible refine gate_callee (f := 88) rfl ?_); refine gL_ (some 18) Try.func88 #[.slice Ao13 x5_1.length co13] ?_; (with_reducible refine (spec_l02Neighbours.calls k1 _ _ x5_1 t379 _ ?side1 ?side2 A8.out).mono ?_); (case side1 => exact cS_ ((Kd.R_reads' HO_5.out).2.2)); (case side2 => exact (Kd.R_reads' HO_5.out).2.1); rintro e w14 ⟨v380, rfl, ho0, hb⟩; refine ⟨_, rfl, ?_⟩; have HO381 := Aside0.mk (Kd.R_lower (Kd.R_new' ho0 (Kd.R_lt (rS_ HO_5.out))) (keep_size (w := w) (g := g) (row := none) kK_)); replace HO_5 := Aside0.mk (Kd.R_elder' (rS_ HO_5.out) (Kd.R_base ho0) hb); replace HK := Aside0.mk (KeepBut.trans kK_ (KeepBut.of_below hb g none) (.inl rfl)); replace HB := Aside0.mk (below_step bS96_ hb); replace HI0 := Aside0.mk (IsS96.below iS96_ hb); (try clear hb ho0); obtain ⟨Ao15, co15, eo15⟩ := Kd.R_slice HO381.out; subst eo15) | ((with_reducible refine gate_callee (f := 96) rfl ?_); refine gL_ (some 24) Try.func96 #[.pointer (some ⟨g, 0, none⟩), .int .i64 (t379.length : Int)] ?_; (with_reducible refine (spec_l01Next.calls g s0_0 x1001_1 x1002_1 (t379.length : Int) t382 t383 t384 w0 _ ?side1 ?side2 A9.out).mono ?_); (case side1 => exact iS96_); (case side2 => exact bS96_); rintro e w16 ⟨rfl, hi, hb, hk⟩; refine ⟨_, rfl, ?_⟩; replace HO_5 := Aside0.mk (Kd.R_mono (Kd.R_keep (IsS96.apart (show IsS96 w0 _ g s0_0 x1001_1 x1002_1 from iS96_) (rS_ HO_5.out) (by decide)) hk (fun _ h => h.2)) (fun _ h => h.1)); replace HO381 := Aside0.mk (Kd.R_mono (Kd.R_keep (IsS96.apart (show IsS96 w0 _ g s0_0 x1001_1 x1002_1 from iS96_) (rS_ HO381.out) (by decide)) hk (fun _ h => h.2)) (fun _ h => h.1)); replace HK := Aside0.mk (KeepBut.trans kK_ hk (.inl rfl)); replace HB := Aside0.mk (hb); replace HI0 := Aside0.mk (hi); (try clear hb hk hi); have p385 : 0 ≤ (t382 : Int) := of_decide_eq_true aS_; have q385 : t382 < (t379.length : Int) := of_decide_eq_true aS_; obtain ⟨ad385, e385, hx385_0, hx385_1⟩ := at_T57 (Kd.R_reads' HO381.out).2.2 t382 p385 q385; cases e385; replace p385 := eq_true p385; replace q385 := eq_true q385) | ((with_reducible refine gate_callee (f := 115) rfl ?_); refine gL_ (some 27) Try.func115 #[.slice Ao13 x5_1.length co13, .agg #[.int .i64 ((rd_T57 t379 t382).f0), .int .i64 ((rd_T57 t379 t382).f1)]] ?_; (with_reducible refine (spec_l02Insert.calls k1 _ _ x5_1 ((rd_T57 t379 t382).f0) ((rd_T57 t379 t382).f1) t386 _ ?side1 ?side2 A12.out).mono ?_); (case side1 => exact cS_ ((Kd.R_reads' HO_5.out).2.2)); (case side2 => exact (Kd.R_reads' HO_5.out).2.1); rintro e w17 ⟨v387, rfl, ho0, hb⟩; refine ⟨_, rfl, ?_⟩; have HO388 := Aside0.mk (Kd.R_lower (Kd.R_new' (Kd.R_new' ho0 (Kd.R_lt (rS_ HO_5.out))) (Kd.R_lt (rS_ HO381.out))) (keep_size (w := w) (g := g) (row := none) kK_)); replace HO_5 := Aside0.mk (Kd.R_elder' (rS_ HO_5.out) (Kd.R_base ho0) hb); replace HO381 := Aside0.mk (Kd.R_elder' (rS_ HO381.out) (Kd.R_base ho0) hb); replace HK := Aside0.mk (KeepBut.trans kK_ (KeepBut.of_below hb g none) (.inl rfl)); replace HB := Aside0.mk (below_step bS96_ hb); replace HI0 := Aside0.mk (IsS96.below iS96_ hb); (try clear hb ho0)))
      go_roundg k1
      case measure => have := HK1.out; omega
      case rel => exact ⟨(t386), (wrap64 (x6_1 - 1)), (t383), (t384), r3_, H', ⟨by have := HK1.out; omega⟩, ⟨rS_ (Kd.R_mono HO388.out (fun _ hk => trivial))⟩, ⟨iS96_⟩, ⟨kK_⟩, ⟨bS96_⟩⟩
     ·rw [if_neg c11] at H
      exact absurd H (by simp)
    ·rw [if_neg c10] at H
     exact absurd H (by simp)
   ·rw [if_neg c7] at H
    have c7b0 : decide (0 < x6_1) = false := decide_eq_false c7
    clear c7
    replace H := Option.bind_eq_some_iff.mp H
    obtain ⟨t389, A180, H⟩ := H
    try dsimp only at H
    have A18 := Aside0.mk A180
    clear A180
    simp only [Option.some.injEq, Prod.mk.injEq] at H
    obtain ⟨rfl, rfl, rfl⟩ := H
    obtain ⟨Ao19, co19, eo19⟩ := Kd.R_slice HO_5.out
    subst eo19
    go_wp2_with (first | ((with_reducible refine gate_callee (f := 105) rfl ?_); refine gL_ (some 29) Try.func105 #[.slice Ao19 x5_1.length co19] ?_; (with_reducible refine (spec_l02Normal.calls k1 _ _ x5_1 t389 _ ?side1 ?side2 A18.out).mono ?_); (case side1 => exact cS_ ((Kd.R_reads' HO_5.out).2.2)); (case side2 => exact (Kd.R_reads' HO_5.out).2.1); rintro e w20 ⟨v390, rfl, ho0, hb⟩; refine ⟨_, rfl, ?_⟩; have HO391 := Aside0.mk (Kd.R_lower (Kd.R_new' ho0 (Kd.R_lt (rS_ HO_5.out))) (keep_size (w := w) (g := g) (row := none) kK_)); replace HO_5 := Aside0.mk (Kd.R_elder' (rS_ HO_5.out) (Kd.R_base ho0) hb); replace HK := Aside0.mk (KeepBut.trans kK_ (KeepBut.of_below hb g none) (.inl rfl)); replace HB := Aside0.mk (below_step bS96_ hb); replace HI0 := Aside0.mk (IsS96.below iS96_ hb); (try clear hb ho0)))
    go_ret
    exact ⟨_, r2_, rS_ (Kd.R_mono HO391.out (fun _ hk => trivial)), iS96_, bS96_, kK_⟩

/-! ### spec_l02Draw: function 76 -/
def spec_l02Draw.l0 : Nat → List (S57) → Int → List Int → Int → Int → Option ((List (S57)) × Int × Int)
 | 0, _, _, _, _, _ => none
 | k + 1, x5, x6, x1000, x1001, x1002 => (spec_l01Next.f x1000 x1001 x1002 2).bind fun bt430 => (if x6 < (wrap64 (40 + bt430.1)) then (if x5.length < 8796093022208 then (spec_l02Draw.l0 k (x5 ++ [(⟨x6, 0⟩ : S57)]) (wrap64 (x6 + 1)) x1000 bt430.2.1 bt430.2.2) else (none)) else (some (x5, bt430.2.1, bt430.2.2)))
def spec_l02Draw.f (k : Nat) (s0_0 : List Int) (s0_1 : Int) (s0_2 : Int) : Option ((List (S57)) × Int × Int) := (spec_l02DrawPoly.f k s0_0 s0_1 s0_2 8).bind fun bt392 => ((spec_l01Next.f s0_0 bt392.2.1 bt392.2.2 9).bind fun bt397 => ((spec_l01Next.f s0_0 bt397.2.1 bt397.2.2 9).bind fun bt400 => ((spec_l02Move.f k bt392.1 (wrap64 (bt397.1 - 4)) (wrap64 (bt400.1 - 4))).bind fun t403 => ((spec_l01Next.f s0_0 bt400.2.1 bt400.2.2 (t403.length : Int)).bind fun bt406 => ((spec_l01Next.f s0_0 bt406.2.1 bt406.2.2 24).bind fun bt409 => (if bt409.1 = 0 then ((some (([(-100), 100, 101] : List Int) : List Int)).bind fun y412 => ((spec_l01Next.f s0_0 bt409.2.1 bt409.2.2 3).bind fun bt415 => (if 0 ≤ bt415.1 then (if bt415.1 < (y412.length : Int) then (if 0 ≤ bt406.1 then (if bt406.1 < (t403.length : Int) then ((spec_l02Sort.f k (t403.set (bt406.1 : Int).toNat (⟨rd y412 bt415.1, (rd_T57 t403 bt406.1).f1⟩ : S57))).bind fun t420 => (some (t420, bt415.2.1, bt415.2.2))) else (none)) else (none)) else (none)) else (none)))) else (if bt409.1 = 1 then (if 0 ≤ bt406.1 then (if bt406.1 < (t403.length : Int) then (if t403.length < 8796093022208 then (some ((t403 ++ [(⟨(rd_T57 t403 bt406.1).f0, (rd_T57 t403 bt406.1).f1⟩ : S57)]), bt409.2.1, bt409.2.2)) else (none)) else (none)) else (none)) else (if bt409.1 = 2 then (some (([] : List (S57)), bt409.2.1, bt409.2.2)) else (if bt409.1 = 3 then (spec_l02Draw.l0 k (([] : List (S57))) 0 s0_0 bt409.2.1 bt409.2.2) else (if bt409.1 = 4 then (if 0 < (t403.length : Int) then (if 0 ≤ (wrap64 ((t403.length : Int) - 1)) then (if (wrap64 ((t403.length : Int) - 1)) < (t403.length : Int) then (if t403.length < 8796093022208 then (some ((t403 ++ [(⟨wrap64 (((rd_T57 t403 0).f0) + 3), wrap64 (((rd_T57 t403 (wrap64 ((t403.length : Int) - 1))).f1) + 2)⟩ : S57)]), bt409.2.1, bt409.2.2)) else (none)) else (none)) else (none)) else (none)) else (if bt409.1 = 5 then (if 0 < (t403.length : Int) then (if 0 ≤ (wrap64 ((t403.length : Int) - 1)) then (if (wrap64 ((t403.length : Int) - 1)) < (t403.length : Int) then (if t403.length < 8796093022208 then (some ((t403 ++ [(⟨wrap64 (((rd_T57 t403 0).f0) + 3), wrap64 (((rd_T57 t403 (wrap64 ((t403.length : Int) - 1))).f1) + 2)⟩ : S57)]), bt409.2.1, bt409.2.2)) else (none)) else (none)) else (none)) else (none)) else (some (t403, bt409.2.1, bt409.2.2)))))))))))))
theorem spec_l02Draw.mono_l : ∀ k, (∀ y0 y1 y2 y3 y4, LeO (spec_l02Draw.l0 k y0 y1 y2 y3 y4) (spec_l02Draw.l0 (k + 1) y0 y1 y2 y3 y4))
 | 0 => fun _ _ _ _ _ r h => by simp [spec_l02Draw.l0] at h
 | k + 1 => by
  have ih0 := spec_l02Draw.mono_l k
  ·intro y0 y1 y2 y3 y4
   unfold spec_l02Draw.l0
   repeat' first
   | (with_reducible exact ih0 _ _ _ _ _)
   | (with_reducible exact spec_l02DrawPoly.mono _ _ _ _ _)
   | (with_reducible exact spec_l02Move.mono _ _ _ _)
   | (with_reducible exact spec_l02Sort.mono _ _)
   | (with_reducible exact LeO.refl _)
   | (with_reducible exact LeO.none _)
   | (with_reducible refine LeO.ite ?_ ?_)
   | (with_reducible refine LeO.bind ?_ (fun _ => ?_))
   | exact ih0 _ _ _ _ _
   | exact spec_l02DrawPoly.mono _ _ _ _ _
   | exact spec_l02Move.mono _ _ _ _
   | exact spec_l02Sort.mono _ _
   | exact LeO.none _
   | refine LeO.ite ?_ ?_
   | refine LeO.bind ?_ (fun _ => ?_)
theorem spec_l02Draw.mono : ∀ a0 a1 a2 k, LeO (spec_l02Draw.f k a0 a1 a2) (spec_l02Draw.f (k + 1) a0 a1 a2) := by
 intro a0 a1 a2 k
 have ih0 := spec_l02Draw.mono_l k
 unfold spec_l02Draw.f
 repeat' first
   | (with_reducible exact ih0 _ _ _ _ _)
   | (with_reducible exact spec_l02DrawPoly.mono _ _ _ _ _)
   | (with_reducible exact spec_l02Move.mono _ _ _ _)
   | (with_reducible exact spec_l02Sort.mono _ _)
   | (with_reducible exact LeO.refl _)
   | (with_reducible exact LeO.none _)
   | (with_reducible refine LeO.ite ?_ ?_)
   | (with_reducible refine LeO.bind ?_ (fun _ => ?_))
   | exact ih0 _ _ _ _ _
   | exact spec_l02DrawPoly.mono _ _ _ _ _
   | exact spec_l02Move.mono _ _ _ _
   | exact spec_l02Sort.mono _ _
   | exact LeO.none _
   | refine LeO.ite ?_ ?_
   | refine LeO.bind ?_ (fun _ => ?_)
def spec_l02Draw.T20 : Bool × List (List Nat × List Nat) := (true, [([], []), ([], []), ([1], [1]), ([2], [2]), ([3], [3]), ([4], [4]), ([], []), ([], []), ([7], [7]), ([8], [8]), ([6, 9], [6, 9]), ([10], [10]), ([11], [11]), ([12], [12]), ([5, 13], [5, 13]), ([14], [14]), ([0, 15], [0, 15]), ([16, 16, 0, 1, 2, 3, 4, 5, 6, 7, 8, 9, 10, 11, 12, 13, 14, 15, 16], [16])])
def spec_l02Draw.B20 : List Nat := [0, 0, 2, 6, 14, 30, 0, 0, 128, 384, 960, 1984, 4032, 8128, 16382, 32766, 65535, 131071]
theorem spec_l02Draw.tab20 : rtab .any (opsOf Try.f76 20) = spec_l02Draw.T20 := by kernel_rfl
theorem spec_l02Draw.bits20 : waitsOk spec_l02Draw.T20.2 spec_l02Draw.B20 = true := by kernel_rfl
set_option maxHeartbeats 8000000 in
set_option maxRecDepth 100000 in
theorem spec_l02Draw.calls (k : Nat) (g : Nat) (s0_0 : List Int) (s0_1 : Int) (s0_2 : Int) (r1 : List (S57)) (r2 : Int) (r3 : Int) (w0 w : World) (hI : IsS96 w0 w g s0_0 s0_1 s0_2) (hB : Below w0.heap.size w0 w) (h : spec_l02Draw.f k s0_0 s0_1 s0_2 = some (r1, r2, r3)) :
  Calls Try.prog 76 #[.pointer (some ⟨g, 0, none⟩)] w fun e w' => ∃ v0_ : Value, e = .returned (v0_) ∧ Kd.R k57 57 w' w.heap.size (fun _ => True) v0_ r1 ∧ IsS96 w0 w' g s0_0 r2 r3 ∧ Below w0.heap.size w0 w' ∧ KeepBut w w' g none := by
 have hu57 := Try.underlying57
 have HI0 := Aside0.mk hI
 have HK := Aside0.mk (KeepBut.refl w g none)
 have HL := Aside0.mk hB.size
 clear hI
 have HW0 := Aside0.mk hB.size
 have HB := Aside0.mk hB
 clear hB
 have H : ((spec_l02DrawPoly.f k s0_0 s0_1 s0_2 8).bind fun bt392 => ((spec_l01Next.f s0_0 bt392.2.1 bt392.2.2 9).bind fun bt397 => ((spec_l01Next.f s0_0 bt397.2.1 bt397.2.2 9).bind fun bt400 => ((spec_l02Move.f k bt392.1 (wrap64 (bt397.1 - 4)) (wrap64 (bt400.1 - 4))).bind fun t403 => ((spec_l01Next.f s0_0 bt400.2.1 bt400.2.2 (t403.length : Int)).bind fun bt406 => ((spec_l01Next.f s0_0 bt406.2.1 bt406.2.2 24).bind fun bt409 => (if bt409.1 = 0 then ((some (([(-100), 100, 101] : List Int) : List Int)).bind fun y412 => ((spec_l01Next.f s0_0 bt409.2.1 bt409.2.2 3).bind fun bt415 => (if 0 ≤ bt415.1 then (if bt415.1 < (y412.length : Int) then (if 0 ≤ bt406.1 then (if bt406.1 < (t403.length : Int) then ((spec_l02Sort.f k (t403.set (bt406.1 : Int).toNat (⟨rd y412 bt415.1, (rd_T57 t403 bt406.1).f1⟩ : S57))).bind fun t420 => (some (t420, bt415.2.1, bt415.2.2))) else (none)) else (none)) else (none)) else (none)))) else (if bt409.1 = 1 then (if 0 ≤ bt406.1 then (if bt406.1 < (t403.length : Int) then (if t403.length < 8796093022208 then (some ((t403 ++ [(⟨(rd_T57 t403 bt406.1).f0, (rd_T57 t403 bt406.1).f1⟩ : S57)]), bt409.2.1, bt409.2.2)) else (none)) else (none)) else (none)) else (if bt409.1 = 2 then (some (([] : List (S57)), bt409.2.1, bt409.2.2)) else (if bt409.1 = 3 then (spec_l02Draw.l0 k (([] : List (S57))) 0 s0_0 bt409.2.1 bt409.2.2) else (if bt409.1 = 4 then (if 0 < (t403.length : Int) then (if 0 ≤ (wrap64 ((t403.length : Int) - 1)) then (if (wrap64 ((t403.length : Int) - 1)) < (t403.length : Int) then (if t403.length < 8796093022208 then (some ((t403 ++ [(⟨wrap64 (((rd_T57 t403 0).f0) + 3), wrap64 (((rd_T57 t403 (wrap64 ((t403.length : Int) - 1))).f1) + 2)⟩ : S57)]), bt409.2.1, bt409.2.2)) else (none)) else (none)) else (none)) else (none)) else (if bt409.1 = 5 then (if 0 < (t403.length : Int) then (if 0 ≤ (wrap64 ((t403.length : Int) - 1)) then (if (wrap64 ((t403.length : Int) - 1)) < (t403.length : Int) then (if t403.length < 8796093022208 then (some ((t403 ++ [(⟨wrap64 (((rd_T57 t403 0).f0) + 3), wrap64 (((rd_T57 t403 (wrap64 ((t403.length : Int) - 1))).f1) + 2)⟩ : S57)]), bt409.2.1, bt409.2.2)) else (none)) else (none)) else (none)) else (none)) else (some (t403, bt409.2.1, bt409.2.2)))))))))))))) = some (r1, r2, r3) := h
 clear h
 replace H := Option.bind_eq_some_iff.mp H
 obtain ⟨⟨t392, t395, t396⟩, A20, H⟩ := H
 try dsimp only at H
 have A2 := Aside0.mk A20
 clear A20
 replace H := Option.bind_eq_some_iff.mp H
 obtain ⟨⟨t397, t398, t399⟩, A30, H⟩ := H
 try dsimp only at H
 have A3 := Aside0.mk A30
 clear A30
 replace H := Option.bind_eq_some_iff.mp H
 obtain ⟨⟨t400, t401, t402⟩, A40, H⟩ := H
 try dsimp only at H
 have A4 := Aside0.mk A40
 clear A40
 replace H := Option.bind_eq_some_iff.mp H
 obtain ⟨t403, A50, H⟩ := H
 try dsimp only at H
 have A5 := Aside0.mk A50
 clear A50
 replace H := Option.bind_eq_some_iff.mp H
 obtain ⟨⟨t406, t407, t408⟩, A60, H⟩ := H
 try dsimp only at H
 have A6 := Aside0.mk A60
 clear A60
 replace H := Option.bind_eq_some_iff.mp H
 obtain ⟨⟨t409, t410, t411⟩, A70, H⟩ := H
 try dsimp only at H
 have A7 := Aside0.mk A70
 clear A70
 by_cases c8 : t409 = 0
 ·rw [if_pos c8] at H
  have c8b0 : (t409 == 0) = true := beq_iff_eq.mpr c8
  have c8b1 : (t409 != 0) = false := bne_eq_false_iff_eq.mpr c8
  clear c8
  obtain ⟨y412, hY_⟩ : ∃ y_ : List Int, y_ = (([(-100), 100, 101] : List Int)) := ⟨_, rfl⟩
  replace H : ((spec_l01Next.f s0_0 t410 t411 3).bind fun bt415 => (if 0 ≤ bt415.1 then (if bt415.1 < (y412.length : Int) then (if 0 ≤ t406 then (if t406 < (t403.length : Int) then ((spec_l02Sort.f k (t403.set (t406 : Int).toNat (⟨rd y412 bt415.1, (rd_T57 t403 t406).f1⟩ : S57))).bind fun t420 => (some (t420, bt415.2.1, bt415.2.2))) else (none)) else (none)) else (none)) else (none))) = some (r1, r2, r3) := yY_
  have Ny412 := Aside0.mk hY_
  clear hY_
  replace H := Option.bind_eq_some_iff.mp H
  obtain ⟨⟨t415, t416, t417⟩, A90, H⟩ := H
  try dsimp only at H
  have A9 := Aside0.mk A90
  clear A90
  by_cases c10 : 0 ≤ t415
  ·rw [if_pos c10] at H
   have c10b0 : decide (0 ≤ t415) = true := decide_eq_true c10
   clear c10
   by_cases c11 : t415 < (y412.length : Int)
   ·rw [if_pos c11] at H
    have c11b0 : decide (t415 < (y412.length : Int)) = true := decide_eq_true c11
    clear c11
    by_cases c12 : 0 ≤ t406
    ·rw [if_pos c12] at H
     have c12b0 : decide (0 ≤ t406) = true := decide_eq_true c12
     clear c12
     by_cases c13 : t406 < (t403.length : Int)
     ·rw [if_pos c13] at H
      have c13b0 : decide (t406 < (t403.length : Int)) = true := decide_eq_true c13
      clear c13
      obtain ⟨y419, hY_⟩ : ∃ y_ : List (S57), y_ = (t403.set (t406 : Int).toNat (⟨rd y412 t415, (rd_T57 t403 t406).f1⟩ : S57)) := ⟨_, rfl⟩
      replace H : ((spec_l02Sort.f k y419).bind fun t420 => (some (t420, t416, t417))) = some (r1, r2, r3) := yY_
      have Ny419 := Aside0.mk hY_
      clear hY_
      replace H := Option.bind_eq_some_iff.mp H
      obtain ⟨t420, A150, H⟩ := H
      try dsimp only at H
      have A15 := Aside0.mk A150
      clear A150
      simp only [Option.some.injEq, Prod.mk.injEq] at H
      obtain ⟨rfl, rfl, rfl⟩ := H
      go_enter Try.func76, Try.ntmps76
      go_wp2_with (first | ((with_reducible refine gate_callee (f := 110) rfl ?_); refine gL_ (some 8) Try.func110 #[.pointer (some ⟨g, 0, none⟩), .int .i64 8] ?_; (with_reducible refine (spec_l02DrawPoly.calls k g s0_0 s0_1 s0_2 8 t392 t395 t396 w0 _ ?side1 ?side2 A2.out).mono ?_); (case side1 => exact iS96_); (case side2 => exact bS96_); rintro e w16 ⟨v393, rfl, ho0, hi, hb, hk⟩; refine ⟨_, rfl, ?_⟩; have HO394 := Aside0.mk (Kd.R_lower ho0 (keep_size (w := w) (g := g) (row := none) kK_)); replace HK := Aside0.mk (KeepBut.trans kK_ hk (.inl rfl)); replace HB := Aside0.mk (hb); replace HI0 := Aside0.mk (hi); (try clear hb hk hi ho0)) | ((with_reducible refine gate_callee (f := 96) rfl ?_); refine gL_ (some 10) Try.func96 #[.pointer (some ⟨g, 0, none⟩), .int .i64 9] ?_; (with_reducible refine (spec_l01Next.calls g s0_0 t395 t396 9 t397 t398 t399 w0 _ ?side1 ?side2 A3.out).mono ?_); (case side1 => exact iS96_); (case side2 => exact bS96_); rintro e w17 ⟨rfl, hi, hb, hk⟩; refine ⟨_, rfl, ?_⟩; replace HO394 := Aside0.mk (Kd.R_mono (Kd.R_keep (IsS96.apart (show IsS96 w0 _ g s0_0 t395 t396 from iS96_) (rS_ HO394.out) (by decide)) hk (fun _ h => h.2)) (fun _ h => h.1)); replace HK := Aside0.mk (KeepBut.trans kK_ hk (.inl rfl)); replace HB := Aside0.mk (hb); replace HI0 := Aside0.mk (hi); (try clear hb hk hi)) | ((with_reducible refine gate_callee (f := 96) rfl ?_); refine gL_ (some 13) Try.func96 #[.pointer (some ⟨g, 0, none⟩), .int .i64 9] ?_; (with_reducible refine (spec_l01Next.calls g s0_0 t398 t399 9 t400 t401 t402 w0 _ ?side1 ?side2 A4.out).mono ?_); (case side1 => exact iS96_); (case side2 => exact bS96_); rintro e w18 ⟨rfl, hi, hb, hk⟩; refine ⟨_, rfl, ?_⟩; replace HO394 := Aside0.mk (Kd.R_mono (Kd.R_keep (IsS96.apart (show IsS96 w0 _ g s0_0 t398 t399 from iS96_) (rS_ HO394.out) (by decide)) hk (fun _ h => h.2)) (fun _ h => h.1)); replace HK := Aside0.mk (KeepBut.trans kK_ hk (.inl rfl)); replace HB := Aside0.mk (hb); replace HI0 := Aside0.mk (hi); (try clear hb hk hi); obtain ⟨Ao19, co19, eo19⟩ := Kd.R_slice HO394.out; subst eo19) | ((with_reducible refine gate_callee (f := 95) rfl ?_); refine gL_ (some 15) Try.func95 #[.slice Ao19 t392.length co19, .int .i64 (wrap64 (t397 - 4)), .int .i64 (wrap64 (t400 - 4))] ?_; (with_reducible refine (spec_l02Move.calls k _ _ t392 (wrap64 (t397 - 4)) (wrap64 (t400 - 4)) t403 _ ?side1 ?side2 A5.out).mono ?_); (case side1 => exact cS_ ((Kd.R_reads' HO394.out).2.2)); (case side2 => exact (Kd.R_reads' HO394.out).2.1); rintro e w20 ⟨v404, rfl, ho0, hb⟩; refine ⟨_, rfl, ?_⟩; have HO405 := Aside0.mk (Kd.R_lower (Kd.R_new' ho0 (Kd.R_lt (rS_ HO394.out))) (keep_size (w := w) (g := g) (row := none) kK_)); replace HO394 := Aside0.mk (Kd.R_elder' (rS_ HO394.out) (Kd.R_base ho0) hb); replace HK := Aside0.mk (KeepBut.trans kK_ (KeepBut.of_below hb g none) (.inl rfl)); replace HB := Aside0.mk (below_step bS96_ hb); replace HI0 := Aside0.mk (IsS96.below iS96_ hb); (try clear hb ho0); obtain ⟨Ao21, co21, eo21⟩ := Kd.R_slice HO405.out; subst eo21) | ((with_reducible refine gate_callee (f := 96) rfl ?_); refine gL_ (some 19) Try.func96 #[.pointer (some ⟨g, 0, none⟩), .int .i64 (t403.length : Int)] ?_; (with_reducible refine (spec_l01Next.calls g s0_0 t401 t402 (t403.length : Int) t406 t407 t408 w0 _ ?side1 ?side2 A6.out).mono ?_); (case side1 => exact iS96_); (case side2 => exact bS96_); rintro e w22 ⟨rfl, hi, hb, hk⟩; refine ⟨_, rfl, ?_⟩; replace HO394 := Aside0.mk (Kd.R_mono (Kd.R_keep (IsS96.apart (show IsS96 w0 _ g s0_0 t401 t402 from iS96_) (rS_ HO394.out) (by decide)) hk (fun _ h => h.2)) (fun _ h => h.1)); replace HO405 := Aside0.mk (Kd.R_mono (Kd.R_keep (IsS96.apart (show IsS96 w0 _ g s0_0 t401 t402 from iS96_) (rS_ HO405.out) (by decide)) hk (fun _ h => h.2)) (fun _ h => h.1)); replace HK := Aside0.mk (KeepBut.trans kK_ hk (.inl rfl)); replace HB := Aside0.mk (hb); replace HI0 := Aside0.mk (hi); (try clear hb hk hi)) | ((with_reducible refine gate_callee (f := 96) rfl ?_); refine gL_ (some 21) Try.func96 #[.pointer (some ⟨g, 0, none⟩), .int .i64 24] ?_; (with_reducible refine (spec_l01Next.calls g s0_0 t407 t408 24 t409 t410 t411 w0 _ ?side1 ?side2 A7.out).mono ?_); (case side1 => exact iS96_); (case side2 => exact bS96_); rintro e w23 ⟨rfl, hi, hb, hk⟩; refine ⟨_, rfl, ?_⟩; replace HO394 := Aside0.mk (Kd.R_mono (Kd.R_keep (IsS96.apart (show IsS96 w0 _ g s0_0 t407 t408 from iS96_) (rS_ HO394.out) (by decide)) hk (fun _ h => h.2)) (fun _ h => h.1)); replace HO405 := Aside0.mk (Kd.R_mono (Kd.R_keep (IsS96.apart (show IsS96 w0 _ g s0_0 t407 t408 from iS96_) (rS_ HO405.out) (by decide)) hk (fun _ h => h.2)) (fun _ h => h.1)); replace HK := Aside0.mk (KeepBut.trans kK_ hk (.inl rfl)); replace HB := Aside0.mk (hb); replace HI0 := Aside0.mk (hi); (try clear hb hk hi)) | ((with_reducible refine gate_dst (N := 26) rfl ?_); refine Kd.R_lit (Kd.int .i64) _ 2 ?hg (N := 26) ?hd (xs := ([(-100), 100, 101] : List Int)) (inner := [.int .i64 (-100), .int .i64 100, .int .i64 101]) (ok := fun _ => True) (okp := fun _ => True) ?hr ?hp (fun _ hk => hk) trivial (Below.refl _ _) (Nat.le_refl _) (by simp) ?_; (case hd => rfl); (case hg => rfl); (case hr => first | (go_simp; done) | (go_simp; rfl)); (case hp => exact (Reps.one (show Kd.M (Kd.int .i64) _ _ _ (-100) [.int .i64 (-100)] from rfl) (Reps.one (show Kd.M (Kd.int .i64) _ _ _ 100 [.int .i64 100] from rfl) (Reps.one (show Kd.M (Kd.int .i64) _ _ _ 101 [.int .i64 101] from rfl) (Reps.none _ _))))); intro v413 w24 ho25 hb hg_ hnew_; clear hg_ hnew_; (first | rw [← Ny412.out] at ho25 | (simp only [Int.reduceToNat] at ho25; rw [← Ny412.out] at ho25)); replace HO394 := Aside0.mk (Kd.R_below (rS_ HO394.out) hb); replace HO405 := Aside0.mk (Kd.R_below (rS_ HO405.out) hb); have HO414 := Aside0.mk (Kd.R_lower ho25 (keep_size (w := w) (g := g) (row := none) kK_)); replace HK := Aside0.mk (KeepBut.trans kK_ (KeepBut.of_below hb g none) (.inl rfl)); replace HB := Aside0.mk (below_step bS96_ hb); replace HI0 := Aside0.mk (IsS96.below iS96_ hb); clear hb ho25) | ((with_reducible refine gate_callee (f := 96) rfl ?_); refine gL_ (some 28) Try.func96 #[.pointer (some ⟨g, 0, none⟩), .int .i64 3] ?_; (with_reducible refine (spec_l01Next.calls g s0_0 t410 t411 3 t415 t416 t417 w0 _ ?side1 ?side2 A9.out).mono ?_); (case side1 => exact iS96_); (case side2 => exact bS96_); rintro e w26 ⟨rfl, hi, hb, hk⟩; refine ⟨_, rfl, ?_⟩; replace HO394 := Aside0.mk (Kd.R_mono (Kd.R_keep (IsS96.apart (show IsS96 w0 _ g s0_0 t410 t411 from iS96_) (rS_ HO394.out) (by decide)) hk (fun _ h => h.2)) (fun _ h => h.1)); replace HO405 := Aside0.mk (Kd.R_mono (Kd.R_keep (IsS96.apart (show IsS96 w0 _ g s0_0 t410 t411 from iS96_) (rS_ HO405.out) (by decide)) hk (fun _ h => h.2)) (fun _ h => h.1)); replace HO414 := Aside0.mk (Kd.R_mono (Kd.R_keep (IsS96.apart (show IsS96 w0 _ g s0_0 t410 t411 from iS96_) (rS_ HO414.out) (by decide)) hk (fun _ h => h.2)) (fun _ h => h.1)); replace HK := Aside0.mk (KeepBut.trans kK_ hk (.inl rfl)); replace HB := Aside0.mk (hb); replace HI0 := Aside0.mk (hi); (try clear hb hk hi); obtain ⟨Ao27, co27, eo27⟩ := Kd.R_slice HO414.out; subst eo27; have p418 : 0 ≤ (t415 : Int) := of_decide_eq_true aS_; have q418 : t415 < (y412.length : Int) := of_decide_eq_true aS_; obtain ⟨ad418, e418, hx418_0⟩ := Kd.at_int (Kd.R_reads' HO414.out).2.2 t415 p418 q418; cases e418; replace p418 := eq_true p418; replace q418 := eq_true q418; have p14 : 0 ≤ (t406 : Int) := of_decide_eq_true aS_; have q14 : (t406 : Int) < ((t403.length : Int) : Int) := of_decide_eq_true aS_; obtain ⟨go14, co14, eo14, gb14, gl14, cl14, HG14⟩ := Kd.R_form HO405.out (by omega); (first | cases eo14 | (injection eo14 with ea_ en_ ec_; (first | subst ea_ | (injection ea_ with ea_; subst ea_)); subst ec_; clear en_)); have GB14 := Aside0.mk gb14; have GG14 := Aside0.mk HG14; clear gb14 gl14 HG14; obtain ⟨ce14, hcl14, hM14, hcc14, hfr14⟩ := Kd.R_elem HO405.out z57 (t406 : Int) p14 q14; obtain rfl := k57_openM hM14; have hx14_0 : w26.cell? ⟨go14, (t406 : Int).toNat * 2, none⟩ = some (.int .i64 ((rd_T57 t403 t406).f0)) := hcc14 0 _ rfl; have hx14_1 : w26.cell? ⟨go14, (t406 : Int).toNat * 2 + 1, none⟩ = some (.int .i64 ((rd_T57 t403 t406).f1)) := hcc14 1 _ rfl; have hf14_0 : w26.frozen? ⟨go14, (t406 : Int).toNat * 2, none⟩ = false := hfr14 0; have hf14_1 : w26.frozen? ⟨go14, (t406 : Int).toNat * 2 + 1, none⟩ = false := hfr14 1; clear hcl14 hcc14 hfr14 hM14; replace p14 := eq_true p14; replace q14 := eq_true q14; have n_ := Aside0.mk (Kd.R_mono (ok' := (fun k_ => some k_ ≠ (.slice Ao19 t392.length co19 : Value).ownBlock)) HO405.out (fun k_ hk => hk.2)); clear HO405; have HO405 := n_; clear n_; have HX28 := Aside0.mk (show Kd.R k57 57 w26 w.heap.size (fun k_ => some k_ ≠ (.slice Ao19 t392.length co19 : Value).ownBlock) (.slice (some ⟨go14, 0, none⟩) t403.length co21) t403 from (rS_ HO405.out)); obtain ⟨ce28, hcl28, hM28, hcc28, hfr28⟩ := Kd.R_elem HX28.out z57 (t406 : Int) (of_decide_eq_true aS_) (by have h_ : (t406 : Int) < ((t403.length : Int) : Int) := of_decide_eq_true aS_; first | exact h_ | (have e_ := (Kd.R_reads' HO405.out).1; omega) | simpa using h_); obtain rfl := k57_openM hM28; have HP28 := Kd.R_seg HX28.out (t406 : Int) (of_decide_eq_true aS_) (by have h_ : (t406 : Int) < ((t403.length : Int) : Int) := of_decide_eq_true aS_; first | exact h_ | (have e_ := (Kd.R_reads' HO405.out).1; omega) | simpa using h_) (seg := [.int .i64 (rd y412 t415)]) (j := 0) hcl28 hcc28 (show 1 ≤ 2 from by decide) (x' := (⟨rd y412 t415, (rd_T57 t403 t406).f1⟩ : S57)) (k57_mkM _ _ _ (⟨rd y412 t415, (rd_T57 t403 t406).f1⟩ : S57) ) (fun _ hk => hk); have hx28_0 := hcc28 0 _ rfl; (try simp only [show (k57).sz = 2 from rfl, Nat.mul_one, Nat.add_zero] at hx28_0); have hf28_0 := hfr28 0; (try simp only [show (k57).sz = 2 from rfl, Nat.mul_one, Nat.add_zero] at hf28_0); clear hcl28 hcc28 hfr28 hM28) | ((with_reducible refine gate_store (t := 2) (p := 32) rfl ?_); refine store_event (t := 2) (p := 32) (v := ?vo_w29) (w1 := (w26.setCell ⟨go14, (t406 : Int).toNat * 2, none⟩ (.int .i64 (rd y412 t415)))) ?hg ?ho ?hn ?hr ?_; (case ho => rfl); (case hg => rfl); (case hn => rfl); (case hr => first | (go_simp; done) | (go_simp; rfl)); intro w29 hw; have hg : w26.grownBy w29 (some go14) := (by rw [hw]; exact HP28.2); have hp_ : Kd.R k57 57 w29 w.heap.size (fun k_ => some k_ ≠ (.slice Ao19 t392.length co19 : Value).ownBlock) (.slice (some ⟨go14, 0, none⟩) t403.length co21) y419 := (by rw [hw, Ny419.out]; exact HP28.1); clear HP28; replace HI0 := Aside0.mk (IsS96.grown iS96_ hg (IsS96.own_ne HI0.out HO405.out (by decide))); replace HO394 := Aside0.mk (Kd.R_after (v := (.slice (some ⟨go14, 0, none⟩) t403.length co21)) (v1 := (.slice (some ⟨go14, 0, none⟩) t403.length co21)) (ok := (fun _ => True)) (rS_ HO394.out) hg (.inl rfl)); replace HO414 := Aside0.mk (Kd.R_over' (v := (.slice (some ⟨go14, 0, none⟩) t403.length co21)) (rS_ HO414.out) (Kd.R_typed HO405.out) (by decide) hg); replace HB := Aside0.mk ((by rw [hw]; exact below_set (HB.out) (Nat.le_trans HL.out GB14.out) : Below w0.heap.size w0 w29)); replace HK := Aside0.mk (KeepBut.trans kK_ (KeepBut.of_grown hg g) (Kd.R_base2 HO405.out)); replace HO405 := Aside0.mk (hp_); clear hg hw hp_) | ((with_reducible refine gate_callee (f := 86) rfl ?_); refine goesL_ (some 34) rfl rfl Try.func86 (by kernel_rfl) rfl #[.slice (some ⟨go14, 0, none⟩) y419.length co21] rfl (by (try simp only [List.map_toArray, List.map_cons, List.map_nil]); first | done | (rw [show y419.length = t403.length from (Kd.R_reads' HO405.out).1.symm] <;> rfl) | rfl | (simp only [List.length_drop, List.length_take]; rfl)) ?_; (with_reducible refine (spec_l02Sort.calls k _ _ y419 t420 _ ?side1 ?side2 A15.out).mono ?_); (case side1 => exact cS_ ((Kd.R_reads' HO405.out).2.2)); (case side2 => rw [show y419.length = t403.length from (Kd.R_reads' HO405.out).1.symm]; exact (Kd.R_reads' HO405.out).2.1); rintro e w30 ⟨v421, rfl, ho0, hb⟩; refine ⟨_, rfl, ?_⟩; replace HO414 := Aside0.mk (Kd.R_below (rS_ HO414.out) hb); have HO422 := Aside0.mk (Kd.R_lower (Kd.R_new' (Kd.R_new' ho0 (Kd.R_lt (rS_ HO394.out))) (Kd.R_lt (rS_ HO405.out))) (keep_size (w := w) (g := g) (row := none) kK_)); replace HO394 := Aside0.mk (Kd.R_elder' (rS_ HO394.out) (Kd.R_base ho0) hb); replace HO405 := Aside0.mk (Kd.R_elder' (rS_ HO405.out) (Kd.R_base ho0) hb); replace HK := Aside0.mk (KeepBut.trans kK_ (KeepBut.of_below hb g none) (.inl rfl)); replace HB := Aside0.mk (below_step bS96_ hb); replace HI0 := Aside0.mk (IsS96.below iS96_ hb); (try clear hb ho0)))
      go_ret
      exact ⟨_, r2_, rS_ (Kd.R_mono HO422.out (fun _ hk => trivial)), iS96_, bS96_, kK_⟩
     ·rw [if_neg c13] at H
      exact absurd H (by simp)
    ·rw [if_neg c12] at H
     exact absurd H (by simp)
   ·rw [if_neg c11] at H
    exact absurd H (by simp)
  ·rw [if_neg c10] at H
   exact absurd H (by simp)
 ·rw [if_neg c8] at H
  have c8b0 : (t409 == 0) = false := beq_eq_false_iff_ne.mpr c8
  have c8b1 : (t409 != 0) = true := bne_iff_ne.mpr c8
  by_cases c31 : t409 = 1
  ·rw [if_pos c31] at H
   have c31b0 : (t409 == 1) = true := beq_iff_eq.mpr c31
   have c31b1 : (t409 != 1) = false := bne_eq_false_iff_eq.mpr c31
   clear c31
   by_cases c32 : 0 ≤ t406
   ·rw [if_pos c32] at H
    have c32b0 : decide (0 ≤ t406) = true := decide_eq_true c32
    clear c32
    by_cases c33 : t406 < (t403.length : Int)
    ·rw [if_pos c33] at H
     have c33b0 : decide (t406 < (t403.length : Int)) = true := decide_eq_true c33
     clear c33
     by_cases c34 : t403.length < 8796093022208
     ·rw [if_pos c34] at H
      have LMc34 := Aside0.mk c34
      clear c34
      obtain ⟨y424, hY_⟩ : ∃ y_ : List (S57), y_ = (t403 ++ [(⟨(rd_T57 t403 t406).f0, (rd_T57 t403 t406).f1⟩ : S57)]) := ⟨_, rfl⟩
      replace H : (some (y424, t410, t411)) = some (r1, r2, r3) := yY_
      have Ny424 := Aside0.mk hY_
      clear hY_
      simp only [Option.some.injEq, Prod.mk.injEq] at H
      obtain ⟨rfl, rfl, rfl⟩ := H
      go_enter Try.func76, Try.ntmps76
      go_wp2_with (first | ((with_reducible refine gate_callee (f := 110) rfl ?_); refine gL_ (some 8) Try.func110 #[.pointer (some ⟨g, 0, none⟩), .int .i64 8] ?_; (with_reducible refine (spec_l02DrawPoly.calls k g s0_0 s0_1 s0_2 8 t392 t395 t396 w0 _ ?side1 ?side2 A2.out).mono ?_); (case side1 => exact iS96_); (case side2 => exact bS96_); rintro e w35 ⟨v393, rfl, ho0, hi, hb, hk⟩; refine ⟨_, rfl, ?_⟩; have HO394 := Aside0.mk (Kd.R_lower ho0 (keep_size (w := w) (g := g) (row := none) kK_)); replace HK := Aside0.mk (KeepBut.trans kK_ hk (.inl rfl)); replace HB := Aside0.mk (hb); replace HI0 := Aside0.mk (hi); (try clear hb hk hi ho0)) | ((with_reducible refine gate_callee (f := 96) rfl ?_); refine gL_ (some 10) Try.func96 #[.pointer (some ⟨g, 0, none⟩), .int .i64 9] ?_; (with_reducible refine (spec_l01Next.calls g s0_0 t395 t396 9 t397 t398 t399 w0 _ ?side1 ?side2 A3.out).mono ?_); (case side1 => exact iS96_); (case side2 => exact bS96_); rintro e w36 ⟨rfl, hi, hb, hk⟩; refine ⟨_, rfl, ?_⟩; replace HO394 := Aside0.mk (Kd.R_mono (Kd.R_keep (IsS96.apart (show IsS96 w0 _ g s0_0 t395 t396 from iS96_) (rS_ HO394.out) (by decide)) hk (fun _ h => h.2)) (fun _ h => h.1)); replace HK := Aside0.mk (KeepBut.trans kK_ hk (.inl rfl)); replace HB := Aside0.mk (hb); replace HI0 := Aside0.mk (hi); (try clear hb hk hi)) | ((with_reducible refine gate_callee (f := 96) rfl ?_); refine gL_ (some 13) Try.func96 #[.pointer (some ⟨g, 0, none⟩), .int .i64 9] ?_; (with_reducible refine (spec_l01Next.calls g s0_0 t398 t399 9 t400 t401 t402 w0 _ ?side1 ?side2 A4.out).mono ?_); (case side1 => exact iS96_); (case side2 => exact bS96_); rintro e w37 ⟨rfl, hi, hb, hk⟩; refine ⟨_, rfl, ?_⟩; replace HO394 := Aside0.mk (Kd.R_mono (Kd.R_keep (IsS96.apart (show IsS96 w0 _ g s0_0 t398 t399 from iS96_) (rS_ HO394.out) (by decide)) hk (fun _ h => h.2)) (fun _ h => h.1)); replace HK := Aside0.mk (KeepBut.trans kK_ hk (.inl rfl)); replace HB := Aside0.mk (hb); replace HI0 := Aside0.mk (hi); (try clear hb hk hi); obtain ⟨Ao38, co38, eo38⟩ := Kd.R_slice HO394.out; subst eo38) | ((with_reducible refine gate_callee (f := 95) rfl ?_); refine gL_ (some 15) Try.func95 #[.slice Ao38 t392.length co38, .int .i64 (wrap64 (t397 - 4)), .int .i64 (wrap64 (t400 - 4))] ?_; (with_reducible refine (spec_l02Move.calls k _ _ t392 (wrap64 (t397 - 4)) (wrap64 (t400 - 4)) t403 _ ?side1 ?side2 A5.out).mono ?_); (case side1 => exact cS_ ((Kd.R_reads' HO394.out).2.2)); (case side2 => exact (Kd.R_reads' HO394.out).2.1); rintro e w39 ⟨v404, rfl, ho0, hb⟩; refine ⟨_, rfl, ?_⟩; have HO405 := Aside0.mk (Kd.R_lower (Kd.R_new' ho0 (Kd.R_lt (rS_ HO394.out))) (keep_size (w := w) (g := g) (row := none) kK_)); replace HO394 := Aside0.mk (Kd.R_elder' (rS_ HO394.out) (Kd.R_base ho0) hb); replace HK := Aside0.mk (KeepBut.trans kK_ (KeepBut.of_below hb g none) (.inl rfl)); replace HB := Aside0.mk (below_step bS96_ hb); replace HI0 := Aside0.mk (IsS96.below iS96_ hb); (try clear hb ho0); obtain ⟨Ao40, co40, eo40⟩ := Kd.R_slice HO405.out; subst eo40) | ((with_reducible refine gate_callee (f := 96) rfl ?_); refine gL_ (some 19) Try.func96 #[.pointer (some ⟨g, 0, none⟩), .int .i64 (t403.length : Int)] ?_; (with_reducible refine (spec_l01Next.calls g s0_0 t401 t402 (t403.length : Int) t406 t407 t408 w0 _ ?side1 ?side2 A6.out).mono ?_); (case side1 => exact iS96_); (case side2 => exact bS96_); rintro e w41 ⟨rfl, hi, hb, hk⟩; refine ⟨_, rfl, ?_⟩; replace HO394 := Aside0.mk (Kd.R_mono (Kd.R_keep (IsS96.apart (show IsS96 w0 _ g s0_0 t401 t402 from iS96_) (rS_ HO394.out) (by decide)) hk (fun _ h => h.2)) (fun _ h => h.1)); replace HO405 := Aside0.mk (Kd.R_mono (Kd.R_keep (IsS96.apart (show IsS96 w0 _ g s0_0 t401 t402 from iS96_) (rS_ HO405.out) (by decide)) hk (fun _ h => h.2)) (fun _ h => h.1)); replace HK := Aside0.mk (KeepBut.trans kK_ hk (.inl rfl)); replace HB := Aside0.mk (hb); replace HI0 := Aside0.mk (hi); (try clear hb hk hi)) | ((with_reducible refine gate_callee (f := 96) rfl ?_); refine gL_ (some 21) Try.func96 #[.pointer (some ⟨g, 0, none⟩), .int .i64 24] ?_; (with_reducible refine (spec_l01Next.calls g s0_0 t407 t408 24 t409 t410 t411 w0 _ ?side1 ?side2 A7.out).mono ?_); (case side1 => exact iS96_); (case side2 => exact bS96_); rintro e w42 ⟨rfl, hi, hb, hk⟩; refine ⟨_, rfl, ?_⟩; replace HO394 := Aside0.mk (Kd.R_mono (Kd.R_keep (IsS96.apart (show IsS96 w0 _ g s0_0 t407 t408 from iS96_) (rS_ HO394.out) (by decide)) hk (fun _ h => h.2)) (fun _ h => h.1)); replace HO405 := Aside0.mk (Kd.R_mono (Kd.R_keep (IsS96.apart (show IsS96 w0 _ g s0_0 t407 t408 from iS96_) (rS_ HO405.out) (by decide)) hk (fun _ h => h.2)) (fun _ h => h.1)); replace HK := Aside0.mk (KeepBut.trans kK_ hk (.inl rfl)); replace HB := Aside0.mk (hb); replace HI0 := Aside0.mk (hi); (try clear hb hk hi); have p423 : 0 ≤ (t406 : Int) := of_decide_eq_true aS_; have q423 : t406 < (t403.length : Int) := of_decide_eq_true aS_; obtain ⟨ad423, e423, hx423_0, hx423_1⟩ := at_T57 (Kd.R_reads' HO405.out).2.2 t406 p423 q423; cases e423; replace p423 := eq_true p423; replace q423 := eq_true q423) | ((with_reducible refine gate_builtin (b := .append) (xs := #[.tmp 37, .tmp 42]) rfl ?_); at_builtin; refine Kd.R_append k57 w.heap.size rfl (.tmp 37) (.tmp 42) 30 57 (.agg #[(.int .i64 0), (.int .i64 0)]) 16 rfl Try.underlying30 info57 rfl (by decide) (by omega) (.slice (some ad423) t403.length co40) t403 (⟨(rd_T57 t403 t406).f0, (rd_T57 t403 t406).f1⟩ : S57) [.int .i64 ((rd_T57 t403 t406).f0), .int .i64 ((rd_T57 t403 t406).f1)] (fun k_ => some k_ ≠ (.slice Ao38 t392.length co38 : Value).ownBlock) (fun _ => False) rfl rfl ?aP (fun _ hk => hk.elim) ?aF ?aO (Below.refl _ _) ?aS ?aL ?_; (case aP => exact k57_mkM _ _ _ (⟨(rd_T57 t403 t406).f0, (rd_T57 t403 t406).f1⟩ : S57)); (case aF => exact (fun k_ hk => Kd.fresh' (Kd.R_lt (rS_ HO394.out)) k_ hk)); (case aO => exact (rS_ (Kd.R_mono HO405.out (fun _ hk => hk.2)))); (case aS => exact (keep_size (w := w) (g := g) (row := none) kK_)); (case aL => have := LMc34.out; omega); intro v425 w43 ho hb hg hat; rw [← Ny424.out] at ho; replace HO394 := Aside0.mk (Kd.R_after (ok := (fun _ => True)) (rS_ HO394.out) hg hat); replace HB := Aside0.mk (below_weaken bS96_ HL.out hb); replace HI0 := Aside0.mk (IsS96.grown iS96_ hg (IsS96.own_ne HI0.out HO405.out (by decide))); replace HK := Aside0.mk (KeepBut.trans kK_ (KeepBut.of_grown hg g) (Kd.R_base2 HO405.out)); have HO426 := Aside0.mk (ho); clear HO405; clear ho hb hg hat))
      go_ret
      exact ⟨_, r2_, rS_ (Kd.R_mono HO426.out (fun _ hk => trivial)), iS96_, bS96_, kK_⟩
     ·rw [if_neg c34] at H
      exact absurd H (by simp)
    ·rw [if_neg c33] at H
     exact absurd H (by simp)
   ·rw [if_neg c32] at H
    exact absurd H (by simp)
  ·rw [if_neg c31] at H
   have c31b0 : (t409 == 1) = false := beq_eq_false_iff_ne.mpr c31
   have c31b1 : (t409 != 1) = true := bne_iff_ne.mpr c31
   by_cases c44 : t409 = 2
   ·rw [if_pos c44] at H
    have c44b0 : (t409 == 2) = true := beq_iff_eq.mpr c44
    have c44b1 : (t409 != 2) = false := bne_eq_false_iff_eq.mpr c44
    clear c44
    simp only [Option.some.injEq, Prod.mk.injEq] at H
    obtain ⟨rfl, rfl, rfl⟩ := H
    go_enter Try.func76, Try.ntmps76
    go_wp2_with (first | ((with_reducible refine gate_callee (f := 110) rfl ?_); refine gL_ (some 8) Try.func110 #[.pointer (some ⟨g, 0, none⟩), .int .i64 8] ?_; (with_reducible refine (spec_l02DrawPoly.calls k g s0_0 s0_1 s0_2 8 t392 t395 t396 w0 _ ?side1 ?side2 A2.out).mono ?_); (case side1 => exact iS96_); (case side2 => exact bS96_); rintro e w45 ⟨v393, rfl, ho0, hi, hb, hk⟩; refine ⟨_, rfl, ?_⟩; have HO394 := Aside0.mk (Kd.R_lower ho0 (keep_size (w := w) (g := g) (row := none) kK_)); replace HK := Aside0.mk (KeepBut.trans kK_ hk (.inl rfl)); replace HB := Aside0.mk (hb); replace HI0 := Aside0.mk (hi); (try clear hb hk hi ho0)) | ((with_reducible refine gate_callee (f := 96) rfl ?_); refine gL_ (some 10) Try.func96 #[.pointer (some ⟨g, 0, none⟩), .int .i64 9] ?_; (with_reducible refine (spec_l01Next.calls g s0_0 t395 t396 9 t397 t398 t399 w0 _ ?side1 ?side2 A3.out).mono ?_); (case side1 => exact iS96_); (case side2 => exact bS96_); rintro e w46 ⟨rfl, hi, hb, hk⟩; refine ⟨_, rfl, ?_⟩; replace HO394 := Aside0.mk (Kd.R_mono (Kd.R_keep (IsS96.apart (show IsS96 w0 _ g s0_0 t395 t396 from iS96_) (rS_ HO394.out) (by decide)) hk (fun _ h => h.2)) (fun _ h => h.1)); replace HK := Aside0.mk (KeepBut.trans kK_ hk (.inl rfl)); replace HB := Aside0.mk (hb); replace HI0 := Aside0.mk (hi); (try clear hb hk hi)) | ((with_reducible refine gate_callee (f := 96) rfl ?_); refine gL_ (some 13) Try.func96 #[.pointer (some ⟨g, 0, none⟩), .int .i64 9] ?_; (with_reducible refine (spec_l01Next.calls g s0_0 t398 t399 9 t400 t401 t402 w0 _ ?side1 ?side2 A4.out).mono ?_); (case side1 => exact iS96_); (case side2 => exact bS96_); rintro e w47 ⟨rfl, hi, hb, hk⟩; refine ⟨_, rfl, ?_⟩; replace HO394 := Aside0.mk (Kd.R_mono (Kd.R_keep (IsS96.apart (show IsS96 w0 _ g s0_0 t398 t399 from iS96_) (rS_ HO394.out) (by decide)) hk (fun _ h => h.2)) (fun _ h => h.1)); replace HK := Aside0.mk (KeepBut.trans kK_ hk (.inl rfl)); replace HB := Aside0.mk (hb); replace HI0 := Aside0.mk (hi); (try clear hb hk hi); obtain ⟨Ao48, co48, eo48⟩ := Kd.R_slice HO394.out; subst eo48) | ((with_reducible refine gate_callee (f := 95) rfl ?_); refine gL_ (some 15) Try.func95 #[.slice Ao48 t392.length co48, .int .i64 (wrap64 (t397 - 4)), .int .i64 (wrap64 (t400 - 4))] ?_; (with_reducible refine (spec_l02Move.calls k _ _ t392 (wrap64 (t397 - 4)) (wrap64 (t400 - 4)) t403 _ ?side1 ?side2 A5.out).mono ?_); (case side1 => exact cS_ ((Kd.R_reads' HO394.out).2.2)); (case side2 => exact (Kd.R_reads' HO394.out).2.1); rintro e w49 ⟨v404, rfl, ho0, hb⟩; refine ⟨_, rfl, ?_⟩; have HO405 := Aside0.mk (Kd.R_lower (Kd.R_new' ho0 (Kd.R_lt (rS_ HO394.out))) (keep_size (w := w) (g := g) (row := none) kK_)); replace HO394 := Aside0.mk (Kd.R_elder' (rS_ HO394.out) (Kd.R_base ho0) hb); replace HK := Aside0.mk (KeepBut.trans kK_ (KeepBut.of_below hb g none) (.inl rfl)); replace HB := Aside0.mk (below_step bS96_ hb); replace HI0 := Aside0.mk (IsS96.below iS96_ hb); (try clear hb ho0); obtain ⟨Ao50, co50, eo50⟩ := Kd.R_slice HO405.out; subst eo50) | ((with_reducible refine gate_callee (f := 96) rfl ?_); refine gL_ (some 19) Try.func96 #[.pointer (some ⟨g, 0, none⟩), .int .i64 (t403.length : Int)] ?_; (with_reducible refine (spec_l01Next.calls g s0_0 t401 t402 (t403.length : Int) t406 t407 t408 w0 _ ?side1 ?side2 A6.out).mono ?_); (case side1 => exact iS96_); (case side2 => exact bS96_); rintro e w51 ⟨rfl, hi, hb, hk⟩; refine ⟨_, rfl, ?_⟩; replace HO394 := Aside0.mk (Kd.R_mono (Kd.R_keep (IsS96.apart (show IsS96 w0 _ g s0_0 t401 t402 from iS96_) (rS_ HO394.out) (by decide)) hk (fun _ h => h.2)) (fun _ h => h.1)); replace HO405 := Aside0.mk (Kd.R_mono (Kd.R_keep (IsS96.apart (show IsS96 w0 _ g s0_0 t401 t402 from iS96_) (rS_ HO405.out) (by decide)) hk (fun _ h => h.2)) (fun _ h => h.1)); replace HK := Aside0.mk (KeepBut.trans kK_ hk (.inl rfl)); replace HB := Aside0.mk (hb); replace HI0 := Aside0.mk (hi); (try clear hb hk hi)) | ((with_reducible refine gate_callee (f := 96) rfl ?_); refine gL_ (some 21) Try.func96 #[.pointer (some ⟨g, 0, none⟩), .int .i64 24] ?_; (with_reducible refine (spec_l01Next.calls g s0_0 t407 t408 24 t409 t410 t411 w0 _ ?side1 ?side2 A7.out).mono ?_); (case side1 => exact iS96_); (case side2 => exact bS96_); rintro e w52 ⟨rfl, hi, hb, hk⟩; refine ⟨_, rfl, ?_⟩; replace HO394 := Aside0.mk (Kd.R_mono (Kd.R_keep (IsS96.apart (show IsS96 w0 _ g s0_0 t407 t408 from iS96_) (rS_ HO394.out) (by decide)) hk (fun _ h => h.2)) (fun _ h => h.1)); replace HO405 := Aside0.mk (Kd.R_mono (Kd.R_keep (IsS96.apart (show IsS96 w0 _ g s0_0 t407 t408 from iS96_) (rS_ HO405.out) (by decide)) hk (fun _ h => h.2)) (fun _ h => h.1)); replace HK := Aside0.mk (KeepBut.trans kK_ hk (.inl rfl)); replace HB := Aside0.mk (hb); replace HI0 := Aside0.mk (hi); (try clear hb hk hi)))
    go_ret
    exact ⟨_, r2_, by first | exact Kd.R_nil _ _ _ _ _ | exact Kd.N_nil _ _ _ _ _ | exact Kd.V_nil _ _ _ _ _ | exact Kd.Q_nil _ _ _ _ _ | exact Kd.S_nil _ _ _ _ _, iS96_, bS96_, kK_⟩
   ·rw [if_neg c44] at H
    have c44b0 : (t409 == 2) = false := beq_eq_false_iff_ne.mpr c44
    have c44b1 : (t409 != 2) = true := bne_iff_ne.mpr c44
    by_cases c53 : t409 = 3
    ·rw [if_pos c53] at H
     have c53b0 : (t409 == 3) = true := beq_iff_eq.mpr c53
     have c53b1 : (t409 != 3) = false := bne_eq_false_iff_eq.mpr c53
     clear c53
     obtain ⟨y427, hY_⟩ : ∃ y_ : List (S57), y_ = (([] : List (S57))) := ⟨_, rfl⟩
     replace H : (spec_l02Draw.l0 k y427 0 s0_0 t410 t411) = some (r1, r2, r3) := yY_
     have Ny427 := Aside0.mk hY_
     clear hY_
     have H' := Aside0.mk H
     clear H
     go_enter Try.func76, Try.ntmps76
     go_wp2_with (first | ((with_reducible refine gate_callee (f := 110) rfl ?_); refine gL_ (some 8) Try.func110 #[.pointer (some ⟨g, 0, none⟩), .int .i64 8] ?_; (with_reducible refine (spec_l02DrawPoly.calls k g s0_0 s0_1 s0_2 8 t392 t395 t396 w0 _ ?side1 ?side2 A2.out).mono ?_); (case side1 => exact iS96_); (case side2 => exact bS96_); rintro e w54 ⟨v393, rfl, ho0, hi, hb, hk⟩; refine ⟨_, rfl, ?_⟩; have HO394 := Aside0.mk (Kd.R_lower ho0 (keep_size (w := w) (g := g) (row := none) kK_)); replace HK := Aside0.mk (KeepBut.trans kK_ hk (.inl rfl)); replace HB := Aside0.mk (hb); replace HI0 := Aside0.mk (hi); (try clear hb hk hi ho0)) | ((with_reducible refine gate_callee (f := 96) rfl ?_); refine gL_ (some 10) Try.func96 #[.pointer (some ⟨g, 0, none⟩), .int .i64 9] ?_; (with_reducible refine (spec_l01Next.calls g s0_0 t395 t396 9 t397 t398 t399 w0 _ ?side1 ?side2 A3.out).mono ?_); (case side1 => exact iS96_); (case side2 => exact bS96_); rintro e w55 ⟨rfl, hi, hb, hk⟩; refine ⟨_, rfl, ?_⟩; replace HO394 := Aside0.mk (Kd.R_mono (Kd.R_keep (IsS96.apart (show IsS96 w0 _ g s0_0 t395 t396 from iS96_) (rS_ HO394.out) (by decide)) hk (fun _ h => h.2)) (fun _ h => h.1)); replace HK := Aside0.mk (KeepBut.trans kK_ hk (.inl rfl)); replace HB := Aside0.mk (hb); replace HI0 := Aside0.mk (hi); (try clear hb hk hi)) | ((with_reducible refine gate_callee (f := 96) rfl ?_); refine gL_ (some 13) Try.func96 #[.pointer (some ⟨g, 0, none⟩), .int .i64 9] ?_; (with_reducible refine (spec_l01Next.calls g s0_0 t398 t399 9 t400 t401 t402 w0 _ ?side1 ?side2 A4.out).mono ?_); (case side1 => exact iS96_); (case side2 => exact bS96_); rintro e w56 ⟨rfl, hi, hb, hk⟩; refine ⟨_, rfl, ?_⟩; replace HO394 := Aside0.mk (Kd.R_mono (Kd.R_keep (IsS96.apart (show IsS96 w0 _ g s0_0 t398 t399 from iS96_) (rS_ HO394.out) (by decide)) hk (fun _ h => h.2)) (fun _ h => h.1)); replace HK := Aside0.mk (KeepBut.trans kK_ hk (.inl rfl)); replace HB := Aside0.mk (hb); replace HI0 := Aside0.mk (hi); (try clear hb hk hi); obtain ⟨Ao57, co57, eo57⟩ := Kd.R_slice HO394.out; subst eo57) | ((with_reducible refine gate_callee (f := 95) rfl ?_); refine gL_ (some 15) Try.func95 #[.slice Ao57 t392.length co57, .int .i64 (wrap64 (t397 - 4)), .int .i64 (wrap64 (t400 - 4))] ?_; (with_reducible refine (spec_l02Move.calls k _ _ t392 (wrap64 (t397 - 4)) (wrap64 (t400 - 4)) t403 _ ?side1 ?side2 A5.out).mono ?_); (case side1 => exact cS_ ((Kd.R_reads' HO394.out).2.2)); (case side2 => exact (Kd.R_reads' HO394.out).2.1); rintro e w58 ⟨v404, rfl, ho0, hb⟩; refine ⟨_, rfl, ?_⟩; have HO405 := Aside0.mk (Kd.R_lower (Kd.R_new' ho0 (Kd.R_lt (rS_ HO394.out))) (keep_size (w := w) (g := g) (row := none) kK_)); replace HO394 := Aside0.mk (Kd.R_elder' (rS_ HO394.out) (Kd.R_base ho0) hb); replace HK := Aside0.mk (KeepBut.trans kK_ (KeepBut.of_below hb g none) (.inl rfl)); replace HB := Aside0.mk (below_step bS96_ hb); replace HI0 := Aside0.mk (IsS96.below iS96_ hb); (try clear hb ho0); obtain ⟨Ao59, co59, eo59⟩ := Kd.R_slice HO405.out; subst eo59) | ((with_reducible refine gate_callee (f := 96) rfl ?_); refine gL_ (some 19) Try.func96 #[.pointer (some ⟨g, 0, none⟩), .int .i64 (t403.length : Int)] ?_; (with_reducible refine (spec_l01Next.calls g s0_0 t401 t402 (t403.length : Int) t406 t407 t408 w0 _ ?side1 ?side2 A6.out).mono ?_); (case side1 => exact iS96_); (case side2 => exact bS96_); rintro e w60 ⟨rfl, hi, hb, hk⟩; refine ⟨_, rfl, ?_⟩; replace HO394 := Aside0.mk (Kd.R_mono (Kd.R_keep (IsS96.apart (show IsS96 w0 _ g s0_0 t401 t402 from iS96_) (rS_ HO394.out) (by decide)) hk (fun _ h => h.2)) (fun _ h => h.1)); replace HO405 := Aside0.mk (Kd.R_mono (Kd.R_keep (IsS96.apart (show IsS96 w0 _ g s0_0 t401 t402 from iS96_) (rS_ HO405.out) (by decide)) hk (fun _ h => h.2)) (fun _ h => h.1)); replace HK := Aside0.mk (KeepBut.trans kK_ hk (.inl rfl)); replace HB := Aside0.mk (hb); replace HI0 := Aside0.mk (hi); (try clear hb hk hi)) | ((with_reducible refine gate_callee (f := 96) rfl ?_); refine gL_ (some 21) Try.func96 #[.pointer (some ⟨g, 0, none⟩), .int .i64 24] ?_; (with_reducible refine (spec_l01Next.calls g s0_0 t407 t408 24 t409 t410 t411 w0 _ ?side1 ?side2 A7.out).mono ?_); (case side1 => exact iS96_); (case side2 => exact bS96_); rintro e w61 ⟨rfl, hi, hb, hk⟩; refine ⟨_, rfl, ?_⟩; replace HO394 := Aside0.mk (Kd.R_mono (Kd.R_keep (IsS96.apart (show IsS96 w0 _ g s0_0 t407 t408 from iS96_) (rS_ HO394.out) (by decide)) hk (fun _ h => h.2)) (fun _ h => h.1)); replace HO405 := Aside0.mk (Kd.R_mono (Kd.R_keep (IsS96.apart (show IsS96 w0 _ g s0_0 t407 t408 from iS96_) (rS_ HO405.out) (by decide)) hk (fun _ h => h.2)) (fun _ h => h.1)); replace HK := Aside0.mk (KeepBut.trans kK_ hk (.inl rfl)); replace HB := Aside0.mk (hb); replace HI0 := Aside0.mk (hi); (try clear hb hk hi)) | ((with_reducible refine gate_dst (N := 48) rfl ?_); refine Kd.R_lit k57 _ 57 ?hg (N := 48) ?hd (xs := ([] : List (S57))) (inner := []) (ok := fun _ => True) (okp := fun _ => True) ?hr ?hp (fun _ hk => hk) trivial (Below.refl _ _) (Nat.le_refl _) (by simp) ?_; (case hd => rfl); (case hg => rfl); (case hr => first | (go_simp; done) | (go_simp; rfl)); (case hp => exact (Reps.none _ _)); intro v428 w62 ho63 hb hg_ hnew_; clear hg_ hnew_; (first | rw [← Ny427.out] at ho63 | (simp only [Int.reduceToNat] at ho63; rw [← Ny427.out] at ho63)); have HO429 := Aside0.mk (Kd.R_lower (Kd.R_new' (Kd.R_new' ho63 (Kd.R_lt (rS_ HO394.out))) (Kd.R_lt (rS_ HO405.out))) (keep_size (w := w) (g := g) (row := none) kK_)); replace HO394 := Aside0.mk (Kd.R_elder' (rS_ HO394.out) (Kd.R_base ho63) hb); replace HO405 := Aside0.mk (Kd.R_elder' (rS_ HO405.out) (Kd.R_base ho63) hb); replace HK := Aside0.mk (KeepBut.trans kK_ (KeepBut.of_below hb g none) (.inl rfl)); replace HB := Aside0.mk (below_step bS96_ hb); replace HI0 := Aside0.mk (IsS96.below iS96_ hb); clear hb ho63))
     go_loopg [5, 6] k (fun kq v5 v6 w' => ∃ (x5_1 : List (S57)) (x6_1 : Int) (x1001_1 : Int) (x1002_1 : Int), v6 = .int .i64 x6_1 ∧ Aside0 (spec_l02Draw.l0 kq x5_1 x6_1 s0_0 x1001_1 x1002_1 = some (r1, r2, r3)) ∧ Aside0 (kq ≤ k) ∧ Aside0 (Kd.R k57 57 w' w.heap.size (fun _ => True) v5 x5_1) ∧ Aside0 (IsS96 w0 w' g s0_0 x1001_1 x1002_1) ∧ Aside0 (KeepBut w w' g none) ∧ Aside0 (Below w0.heap.size w0 w'))
     case atStart => exact ⟨(y427), (0), (t410), (t411), r3_, H', ⟨Nat.le_refl _⟩, ⟨rS_ (Kd.R_mono HO429.out (fun _ hk => trivial))⟩, ⟨iS96_⟩, ⟨kK_⟩, ⟨bS96_⟩⟩
     case round =>
      clear H'
      try clear c1
      try clear p1
      try clear q1
      try clear hx1
      try clear hf1
      try clear c2
      try clear p2
      try clear hx2
      try clear hf2
      try clear c3
      try clear c4
      try clear p4
      try clear q4
      try clear hx4
      try clear c5
      try clear p6
      try clear c7
      try clear c8
      try clear c8b0
      try clear c8b1
      try clear c9
      try clear c10
      try clear c10b0
      try clear c11
      try clear c11b0
      try clear c12
      try clear c12b0
      try clear c13
      try clear c13b0
      try clear c14
      try clear p14
      try clear q14
      try clear hx14
      try clear hf14
      try clear c28
      try clear hx28
      try clear hf28
      try clear c31
      try clear c31b0
      try clear c31b1
      try clear c32
      try clear c32b0
      try clear c33
      try clear c33b0
      try clear c34
      try clear p41
      try clear q41
      try clear hx41
      try clear p42
      try clear q42
      try clear hx42
      try clear c44
      try clear c44b0
      try clear c44b1
      try clear c53
      try clear c53b0
      try clear c53b1
      try clear hx14_0
      try clear hx14_1
      try clear hx28_0
      try clear hx418_0
      try clear hx423_0
      try clear hx423_1
      try clear p14
      try clear p418
      try clear p423
      try clear q14
      try clear q418
      try clear q423
      obtain ⟨x5_1, x6_1, x1001_1, x1002_1, rfl, HA, HK1, HO_5, HI0, HK, HB⟩ := hrel
      cases gk with
      | zero => exact absurd HA.out (by simp [spec_l02Draw.l0])
      | succ k1 =>
       have H := HA.out
       clear HA
       simp only [spec_l02Draw.l0] at H
       replace H := Option.bind_eq_some_iff.mp H
       obtain ⟨⟨t430, t431, t432⟩, A640, H⟩ := H
       try dsimp only at H
       have A64 := Aside0.mk A640
       clear A640
       by_cases c65 : x6_1 < (wrap64 (40 + t430))
       ·rw [if_pos c65] at H
        have c65b0 : decide (x6_1 < (wrap64 (40 + t430))) = true := decide_eq_true c65
        clear c65
        by_cases c66 : x5_1.length < 8796093022208
        ·rw [if_pos c66] at H
         have LMc66 := Aside0.mk c66
         clear c66
         obtain ⟨y433, hY_⟩ : ∃ y_ : List (S57), y_ = (x5_1 ++ [(⟨x6_1, 0⟩ : S57)]) := ⟨_, rfl⟩
         replace H : (spec_l02Draw.l0 k1 y433 (wrap64 (x6_1 + 1)) s0_0 t431 t432) = some (r1, r2, r3) := yY_
         have Ny433 := Aside0.mk hY_
         clear hY_
         have H' := Aside0.mk H
         clear H
         go_wp2_with (first | ((with_reducible refine gate_callee (f := 96) rfl ?_); refine gL_ (some 51) Try.func96 #[.pointer (some ⟨g, 0, none⟩), .int .i64 2] ?_; (with_reducible refine (spec_l01Next.calls g s0_0 x1001_1 x1002_1 2 t430 t431 t432 w0 _ ?side1 ?side2 A64.out).mono ?_); (case side1 => exact iS96_); (case side2 => exact bS96_); rintro e w67 ⟨rfl, hi, hb, hk⟩; refine ⟨_, rfl, ?_⟩; replace HO_5 := Aside0.mk (Kd.R_mono (Kd.R_keep (IsS96.apart (show IsS96 w0 _ g s0_0 x1001_1 x1002_1 from iS96_) (rS_ HO_5.out) (by decide)) hk (fun _ h => h.2)) (fun _ h => h.1)); replace HK := Aside0.mk (KeepBut.trans kK_ hk (.inl rfl)); replace HB := Aside0.mk (hb); replace HI0 := Aside0.mk (hi); (try clear hb hk hi)) | ((with_reducible refine gate_builtin (b := .append) (xs := #[.tmp 56, .tmp 59]) rfl ?_); at_builtin; refine Kd.R_append k57 w.heap.size rfl (.tmp 56) (.tmp 59) 30 57 (.agg #[(.int .i64 0), (.int .i64 0)]) 16 rfl Try.underlying30 info57 rfl (by decide) (by omega) u5 x5_1 (⟨x6_1, 0⟩ : S57) [.int .i64 x6_1, .int .i64 0] (fun _ => True) (fun _ => False) rfl rfl ?aP (fun _ hk => hk.elim) ?aF ?aO (Below.refl _ _) ?aS ?aL ?_; (case aP => exact k57_mkM _ _ _ (⟨x6_1, 0⟩ : S57)); (case aF => exact (fun _ _ => trivial)); (case aO => exact (rS_ HO_5.out)); (case aS => exact (keep_size (w := w) (g := g) (row := none) kK_)); (case aL => have := LMc66.out; omega); intro v434 w68 ho hb hg hat; rw [← Ny433.out] at ho; replace HB := Aside0.mk (below_weaken bS96_ HL.out hb); replace HI0 := Aside0.mk (IsS96.grown iS96_ hg (IsS96.own_ne HI0.out HO_5.out (by decide))); replace HK := Aside0.mk (KeepBut.trans kK_ (KeepBut.of_grown hg g) (Kd.R_base2 HO_5.out)); have HO435 := Aside0.mk (ho); clear HO_5; clear ho hb hg hat))
         go_roundg k1
         case measure => have := HK1.out; omega
         case rel => exact ⟨(y433), (wrap64 (x6_1 + 1)), (t431), (t432), r3_, H', ⟨by have := HK1.out; omega⟩, ⟨rS_ HO435.out⟩, ⟨iS96_⟩, ⟨kK_⟩, ⟨bS96_⟩⟩
        ·rw [if_neg c66] at H
         exact absurd H (by simp)
       ·rw [if_neg c65] at H
        have c65b0 : decide (x6_1 < (wrap64 (40 + t430))) = false := decide_eq_false c65
        clear c65
        simp only [Option.some.injEq, Prod.mk.injEq] at H
        obtain ⟨rfl, rfl, rfl⟩ := H
        go_wp2_with (first | ((with_reducible refine gate_callee (f := 96) rfl ?_); refine gL_ (some 51) Try.func96 #[.pointer (some ⟨g, 0, none⟩), .int .i64 2] ?_; (with_reducible refine (spec_l01Next.calls g s0_0 x1001_1 x1002_1 2 t430 t431 t432 w0 _ ?side1 ?side2 A64.out).mono ?_); (case side1 => exact iS96_); (case side2 => exact bS96_); rintro e w69 ⟨rfl, hi, hb, hk⟩; refine ⟨_, rfl, ?_⟩; replace HO_5 := Aside0.mk (Kd.R_mono (Kd.R_keep (IsS96.apart (show IsS96 w0 _ g s0_0 x1001_1 x1002_1 from iS96_) (rS_ HO_5.out) (by decide)) hk (fun _ h => h.2)) (fun _ h => h.1)); replace HK := Aside0.mk (KeepBut.trans kK_ hk (.inl rfl)); replace HB := Aside0.mk (hb); replace HI0 := Aside0.mk (hi); (try clear hb hk hi)))
        go_ret
        exact ⟨_, r2_, rS_ HO_5.out, iS96_, bS96_, kK_⟩
    ·rw [if_neg c53] at H
     have c53b0 : (t409 == 3) = false := beq_eq_false_iff_ne.mpr c53
     have c53b1 : (t409 != 3) = true := bne_iff_ne.mpr c53
     by_cases c70 : t409 = 4
     ·rw [if_pos c70] at H
      have c70b0 : (t409 == 4) = true := beq_iff_eq.mpr c70
      have c70b1 : (t409 != 4) = false := bne_eq_false_iff_eq.mpr c70
      clear c70
      by_cases c71 : 0 < (t403.length : Int)
      ·rw [if_pos c71] at H
       have c71b0 : decide (0 < (t403.length : Int)) = true := decide_eq_true c71
       have c71b1 : decide (0 < t403.length) = true := decide_eq_true (by omega)
       clear c71
       obtain ⟨ji72, hji72⟩ : ∃ j_ : Int, (wrap64 ((t403.length : Int) - 1)) = j_ := ⟨_, rfl⟩
       replace H : (if 0 ≤ (ji72) then (if (ji72) < (t403.length : Int) then (if t403.length < 8796093022208 then (some ((t403 ++ [(⟨wrap64 (((rd_T57 t403 0).f0) + 3), wrap64 (((rd_T57 t403 (ji72)).f1) + 2)⟩ : S57)]), t410, t411)) else (none)) else (none)) else (none)) = some (r1, r2, r3) := by first | (rw [hji72] at H; exact H) | (simp only [hji72] at H ⊢; exact H)
       (try rw [hji72] at A2)
       (try rw [hji72] at A3)
       (try rw [hji72] at A4)
       (try rw [hji72] at A5)
       (try rw [hji72] at A6)
       (try rw [hji72] at A7)
       have hji72w : (IntKind.i64.wrap ((t403.length : Int) - 1)) = ji72 := (i64_w _).trans hji72
       by_cases c73 : 0 ≤ (ji72)
       ·rw [if_pos c73] at H
        have c73b0 : decide (0 ≤ (ji72)) = true := decide_eq_true c73
        clear c73
        by_cases c74 : (ji72) < (t403.length : Int)
        ·rw [if_pos c74] at H
         have c74b0 : decide ((ji72) < (t403.length : Int)) = true := decide_eq_true c74
         clear c74
         by_cases c75 : t403.length < 8796093022208
         ·rw [if_pos c75] at H
          have LMc75 := Aside0.mk c75
          clear c75
          obtain ⟨y438, hY_⟩ : ∃ y_ : List (S57), y_ = (t403 ++ [(⟨wrap64 (((rd_T57 t403 0).f0) + 3), wrap64 (((rd_T57 t403 (ji72)).f1) + 2)⟩ : S57)]) := ⟨_, rfl⟩
          replace H : (some (y438, t410, t411)) = some (r1, r2, r3) := yY_
          have Ny438 := Aside0.mk hY_
          clear hY_
          simp only [Option.some.injEq, Prod.mk.injEq] at H
          obtain ⟨rfl, rfl, rfl⟩ := H
          go_enter Try.func76, Try.ntmps76
          try go_wp2_with (first | ((with_reducible refine gate_callee (f := 110) rfl ?_); refine gL_ (some 8) Try.func110 #[.pointer (some ⟨g, 0, none⟩), .int .i64 8] ?_; (with_reducible refine (spec_l02DrawPoly.calls k g s0_0 s0_1 s0_2 8 t392 t395 t396 w0 _ ?side1 ?side2 A2.out).mono ?_); (case side1 => exact iS96_); (case side2 => exact bS96_); rintro e w76 ⟨v393, rfl, ho0, hi, hb, hk⟩; refine ⟨_, rfl, ?_⟩; have HO394 := Aside0.mk (Kd.R_lower ho0 (keep_size (w := w) (g := g) (row := none) kK_)); replace HK := Aside0.mk (KeepBut.trans kK_ hk (.inl rfl)); replace HB := Aside0.mk (hb); replace HI0 := Aside0.mk (hi); (try clear hb hk hi ho0)) | ((with_reducible refine gate_callee (f := 96) rfl ?_); refine gL_ (some 10) Try.func96 #[.pointer (some ⟨g, 0, none⟩), .int .i64 9] ?_; (with_reducible refine (spec_l01Next.calls g s0_0 t395 t396 9 t397 t398 t399 w0 _ ?side1 ?side2 A3.out).mono ?_); (case side1 => exact iS96_); (case side2 => exact bS96_); rintro e w77 ⟨rfl, hi, hb, hk⟩; refine ⟨_, rfl, ?_⟩; replace HO394 := Aside0.mk (Kd.R_mono (Kd.R_keep (IsS96.apart (show IsS96 w0 _ g s0_0 t395 t396 from iS96_) (rS_ HO394.out) (by decide)) hk (fun _ h => h.2)) (fun _ h => h.1)); replace HK := Aside0.mk (KeepBut.trans kK_ hk (.inl rfl)); replace HB := Aside0.mk (hb); replace HI0 := Aside0.mk (hi); (try clear hb hk hi)) | ((with_reducible refine gate_callee (f := 96) rfl ?_); refine gL_ (some 13) Try.func96 #[.pointer (some ⟨g, 0, none⟩), .int .i64 9] ?_; (with_reducible refine (spec_l01Next.calls g s0_0 t398 t399 9 t400 t401 t402 w0 _ ?side1 ?side2 A4.out).mono ?_); (case side1 => exact iS96_); (case side2 => exact bS96_); rintro e w78 ⟨rfl, hi, hb, hk⟩; refine ⟨_, rfl, ?_⟩; replace HO394 := Aside0.mk (Kd.R_mono (Kd.R_keep (IsS96.apart (show IsS96 w0 _ g s0_0 t398 t399 from iS96_) (rS_ HO394.out) (by decide)) hk (fun _ h => h.2)) (fun _ h => h.1)); replace HK := Aside0.mk (KeepBut.trans kK_ hk (.inl rfl)); replace HB := Aside0.mk (hb); replace HI0 := Aside0.mk (hi); (try clear hb hk hi); obtain ⟨Ao79, co79, eo79⟩ := Kd.R_slice HO394.out; subst eo79) | ((with_reducible refine gate_callee (f := 95) rfl ?_); refine gL_ (some 15) Try.func95 #[.slice Ao79 t392.length co79, .int .i64 (wrap64 (t397 - 4)), .int .i64 (wrap64 (t400 - 4))] ?_; (with_reducible refine (spec_l02Move.calls k _ _ t392 (wrap64 (t397 - 4)) (wrap64 (t400 - 4)) t403 _ ?side1 ?side2 A5.out).mono ?_); (case side1 => exact cS_ ((Kd.R_reads' HO394.out).2.2)); (case side2 => exact (Kd.R_reads' HO394.out).2.1); rintro e w80 ⟨v404, rfl, ho0, hb⟩; refine ⟨_, rfl, ?_⟩; have HO405 := Aside0.mk (Kd.R_lower (Kd.R_new' ho0 (Kd.R_lt (rS_ HO394.out))) (keep_size (w := w) (g := g) (row := none) kK_)); replace HO394 := Aside0.mk (Kd.R_elder' (rS_ HO394.out) (Kd.R_base ho0) hb); replace HK := Aside0.mk (KeepBut.trans kK_ (KeepBut.of_below hb g none) (.inl rfl)); replace HB := Aside0.mk (below_step bS96_ hb); replace HI0 := Aside0.mk (IsS96.below iS96_ hb); (try clear hb ho0); obtain ⟨Ao81, co81, eo81⟩ := Kd.R_slice HO405.out; subst eo81) | ((with_reducible refine gate_callee (f := 96) rfl ?_); refine gL_ (some 19) Try.func96 #[.pointer (some ⟨g, 0, none⟩), .int .i64 (t403.length : Int)] ?_; (with_reducible refine (spec_l01Next.calls g s0_0 t401 t402 (t403.length : Int) t406 t407 t408 w0 _ ?side1 ?side2 A6.out).mono ?_); (case side1 => exact iS96_); (case side2 => exact bS96_); rintro e w82 ⟨rfl, hi, hb, hk⟩; refine ⟨_, rfl, ?_⟩; replace HO394 := Aside0.mk (Kd.R_mono (Kd.R_keep (IsS96.apart (show IsS96 w0 _ g s0_0 t401 t402 from iS96_) (rS_ HO394.out) (by decide)) hk (fun _ h => h.2)) (fun _ h => h.1)); replace HO405 := Aside0.mk (Kd.R_mono (Kd.R_keep (IsS96.apart (show IsS96 w0 _ g s0_0 t401 t402 from iS96_) (rS_ HO405.out) (by decide)) hk (fun _ h => h.2)) (fun _ h => h.1)); replace HK := Aside0.mk (KeepBut.trans kK_ hk (.inl rfl)); replace HB := Aside0.mk (hb); replace HI0 := Aside0.mk (hi); (try clear hb hk hi)) | ((with_reducible refine gate_callee (f := 96) rfl ?_); refine gL_ (some 21) Try.func96 #[.pointer (some ⟨g, 0, none⟩), .int .i64 24] ?_; (with_reducible refine (spec_l01Next.calls g s0_0 t407 t408 24 t409 t410 t411 w0 _ ?side1 ?side2 A7.out).mono ?_); (case side1 => exact iS96_); (case side2 => exact bS96_); rintro e w83 ⟨rfl, hi, hb, hk⟩; refine ⟨_, rfl, ?_⟩; replace HO394 := Aside0.mk (Kd.R_mono (Kd.R_keep (IsS96.apart (show IsS96 w0 _ g s0_0 t407 t408 from iS96_) (rS_ HO394.out) (by decide)) hk (fun _ h => h.2)) (fun _ h => h.1)); replace HO405 := Aside0.mk (Kd.R_mono (Kd.R_keep (IsS96.apart (show IsS96 w0 _ g s0_0 t407 t408 from iS96_) (rS_ HO405.out) (by decide)) hk (fun _ h => h.2)) (fun _ h => h.1)); replace HK := Aside0.mk (KeepBut.trans kK_ hk (.inl rfl)); replace HB := Aside0.mk (hb); replace HI0 := Aside0.mk (hi); (try clear hb hk hi)))
          replace HO394 := Aside0.mk (Kd.R_drew HO394.out)
          replace HO405 := Aside0.mk (Kd.R_drew HO405.out)
          replace HI0 := Aside0.mk (IsS96.drew HI0.out)
          replace HK := Aside0.mk (keep_drew HK.out)
          replace HB := Aside0.mk (below_drew1 HB.out)
          have p436 : 0 ≤ (0 : Int) := (by omega)
          have q436 : 0 < (t403.length : Int) := of_decide_eq_true aS_
          obtain ⟨ad436, e436, hx436_0, hx436_1⟩ := at_T57 (Kd.R_reads' HO405.out).2.2 0 p436 q436
          cases e436
          have qi436 : (0 < t403.length) = True := eq_true (by omega)
          (try rw [show ((0 : Int)).toNat = 0 from rfl] at hx436_0)
          (try rw [show 0 * 2 = 0 from rfl] at hx436_0)
          (try rw [Addr.add_zero'] at hx436_0)
          (try rw [show ((0 : Int)).toNat = 0 from rfl] at hx436_1)
          (try rw [show 0 * 2 = 0 from rfl] at hx436_1)
          (try rw [Addr.add_zero'] at hx436_1)
          replace p436 := eq_true p436
          replace q436 := eq_true q436
          have p437 : 0 ≤ ((ji72) : Int) := of_decide_eq_true aS_
          have q437 : (ji72) < (t403.length : Int) := of_decide_eq_true aS_
          obtain ⟨ad437, e437, hx437_0, hx437_1⟩ := at_T57 (Kd.R_reads' HO405.out).2.2 (ji72) p437 q437
          obtain rfl : ad436 = ad437 := (by injection e437)
          replace p437 := eq_true p437
          replace q437 := eq_true q437
          refine start_ (n := 18) (S := fun w' => w'.cell? ad436 = some (.int .i64 ((rd_T57 t403 0).f0)) ∧ w'.cell? ⟨ad436.block, ad436.off + 1, none⟩ = some (.int .i64 ((rd_T57 t403 0).f1)) ∧ w'.cell? (ad436.add (((ji72)).toNat * 2)) = some (.int .i64 ((rd_T57 t403 (ji72)).f0)) ∧ w'.cell? ⟨(ad436.add (((ji72)).toNat * 2)).block, (ad436.add (((ji72)).toNat * 2)).off + 1, none⟩ = some (.int .i64 ((rd_T57 t403 (ji72)).f1))) (ds := [15, 16]) #[F, F, F, F, F, F, F, F, F, F, F, F, F, F, F, F, F, F] (by kernel_rfl) rfl rfl ⟨hx436_0, hx436_1, hx437_0, hx437_1⟩ (fun hHeld => ?_); refine with_tabW spec_l02Draw.tab20 spec_l02Draw.bits20 (fun HT_ HW_ => ?_)
          generalize w83.drew = w84 at HO394 HO405 HI0 HK HB hx436_0 hx436_1 hx437_0 hx437_1 hHeld ⊢
          refine pu_ HT_ 0 (some 65) #[T,F,F,F,F,F,F,F,F,F,F,F,F,F,F,F,F,F] ?_
          refine pu_ HT_ 1 (some 66) #[T,T,F,F,F,F,F,F,F,F,F,F,F,F,F,F,F,F] ?_
          refine pu_ HT_ 2 (some 67) #[T,T,T,F,F,F,F,F,F,F,F,F,F,F,F,F,F,F] ?_
          refine pu_ HT_ 3 (some 68) #[T,T,T,T,F,F,F,F,F,F,F,F,F,F,F,F,F,F] ?_
          refine pu_ HT_ 6 (some 71) #[T,T,T,T,F,F,T,F,F,F,F,F,F,F,F,F,F,F] ?_
          refine pu_ HT_ 7 (some 72) #[T,T,T,T,F,F,T,T,F,F,F,F,F,F,F,F,F,F] ?_
          refine pu_ HT_ 8 (some 73) #[T,T,T,T,F,F,T,T,T,F,F,F,F,F,F,F,F,F] ?_
          refine pu_ HT_ 9 (some 74) #[T,T,T,T,F,F,T,T,T,T,F,F,F,F,F,F,F,F] ?_
          refine pu_ HT_ 10 (some 75) #[T,T,T,T,F,F,T,T,T,T,T,F,F,F,F,F,F,F] ?_
          refine pu_ HT_ 11 (some 76) #[T,T,T,T,F,F,T,T,T,T,T,T,F,F,F,F,F,F] ?_
          refine take_ (i := 4) (N := some 69) (v := ?_) (a' := ?_) #[T, T, T, T, T, F, T, T, T, T, T, T, F, F, F, F, F, F] rfl rfl (take_ofW HT_.out HW_.out (by kernel_rfl)) (fun _ _ _ h => h) (Or.inl ⟨by rfl, ?_⟩) hHeld ?_ ?_
          rotate_left
          ·rintro w' ⟨s0, s1, s2, s3⟩
           go_simp
           with_reducible rfl
          rotate_left
          ·simp only [Act.put, List.setIfInBounds_toArray, List.set_cons_zero, List.set_cons_succ, i64_w, i32_w]
           rfl
          refine pu_ HT_ 5 (some 70) #[T,T,T,T,T,T,T,T,T,T,T,T,F,F,F,F,F,F] ?_
          refine take_ (i := 12) (N := some 77) (v := ?_) (a' := ?_) #[T, T, T, T, T, T, T, T, T, T, T, T, T, F, F, F, F, F] rfl rfl (take_ofW HT_.out HW_.out (by kernel_rfl)) (fun _ _ _ h => h) (Or.inl ⟨by rfl, ?_⟩) hHeld ?_ ?_
          rotate_left
          ·rintro w' ⟨s0, s1, s2, s3⟩
           go_simp
           with_reducible rfl
          rotate_left
          ·simp only [Act.put, List.setIfInBounds_toArray, List.set_cons_zero, List.set_cons_succ, i64_w, i32_w]
           rfl
          refine pu_ HT_ 13 (some 78) #[T,T,T,T,T,T,T,T,T,T,T,T,T,T,F,F,F,F] ?_
          refine pu_ HT_ 14 (some 79) #[T,T,T,T,T,T,T,T,T,T,T,T,T,T,T,F,F,F] ?_
          refine last_ (i := 15) (N := some 80) #[T, T, T, T, T, T, T, T, T, T, T, T, T, T, T, T, F, F] rfl rfl (one_of HT_.out (by kernel_rfl)) (by decide) (fun K hK => ?_)
          refine value_ (w1 := ?_) (v := ?_) (by rfl) rfl ?_ ?_
          rotate_left 2
          ·go_simp
           constructor
           ·rfl
           ·rfl
          refine hK.out _ _ ?_
          clear hK K
          refine no_ (some 80) ?_
          refine last_ (i := 16) (N := some 81) #[T, T, T, T, T, T, T, T, T, T, T, T, T, T, T, T, T, F] rfl rfl (one_of HT_.out (by kernel_rfl)) (by decide) (fun K hK => ?_)
          refine Kd.R_append_step k57 w.heap.size (by rfl) (.tmp 65) (.tmp 80) 30 57 (.agg #[(.int .i64 0), (.int .i64 0)]) 16 rfl Try.underlying30 info57 rfl (by decide) (by omega) (.slice (some ad436) t403.length co81) t403 (⟨wrap64 (((rd_T57 t403 0).f0) + 3), wrap64 (((rd_T57 t403 (ji72)).f1) + 2)⟩ : S57) [.int .i64 (wrap64 (((rd_T57 t403 0).f0) + 3)), .int .i64 (wrap64 (((rd_T57 t403 (ji72)).f1) + 2))] (fun k_ => some k_ ≠ (.slice Ao79 t392.length co79 : Value).ownBlock) (fun _ => False) rfl rfl ?aP (fun _ hk => hk.elim) ?aF ?aO (Below.refl _ _) ?aS ?aL ?_
          (case aP => exact k57_mkM _ _ _ (⟨wrap64 (((rd_T57 t403 0).f0) + 3), wrap64 (((rd_T57 t403 (ji72)).f1) + 2)⟩ : S57))
          (case aF => exact (fun k_ hk => Kd.fresh' (Kd.R_lt (rS_ HO394.out)) k_ hk))
          (case aO => exact (rS_ (Kd.R_mono HO405.out (fun _ hk => hk.2))))
          (case aS => exact (keep_size (w := w) (g := g) (row := none) kK_))
          (case aL => have := LMc75.out; omega)
          intro v439 w85 ho hb hg hat
          rw [← Ny438.out] at ho
          replace HO394 := Aside0.mk (Kd.R_after (ok := (fun _ => True)) (rS_ HO394.out) hg hat)
          replace HB := Aside0.mk (below_weaken bS96_ HL.out hb)
          replace HI0 := Aside0.mk (IsS96.grown iS96_ hg (IsS96.own_ne HI0.out HO405.out (by decide)))
          replace HK := Aside0.mk (KeepBut.trans kK_ (KeepBut.of_grown hg g) (Kd.R_base2 HO405.out))
          have HO440 := Aside0.mk (ho)
          clear HO405
          clear ho hb hg hat
          refine hK.out _ _ ?_
          clear hK K
          refine no_ (some 81) ?_
          refine pu_ HT_ 17 (some 2) #[T,T,T,T,T,T,T,T,T,T,T,T,T,T,T,T,T,T] ?_
          refine done_ (done_of HT_.out (by kernel_rfl)) ?_
          try go_wp2
          go_ret
          exact ⟨_, by first | rfl | (simp [errW_none, errW_some] <;> rfl) | (simp only [← hji72]; first | rfl | (simp [errW_none, errW_some] <;> rfl)) | (simp [*, errW_none, errW_some] <;> rfl), rS_ (Kd.R_mono HO440.out (fun _ hk => trivial)), iS96_, bS96_, kK_⟩
         ·rw [if_neg c75] at H
          exact absurd H (by simp)
        ·rw [if_neg c74] at H
         exact absurd H (by simp)
       ·rw [if_neg c73] at H
        exact absurd H (by simp)
      ·rw [if_neg c71] at H
       exact absurd H (by simp)
     ·rw [if_neg c70] at H
      have c70b0 : (t409 == 4) = false := beq_eq_false_iff_ne.mpr c70
      have c70b1 : (t409 != 4) = true := bne_iff_ne.mpr c70
      by_cases c86 : t409 = 5
      ·rw [if_pos c86] at H
       have c86b0 : (t409 == 5) = true := beq_iff_eq.mpr c86
       have c86b1 : (t409 != 5) = false := bne_eq_false_iff_eq.mpr c86
       clear c86
       by_cases c87 : 0 < (t403.length : Int)
       ·rw [if_pos c87] at H
        have c87b0 : decide (0 < (t403.length : Int)) = true := decide_eq_true c87
        have c87b1 : decide (0 < t403.length) = true := decide_eq_true (by omega)
        clear c87
        obtain ⟨ji88, hji88⟩ : ∃ j_ : Int, (wrap64 ((t403.length : Int) - 1)) = j_ := ⟨_, rfl⟩
        replace H : (if 0 ≤ (ji88) then (if (ji88) < (t403.length : Int) then (if t403.length < 8796093022208 then (some ((t403 ++ [(⟨wrap64 (((rd_T57 t403 0).f0) + 3), wrap64 (((rd_T57 t403 (ji88)).f1) + 2)⟩ : S57)]), t410, t411)) else (none)) else (none)) else (none)) = some (r1, r2, r3) := by first | (rw [hji88] at H; exact H) | (simp only [hji88] at H ⊢; exact H)
        (try rw [hji88] at A2)
        (try rw [hji88] at A3)
        (try rw [hji88] at A4)
        (try rw [hji88] at A5)
        (try rw [hji88] at A6)
        (try rw [hji88] at A7)
        have hji88w : (IntKind.i64.wrap ((t403.length : Int) - 1)) = ji88 := (i64_w _).trans hji88
        by_cases c89 : 0 ≤ (ji88)
        ·rw [if_pos c89] at H
         have c89b0 : decide (0 ≤ (ji88)) = true := decide_eq_true c89
         clear c89
         by_cases c90 : (ji88) < (t403.length : Int)
         ·rw [if_pos c90] at H
          have c90b0 : decide ((ji88) < (t403.length : Int)) = true := decide_eq_true c90
          clear c90
          by_cases c91 : t403.length < 8796093022208
          ·rw [if_pos c91] at H
           have LMc91 := Aside0.mk c91
           clear c91
           obtain ⟨y443, hY_⟩ : ∃ y_ : List (S57), y_ = (t403 ++ [(⟨wrap64 (((rd_T57 t403 0).f0) + 3), wrap64 (((rd_T57 t403 (ji88)).f1) + 2)⟩ : S57)]) := ⟨_, rfl⟩
           replace H : (some (y443, t410, t411)) = some (r1, r2, r3) := yY_
           have Ny443 := Aside0.mk hY_
           clear hY_
           simp only [Option.some.injEq, Prod.mk.injEq] at H
           obtain ⟨rfl, rfl, rfl⟩ := H
           go_enter Try.func76, Try.ntmps76
           try go_wp2_with (first | ((with_reducible refine gate_callee (f := 110) rfl ?_); refine gL_ (some 8) Try.func110 #[.pointer (some ⟨g, 0, none⟩), .int .i64 8] ?_; (with_reducible refine (spec_l02DrawPoly.calls k g s0_0 s0_1 s0_2 8 t392 t395 t396 w0 _ ?side1 ?side2 A2.out).mono ?_); (case side1 => exact iS96_); (case side2 => exact bS96_); rintro e w92 ⟨v393, rfl, ho0, hi, hb, hk⟩; refine ⟨_, rfl, ?_⟩; have HO394 := Aside0.mk (Kd.R_lower ho0 (keep_size (w := w) (g := g) (row := none) kK_)); replace HK := Aside0.mk (KeepBut.trans kK_ hk (.inl rfl)); replace HB := Aside0.mk (hb); replace HI0 := Aside0.mk (hi); (try clear hb hk hi ho0)) | ((with_reducible refine gate_callee (f := 96) rfl ?_); refine gL_ (some 10) Try.func96 #[.pointer (some ⟨g, 0, none⟩), .int .i64 9] ?_; (with_reducible refine (spec_l01Next.calls g s0_0 t395 t396 9 t397 t398 t399 w0 _ ?side1 ?side2 A3.out).mono ?_); (case side1 => exact iS96_); (case side2 => exact bS96_); rintro e w93 ⟨rfl, hi, hb, hk⟩; refine ⟨_, rfl, ?_⟩; replace HO394 := Aside0.mk (Kd.R_mono (Kd.R_keep (IsS96.apart (show IsS96 w0 _ g s0_0 t395 t396 from iS96_) (rS_ HO394.out) (by decide)) hk (fun _ h => h.2)) (fun _ h => h.1)); replace HK := Aside0.mk (KeepBut.trans kK_ hk (.inl rfl)); replace HB := Aside0.mk (hb); replace HI0 := Aside0.mk (hi); (try clear hb hk hi)) | ((with_reducible refine gate_callee (f := 96) rfl ?_); refine gL_ (some 13) Try.func96 #[.pointer (some ⟨g, 0, none⟩), .int .i64 9] ?_; (with_reducible refine (spec_l01Next.calls g s0_0 t398 t399 9 t400 t401 t402 w0 _ ?side1 ?side2 A4.out).mono ?_); (case side1 => exact iS96_); (case side2 => exact bS96_); rintro e w94 ⟨rfl, hi, hb, hk⟩; refine ⟨_, rfl, ?_⟩; replace HO394 := Aside0.mk (Kd.R_mono (Kd.R_keep (IsS96.apart (show IsS96 w0 _ g s0_0 t398 t399 from iS96_) (rS_ HO394.out) (by decide)) hk (fun _ h => h.2)) (fun _ h => h.1)); replace HK := Aside0.mk (KeepBut.trans kK_ hk (.inl rfl)); replace HB := Aside0.mk (hb); replace HI0 := Aside0.mk (hi); (try clear hb hk hi); obtain ⟨Ao95, co95, eo95⟩ := Kd.R_slice HO394.out; subst eo95) | ((with_reducible refine gate_callee (f := 95) rfl ?_); refine gL_ (some 15) Try.func95 #[.slice Ao95 t392.length co95, .int .i64 (wrap64 (t397 - 4)), .int .i64 (wrap64 (t400 - 4))] ?_; (with_reducible refine (spec_l02Move.calls k _ _ t392 (wrap64 (t397 - 4)) (wrap64 (t400 - 4)) t403 _ ?side1 ?side2 A5.out).mono ?_); (case side1 => exact cS_ ((Kd.R_reads' HO394.out).2.2)); (case side2 => exact (Kd.R_reads' HO394.out).2.1); rintro e w96 ⟨v404, rfl, ho0, hb⟩; refine ⟨_, rfl, ?_⟩; have HO405 := Aside0.mk (Kd.R_lower (Kd.R_new' ho0 (Kd.R_lt (rS_ HO394.out))) (keep_size (w := w) (g := g) (row := none) kK_)); replace HO394 := Aside0.mk (Kd.R_elder' (rS_ HO394.out) (Kd.R_base ho0) hb); replace HK := Aside0.mk (KeepBut.trans kK_ (KeepBut.of_below hb g none) (.inl rfl)); replace HB := Aside0.mk (below_step bS96_ hb); replace HI0 := Aside0.mk (IsS96.below iS96_ hb); (try clear hb ho0); obtain ⟨Ao97, co97, eo97⟩ := Kd.R_slice HO405.out; subst eo97) | ((with_reducible refine gate_callee (f := 96) rfl ?_); refine gL_ (some 19) Try.func96 #[.pointer (some ⟨g, 0, none⟩), .int .i64 (t403.length : Int)] ?_; (with_reducible refine (spec_l01Next.calls g s0_0 t401 t402 (t403.length : Int) t406 t407 t408 w0 _ ?side1 ?side2 A6.out).mono ?_); (case side1 => exact iS96_); (case side2 => exact bS96_); rintro e w98 ⟨rfl, hi, hb, hk⟩; refine ⟨_, rfl, ?_⟩; replace HO394 := Aside0.mk (Kd.R_mono (Kd.R_keep (IsS96.apart (show IsS96 w0 _ g s0_0 t401 t402 from iS96_) (rS_ HO394.out) (by decide)) hk (fun _ h => h.2)) (fun _ h => h.1)); replace HO405 := Aside0.mk (Kd.R_mono (Kd.R_keep (IsS96.apart (show IsS96 w0 _ g s0_0 t401 t402 from iS96_) (rS_ HO405.out) (by decide)) hk (fun _ h => h.2)) (fun _ h => h.1)); replace HK := Aside0.mk (KeepBut.trans kK_ hk (.inl rfl)); replace HB := Aside0.mk (hb); replace HI0 := Aside0.mk (hi); (try clear hb hk hi)) | ((with_reducible refine gate_callee (f := 96) rfl ?_); refine gL_ (some 21) Try.func96 #[.pointer (some ⟨g, 0, none⟩), .int .i64 24] ?_; (with_reducible refine (spec_l01Next.calls g s0_0 t407 t408 24 t409 t410 t411 w0 _ ?side1 ?side2 A7.out).mono ?_); (case side1 => exact iS96_); (case side2 => exact bS96_); rintro e w99 ⟨rfl, hi, hb, hk⟩; refine ⟨_, rfl, ?_⟩; replace HO394 := Aside0.mk (Kd.R_mono (Kd.R_keep (IsS96.apart (show IsS96 w0 _ g s0_0 t407 t408 from iS96_) (rS_ HO394.out) (by decide)) hk (fun _ h => h.2)) (fun _ h => h.1)); replace HO405 := Aside0.mk (Kd.R_mono (Kd.R_keep (IsS96.apart (show IsS96 w0 _ g s0_0 t407 t408 from iS96_) (rS_ HO405.out) (by decide)) hk (fun _ h => h.2)) (fun _ h => h.1)); replace HK := Aside0.mk (KeepBut.trans kK_ hk (.inl rfl)); replace HB := Aside0.mk (hb); replace HI0 := Aside0.mk (hi); (try clear hb hk hi)))
           replace HO394 := Aside0.mk (Kd.R_drew HO394.out)
           replace HO405 := Aside0.mk (Kd.R_drew HO405.out)
           replace HI0 := Aside0.mk (IsS96.drew HI0.out)
           replace HK := Aside0.mk (keep_drew HK.out)
           replace HB := Aside0.mk (below_drew1 HB.out)
           have p441 : 0 ≤ (0 : Int) := (by omega)
           have q441 : 0 < (t403.length : Int) := of_decide_eq_true aS_
           obtain ⟨ad441, e441, hx441_0, hx441_1⟩ := at_T57 (Kd.R_reads' HO405.out).2.2 0 p441 q441
           cases e441
           have qi441 : (0 < t403.length) = True := eq_true (by omega)
           (try rw [show ((0 : Int)).toNat = 0 from rfl] at hx441_0)
           (try rw [show 0 * 2 = 0 from rfl] at hx441_0)
           (try rw [Addr.add_zero'] at hx441_0)
           (try rw [show ((0 : Int)).toNat = 0 from rfl] at hx441_1)
           (try rw [show 0 * 2 = 0 from rfl] at hx441_1)
           (try rw [Addr.add_zero'] at hx441_1)
           replace p441 := eq_true p441
           replace q441 := eq_true q441
           have p442 : 0 ≤ ((ji88) : Int) := of_decide_eq_true aS_
           have q442 : (ji88) < (t403.length : Int) := of_decide_eq_true aS_
           obtain ⟨ad442, e442, hx442_0, hx442_1⟩ := at_T57 (Kd.R_reads' HO405.out).2.2 (ji88) p442 q442
           obtain rfl : ad441 = ad442 := (by injection e442)
           replace p442 := eq_true p442
           replace q442 := eq_true q442
           refine start_ (n := 18) (S := fun w' => w'.cell? ad441 = some (.int .i64 ((rd_T57 t403 0).f0)) ∧ w'.cell? ⟨ad441.block, ad441.off + 1, none⟩ = some (.int .i64 ((rd_T57 t403 0).f1)) ∧ w'.cell? (ad441.add (((ji88)).toNat * 2)) = some (.int .i64 ((rd_T57 t403 (ji88)).f0)) ∧ w'.cell? ⟨(ad441.add (((ji88)).toNat * 2)).block, (ad441.add (((ji88)).toNat * 2)).off + 1, none⟩ = some (.int .i64 ((rd_T57 t403 (ji88)).f1))) (ds := [15, 16]) #[F, F, F, F, F, F, F, F, F, F, F, F, F, F, F, F, F, F] (by kernel_rfl) rfl rfl ⟨hx441_0, hx441_1, hx442_0, hx442_1⟩ (fun hHeld => ?_); refine with_tabW spec_l02Draw.tab20 spec_l02Draw.bits20 (fun HT_ HW_ => ?_)
           generalize w99.drew = w100 at HO394 HO405 HI0 HK HB hx441_0 hx441_1 hx442_0 hx442_1 hHeld ⊢
           refine pu_ HT_ 0 (some 65) #[T,F,F,F,F,F,F,F,F,F,F,F,F,F,F,F,F,F] ?_
           refine pu_ HT_ 1 (some 66) #[T,T,F,F,F,F,F,F,F,F,F,F,F,F,F,F,F,F] ?_
           refine pu_ HT_ 2 (some 67) #[T,T,T,F,F,F,F,F,F,F,F,F,F,F,F,F,F,F] ?_
           refine pu_ HT_ 3 (some 68) #[T,T,T,T,F,F,F,F,F,F,F,F,F,F,F,F,F,F] ?_
           refine pu_ HT_ 6 (some 71) #[T,T,T,T,F,F,T,F,F,F,F,F,F,F,F,F,F,F] ?_
           refine pu_ HT_ 7 (some 72) #[T,T,T,T,F,F,T,T,F,F,F,F,F,F,F,F,F,F] ?_
           refine pu_ HT_ 8 (some 73) #[T,T,T,T,F,F,T,T,T,F,F,F,F,F,F,F,F,F] ?_
           refine pu_ HT_ 9 (some 74) #[T,T,T,T,F,F,T,T,T,T,F,F,F,F,F,F,F,F] ?_
           refine pu_ HT_ 10 (some 75) #[T,T,T,T,F,F,T,T,T,T,T,F,F,F,F,F,F,F] ?_
           refine pu_ HT_ 11 (some 76) #[T,T,T,T,F,F,T,T,T,T,T,T,F,F,F,F,F,F] ?_
           refine take_ (i := 4) (N := some 69) (v := ?_) (a' := ?_) #[T, T, T, T, T, F, T, T, T, T, T, T, F, F, F, F, F, F] rfl rfl (take_ofW HT_.out HW_.out (by kernel_rfl)) (fun _ _ _ h => h) (Or.inl ⟨by rfl, ?_⟩) hHeld ?_ ?_
           rotate_left
           ·rintro w' ⟨s0, s1, s2, s3⟩
            go_simp
            with_reducible rfl
           rotate_left
           ·simp only [Act.put, List.setIfInBounds_toArray, List.set_cons_zero, List.set_cons_succ, i64_w, i32_w]
            rfl
           refine pu_ HT_ 5 (some 70) #[T,T,T,T,T,T,T,T,T,T,T,T,F,F,F,F,F,F] ?_
           refine take_ (i := 12) (N := some 77) (v := ?_) (a' := ?_) #[T, T, T, T, T, T, T, T, T, T, T, T, T, F, F, F, F, F] rfl rfl (take_ofW HT_.out HW_.out (by kernel_rfl)) (fun _ _ _ h => h) (Or.inl ⟨by rfl, ?_⟩) hHeld ?_ ?_
           rotate_left
           ·rintro w' ⟨s0, s1, s2, s3⟩
            go_simp
            with_reducible rfl
           rotate_left
           ·simp only [Act.put, List.setIfInBounds_toArray, List.set_cons_zero, List.set_cons_succ, i64_w, i32_w]
            rfl
           refine pu_ HT_ 13 (some 78) #[T,T,T,T,T,T,T,T,T,T,T,T,T,T,F,F,F,F] ?_
           refine pu_ HT_ 14 (some 79) #[T,T,T,T,T,T,T,T,T,T,T,T,T,T,T,F,F,F] ?_
           refine last_ (i := 15) (N := some 80) #[T, T, T, T, T, T, T, T, T, T, T, T, T, T, T, T, F, F] rfl rfl (one_of HT_.out (by kernel_rfl)) (by decide) (fun K hK => ?_)
           refine value_ (w1 := ?_) (v := ?_) (by rfl) rfl ?_ ?_
           rotate_left 2
           ·go_simp
            constructor
            ·rfl
            ·rfl
           refine hK.out _ _ ?_
           clear hK K
           refine no_ (some 80) ?_
           refine last_ (i := 16) (N := some 81) #[T, T, T, T, T, T, T, T, T, T, T, T, T, T, T, T, T, F] rfl rfl (one_of HT_.out (by kernel_rfl)) (by decide) (fun K hK => ?_)
           refine Kd.R_append_step k57 w.heap.size (by rfl) (.tmp 65) (.tmp 80) 30 57 (.agg #[(.int .i64 0), (.int .i64 0)]) 16 rfl Try.underlying30 info57 rfl (by decide) (by omega) (.slice (some ad441) t403.length co97) t403 (⟨wrap64 (((rd_T57 t403 0).f0) + 3), wrap64 (((rd_T57 t403 (ji88)).f1) + 2)⟩ : S57) [.int .i64 (wrap64 (((rd_T57 t403 0).f0) + 3)), .int .i64 (wrap64 (((rd_T57 t403 (ji88)).f1) + 2))] (fun k_ => some k_ ≠ (.slice Ao95 t392.length co95 : Value).ownBlock) (fun _ => False) rfl rfl ?aP (fun _ hk => hk.elim) ?aF ?aO (Below.refl _ _) ?aS ?aL ?_
           (case aP => exact k57_mkM _ _ _ (⟨wrap64 (((rd_T57 t403 0).f0) + 3), wrap64 (((rd_T57 t403 (ji88)).f1) + 2)⟩ : S57))
           (case aF => exact (fun k_ hk => Kd.fresh' (Kd.R_lt (rS_ HO394.out)) k_ hk))
           (case aO => exact (rS_ (Kd.R_mono HO405.out (fun _ hk => hk.2))))
           (case aS => exact (keep_size (w := w) (g := g) (row := none) kK_))
           (case aL => have := LMc91.out; omega)
           intro v444 w101 ho hb hg hat
           rw [← Ny443.out] at ho
           replace HO394 := Aside0.mk (Kd.R_after (ok := (fun _ => True)) (rS_ HO394.out) hg hat)
           replace HB := Aside0.mk (below_weaken bS96_ HL.out hb)
           replace HI0 := Aside0.mk (IsS96.grown iS96_ hg (IsS96.own_ne HI0.out HO405.out (by decide)))
           replace HK := Aside0.mk (KeepBut.trans kK_ (KeepBut.of_grown hg g) (Kd.R_base2 HO405.out))
           have HO445 := Aside0.mk (ho)
           clear HO405
           clear ho hb hg hat
           refine hK.out _ _ ?_
           clear hK K
           refine no_ (some 81) ?_
           refine pu_ HT_ 17 (some 2) #[T,T,T,T,T,T,T,T,T,T,T,T,T,T,T,T,T,T] ?_
           refine done_ (done_of HT_.out (by kernel_rfl)) ?_
           try go_wp2
           go_ret
           exact ⟨_, by first | rfl | (simp [errW_none, errW_some] <;> rfl) | (simp only [← hji88]; first | rfl | (simp [errW_none, errW_some] <;> rfl)) | (simp [*, errW_none, errW_some] <;> rfl), rS_ (Kd.R_mono HO445.out (fun _ hk => trivial)), iS96_, bS96_, kK_⟩
          ·rw [if_neg c91] at H
           exact absurd H (by simp)
         ·rw [if_neg c90] at H
          exact absurd H (by simp)
        ·rw [if_neg c89] at H
         exact absurd H (by simp)
       ·rw [if_neg c87] at H
        exact absurd H (by simp)
      ·rw [if_neg c86] at H
       have c86b0 : (t409 == 5) = false := beq_eq_false_iff_ne.mpr c86
       have c86b1 : (t409 != 5) = true := bne_iff_ne.mpr c86
       simp only [Option.some.injEq, Prod.mk.injEq] at H
       obtain ⟨rfl, rfl, rfl⟩ := H
       go_enter Try.func76, Try.ntmps76
       go_wp2_with (first | ((with_reducible refine gate_callee (f := 110) rfl ?_); refine gL_ (some 8) Try.func110 #[.pointer (some ⟨g, 0, none⟩), .int .i64 8] ?_; (with_reducible refine (spec_l02DrawPoly.calls k g s0_0 s0_1 s0_2 8 t392 t395 t396 w0 _ ?side1 ?side2 A2.out).mono ?_); (case side1 => exact iS96_); (case side2 => exact bS96_); rintro e w102 ⟨v393, rfl, ho0, hi, hb, hk⟩; refine ⟨_, rfl, ?_⟩; have HO394 := Aside0.mk (Kd.R_lower ho0 (keep_size (w := w) (g := g) (row := none) kK_)); replace HK := Aside0.mk (KeepBut.trans kK_ hk (.inl rfl)); replace HB := Aside0.mk (hb); replace HI0 := Aside0.mk (hi); (try clear hb hk hi ho0)) | ((with_reducible refine gate_callee (f := 96) rfl ?_); refine gL_ (some 10) Try.func96 #[.pointer (some ⟨g, 0, none⟩), .int .i64 9] ?_; (with_reducible refine (spec_l01Next.calls g s0_0 t395 t396 9 t397 t398 t399 w0 _ ?side1 ?side2 A3.out).mono ?_); (case side1 => exact iS96_); (case side2 => exact bS96_); rintro e w103 ⟨rfl, hi, hb, hk⟩; refine ⟨_, rfl, ?_⟩; replace HO394 := Aside0.mk (Kd.R_mono (Kd.R_keep (IsS96.apart (show IsS96 w0 _ g s0_0 t395 t396 from iS96_) (rS_ HO394.out) (by decide)) hk (fun _ h => h.2)) (fun _ h => h.1)); replace HK := Aside0.mk (KeepBut.trans kK_ hk (.inl rfl)); replace HB := Aside0.mk (hb); replace HI0 := Aside0.mk (hi); (try clear hb hk hi)) | ((with_reducible refine gate_callee (f := 96) rfl ?_); refine gL_ (some 13) Try.func96 #[.pointer (some ⟨g, 0, none⟩), .int .i64 9] ?_; (with_reducible refine (spec_l01Next.calls g s0_0 t398 t399 9 t400 t401 t402 w0 _ ?side1 ?side2 A4.out).mono ?_); (case side1 => exact iS96_); (case side2 => exact bS96_); rintro e w104 ⟨rfl, hi, hb, hk⟩; refine ⟨_, rfl, ?_⟩; replace HO394 := Aside0.mk (Kd.R_mono (Kd.R_keep (IsS96.apart (show IsS96 w0 _ g s0_0 t398 t399 from iS96_) (rS_ HO394.out) (by decide)) hk (fun _ h => h.2)) (fun _ h => h.1)); replace HK := Aside0.mk (KeepBut.trans kK_ hk (.inl rfl)); replace HB := Aside0.mk (hb); replace HI0 := Aside0.mk (hi); (try clear hb hk hi); obtain ⟨Ao105, co105, eo105⟩ := Kd.R_slice HO394.out; subst eo105) | ((with_reducible refine gate_callee (f := 95) rfl ?_); refine gL_ (some 15) Try.func95 #[.slice Ao105 t392.length co105, .int .i64 (wrap64 (t397 - 4)), .int .i64 (wrap64 (t400 - 4))] ?_; (with_reducible refine (spec_l02Move.calls k _ _ t392 (wrap64 (t397 - 4)) (wrap64 (t400 - 4)) t403 _ ?side1 ?side2 A5.out).mono ?_); (case side1 => exact cS_ ((Kd.R_reads' HO394.out).2.2)); (case side2 => exact (Kd.R_reads' HO394.out).2.1); rintro e w106 ⟨v404, rfl, ho0, hb⟩; refine ⟨_, rfl, ?_⟩; have HO405 := Aside0.mk (Kd.R_lower (Kd.R_new' ho0 (Kd.R_lt (rS_ HO394.out))) (keep_size (w := w) (g := g) (row := none) kK_)); replace HO394 := Aside0.mk (Kd.R_elder' (rS_ HO394.out) (Kd.R_base ho0) hb); replace HK := Aside0.mk (KeepBut.trans kK_ (KeepBut.of_below hb g none) (.inl rfl)); replace HB := Aside0.mk (below_step bS96_ hb); replace HI0 := Aside0.mk (IsS96.below iS96_ hb); (try clear hb ho0); obtain ⟨Ao107, co107, eo107⟩ := Kd.R_slice HO405.out; subst eo107) | ((with_reducible refine gate_callee (f := 96) rfl ?_); refine gL_ (some 19) Try.func96 #[.pointer (some ⟨g, 0, none⟩), .int .i64 (t403.length : Int)] ?_; (with_reducible refine (spec_l01Next.calls g s0_0 t401 t402 (t403.length : Int) t406 t407 t408 w0 _ ?side1 ?side2 A6.out).mono ?_); (case side1 => exact iS96_); (case side2 => exact bS96_); rintro e w108 ⟨rfl, hi, hb, hk⟩; refine ⟨_, rfl, ?_⟩; replace HO394 := Aside0.mk (Kd.R_mono (Kd.R_keep (IsS96.apart (show IsS96 w0 _ g s0_0 t401 t402 from iS96_) (rS_ HO394.out) (by decide)) hk (fun _ h => h.2)) (fun _ h => h.1)); replace HO405 := Aside0.mk (Kd.R_mono (Kd.R_keep (IsS96.apart (show IsS96 w0 _ g s0_0 t401 t402 from iS96_) (rS_ HO405.out) (by decide)) hk (fun _ h => h.2)) (fun _ h => h.1)); replace HK := Aside0.mk (KeepBut.trans kK_ hk (.inl rfl)); replace HB := Aside0.mk (hb); replace HI0 := Aside0.mk (hi); (try clear hb hk hi)) | ((with_reducible refine gate_callee (f := 96) rfl ?_); refine gL_ (some 21) Try.func96 #[.pointer (some ⟨g, 0, none⟩), .int .i64 24] ?_; (with_reducible refine (spec_l01Next.calls g s0_0 t407 t408 24 t409 t410 t411 w0 _ ?side1 ?side2 A7.out).mono ?_); (case side1 => exact iS96_); (case side2 => exact bS96_); rintro e w109 ⟨rfl, hi, hb, hk⟩; refine ⟨_, rfl, ?_⟩; replace HO394 := Aside0.mk (Kd.R_mono (Kd.R_keep (IsS96.apart (show IsS96 w0 _ g s0_0 t407 t408 from iS96_) (rS_ HO394.out) (by decide)) hk (fun _ h => h.2)) (fun _ h => h.1)); replace HO405 := Aside0.mk (Kd.R_mono (Kd.R_keep (IsS96.apart (show IsS96 w0 _ g s0_0 t407 t408 from iS96_) (rS_ HO405.out) (by decide)) hk (fun _ h => h.2)) (fun _ h => h.1)); replace HK := Aside0.mk (KeepBut.trans kK_ hk (.inl rfl)); replace HB := Aside0.mk (hb); replace HI0 := Aside0.mk (hi); (try clear hb hk hi)))
       go_ret
       exact ⟨_, r2_, rS_ (Kd.R_mono HO405.out (fun _ hk => trivial)), iS96_, bS96_, kK_⟩

/-! ### spec_l01From: function 77 -/
def spec_l01From.l0 : Nat → List Int → Int → List Int → Int → Int → Option (List Int × Int × Int)
 | 0, _, _, _, _, _ => none
 | k + 1, x0, x4, x447000, x447001, x447002 => if x4 < (x0.length : Int) then (if x4 < 64 then (if 0 ≤ x4 then (spec_l01From.l0 k x0 (wrap64 (x4 + 1)) x447000 x447001 (Int.tmod (wrap64 ((wrap64 (x447002 * 47)) + (wrap64 (rd x0 x4)))) 2147483647)) else (none)) else (some (x447000, x447001, x447002))) else (some (x447000, x447001, x447002))
def spec_l01From.f (k : Nat) (l0 : List Int) : Option (List Int × Int × Int) := spec_l01From.l0 k l0 0 l0 0 61003
theorem spec_l01From.mono_l : ∀ k, (∀ y0 y1 y2 y3 y4, LeO (spec_l01From.l0 k y0 y1 y2 y3 y4) (spec_l01From.l0 (k + 1) y0 y1 y2 y3 y4))
 | 0 => fun _ _ _ _ _ r h => by simp [spec_l01From.l0] at h
 | k + 1 => by
  have ih0 := spec_l01From.mono_l k
  ·intro y0 y1 y2 y3 y4
   unfold spec_l01From.l0
   repeat' first
   | (with_reducible exact ih0 _ _ _ _ _)
   | (with_reducible exact LeO.refl _)
   | (with_reducible exact LeO.none _)
   | (with_reducible refine LeO.ite ?_ ?_)
   | (with_reducible refine LeO.bind ?_ (fun _ => ?_))
   | exact ih0 _ _ _ _ _
   | exact LeO.none _
   | refine LeO.ite ?_ ?_
   | refine LeO.bind ?_ (fun _ => ?_)
theorem spec_l01From.mono : ∀ a0 k, LeO (spec_l01From.f k a0) (spec_l01From.f (k + 1) a0) := by
 intro a0 k
 have ih0 := spec_l01From.mono_l k
 unfold spec_l01From.f
 repeat' first
   | (with_reducible exact ih0 _ _ _ _ _)
   | (with_reducible exact LeO.refl _)
   | (with_reducible exact LeO.none _)
   | (with_reducible refine LeO.ite ?_ ?_)
   | (with_reducible refine LeO.bind ?_ (fun _ => ?_))
   | exact ih0 _ _ _ _ _
   | exact LeO.none _
   | refine LeO.ite ?_ ?_
   | refine LeO.bind ?_ (fun _ => ?_)
def spec_l01From.T5 : Bool × List (List Nat × List Nat) := (true, [([], []), ([], []), ([1], [1]), ([2], [2]), ([3], [3]), ([4], [4]), ([], []), ([], []), ([6, 7], [6, 7]), ([8], [8]), ([9], [9]), ([5, 10], [5, 10]), ([11], [11]), ([0, 0, 1, 2, 3, 4, 5, 6, 7, 8, 9, 10, 11, 12], [0]), ([13, 0, 1, 2, 3, 4, 5, 6, 7, 8, 9, 10, 11, 12], [13]), ([14, 12, 0, 1, 2, 3, 4, 5, 6, 7, 8, 9, 10, 11, 12], [12, 14])])
def spec_l01From.B5 : List Nat := [0, 0, 2, 6, 14, 30, 0, 0, 192, 448, 960, 2046, 4094, 8191, 16383, 32767]
theorem spec_l01From.tab5 : rtab .any (opsOf Try.f77 5) = spec_l01From.T5 := by kernel_rfl
theorem spec_l01From.bits5 : waitsOk spec_l01From.T5.2 spec_l01From.B5 = true := by kernel_rfl
set_option maxHeartbeats 8000000 in
set_option maxRecDepth 100000 in
theorem spec_l01From.calls (k : Nat) (A0 : Option Addr) (c0 : Nat) (l0 : List Int) (r1 : List Int) (r2 : Int) (r3 : Int) (w0 w : World) (hB : Below w0.heap.size w0 w) (hr0 : Kd.C (Kd.int .u8) w0 A0 l0.length l0) (hc0 : l0.length ≤ c0) (h : spec_l01From.f k l0 = some (r1, r2, r3)) :
  Calls Try.prog 77 #[.slice A0 l0.length c0] w fun e w' => ∃ g_ : Nat, e = .returned (.pointer (some ⟨g_, 0, none⟩)) ∧ IsS96 w0 w' g_ r1 r2 r3 ∧ Below w0.heap.size w0 w' ∧ Below w.heap.size w w' := by
 have hu96 := Try.underlying96
 have HR0 := Aside0.mk hr0
 have HC0 := Aside0.mk hc0
 clear hr0 hc0
 have HBW := Aside0.mk (Below.refl w.heap.size w)
 have HW0 := Aside0.mk hB.size
 have HB := Aside0.mk hB
 clear hB
 have H : (spec_l01From.l0 k l0 0 l0 0 61003) = some (r1, r2, r3) := h
 clear h
 have H' := Aside0.mk H
 clear H
 go_enter Try.func77, Try.ntmps77
 go_wp2_with (first | ((with_reducible refine gate_dst (N := 7) rfl ?_); refine box_event ?hg (N := 7) ?hd (cs := #[.slice A0 l0.length c0, .int .i64 0, .int .i64 61003]) (t := 96) ?hr ?_; (case hd => rfl); (case hg => rfl); (case hr => first | (go_simp; done) | (go_simp; rfl)); intro gb446 hg w2 hbox hb; replace HB := Aside0.mk (below_step bB_ hb); have BK446 := Aside0.mk (hbox); have GW446 := Aside0.mk ((by rw [hg]; exact (below_size (by repeat (first | (with_reducible first | exact HBW.out | apply below_alloc | apply pw_below_drewN | apply below_drew1) | exact HBW.out))) : w.heap.size ≤ gb446)); have GE446 := Aside0.mk ((Nat.le_trans HW0.out (by rw [hg]; exact (below_size (by repeat (first | (with_reducible first | exact HBW.out | apply below_alloc | apply pw_below_drewN | apply below_drew1) | exact HBW.out))) : w.heap.size ≤ gb446) : w0.heap.size ≤ gb446)); replace HBW := Aside0.mk (below_step HBW.out hb); clear hb hbox hg))
 go_loopg [4] k (fun kq v4 w' => ∃ (x4_1 : Int) (x447002_1 : Int), v4 = .int .i64 x4_1 ∧ Aside0 (spec_l01From.l0 kq l0 x4_1 l0 0 x447002_1 = some (r1, r2, r3)) ∧ Aside0 (kq ≤ k) ∧ Aside0 (w'.heap[gb446]? = some (.cells #[(.slice A0 l0.length c0), .int .i64 0, .int .i64 x447002_1] 96 (0, 0))) ∧ Aside0 (Below w0.heap.size w0 w') ∧ Aside0 (Below w.heap.size w w'))
 case atStart => exact ⟨(0), (61003), r3_, H', ⟨Nat.le_refl _⟩, ⟨by (with_reducible repeat (first | refine blk_drewN ?_ _ | refine blk_drew ?_ | refine blk_alloc ?_ _)); exact BK446.out⟩, ⟨by repeat (first | (with_reducible first | exact HB.out | apply below_alloc | apply pw_below_drewN | apply below_drew1 | refine below_set ?_ GE446.out) | exact HB.out)⟩, ⟨by repeat (first | (with_reducible first | exact HBW.out | apply below_alloc | apply pw_below_drewN | apply below_drew1 | refine below_set ?_ GW446.out) | exact HBW.out)⟩⟩
 case round =>
  clear H'
  try clear p2
  obtain ⟨x4_1, x447002_1, rfl, HA, HK1, BK446, HB, HBW⟩ := hrel
  cases gk with
  | zero => exact absurd HA.out (by simp [spec_l01From.l0])
  | succ k1 =>
   have H := HA.out
   clear HA
   simp only [spec_l01From.l0] at H
   by_cases c3 : x4_1 < (l0.length : Int)
   ·rw [if_pos c3] at H
    have c3b0 : decide (x4_1 < (l0.length : Int)) = true := decide_eq_true c3
    clear c3
    by_cases c4 : x4_1 < 64
    ·rw [if_pos c4] at H
     have c4b0 : decide (x4_1 < 64) = true := decide_eq_true c4
     clear c4
     by_cases c5 : 0 ≤ x4_1
     ·rw [if_pos c5] at H
      have c5b0 : decide (0 ≤ x4_1) = true := decide_eq_true c5
      clear c5
      have H' := Aside0.mk H
      clear H
      try go_wp2
      replace BK446 := Aside0.mk (blk_drew BK446.out)
      replace HB := Aside0.mk (below_drew1 HB.out)
      replace HBW := Aside0.mk (below_drew1 HBW.out)
      have p447 : 0 ≤ (x4_1 : Int) := of_decide_eq_true aS_
      have q447 : x4_1 < (l0.length : Int) := of_decide_eq_true aS_
      obtain ⟨ad447, e447, hx447_0⟩ := Kd.at_int HR0.out x4_1 p447 q447
      have hw447_0 := hx447_0
      cases e447
      replace hx447_0 := pw_cell_below HB.out hx447_0
      replace p447 := eq_true p447
      replace q447 := eq_true q447
      refine start_ (n := 16) (S := fun w' => w'.cell? ⟨gb446, 0, none⟩ = some (.slice (some ad447) l0.length c0) ∧ w'.cell? ⟨gb446, 1, none⟩ = some (.int .i64 0) ∧ w'.cell? ⟨gb446, 2, none⟩ = some (.int .i64 x447002_1) ∧ w'.cell? (ad447.add (x4_1).toNat) = some (.int .u8 (rd l0 x4_1))) (ds := [15]) #[F, F, F, F, F, F, F, F, F, F, F, F, F, F, F, F] (by kernel_rfl) rfl rfl ⟨(blk_cell BK446.out 0).trans rfl, (blk_cell BK446.out 1).trans rfl, (blk_cell BK446.out 2).trans rfl, ((HB.out.cell (World.block_lt_of_cell? w0 _ hw447_0)).trans hw447_0)⟩ (fun hHeld => ?_); refine with_tabW spec_l01From.tab5 spec_l01From.bits5 (fun HT_ HW_ => ?_)
      generalize wr.drew = w6 at BK446 HB HBW hx447_0 hHeld ⊢
      refine pu_ HT_ 0 (some 18) #[T,F,F,F,F,F,F,F,F,F,F,F,F,F,F,F] ?_
      refine pu_ HT_ 1 (some 19) #[T,T,F,F,F,F,F,F,F,F,F,F,F,F,F,F] ?_
      refine pu_ HT_ 2 (some 20) #[T,T,T,F,F,F,F,F,F,F,F,F,F,F,F,F] ?_
      refine pu_ HT_ 3 (some 21) #[T,T,T,T,F,F,F,F,F,F,F,F,F,F,F,F] ?_
      refine pu_ HT_ 6 (some 24) #[T,T,T,T,F,F,T,F,F,F,F,F,F,F,F,F] ?_
      refine pu_ HT_ 7 (some 25) #[T,T,T,T,F,F,T,T,F,F,F,F,F,F,F,F] ?_
      refine pu_ HT_ 8 (some 26) #[T,T,T,T,F,F,T,T,T,F,F,F,F,F,F,F] ?_
      refine take_ (i := 4) (N := some 22) (v := ?_) (a' := ?_) #[T, T, T, T, T, F, T, T, T, F, F, F, F, F, F, F] rfl rfl (take_ofW HT_.out HW_.out (by kernel_rfl)) (fun _ _ _ h => h) (Or.inl ⟨by rfl, ?_⟩) hHeld ?_ ?_
      rotate_left
      ·rintro w' ⟨s0, s1, s2, s3⟩
       go_simp
       with_reducible rfl
      rotate_left
      ·simp only [Act.put, List.setIfInBounds_toArray, List.set_cons_zero, List.set_cons_succ, i64_w, i32_w]
       rfl
      refine pu_ HT_ 5 (some 23) #[T,T,T,T,T,T,T,T,T,F,F,F,F,F,F,F] ?_
      refine take_ (i := 9) (N := some 27) (v := ?_) (a' := ?_) #[T, T, T, T, T, T, T, T, T, T, F, F, F, F, F, F] rfl rfl (take_ofW HT_.out HW_.out (by kernel_rfl)) (fun _ _ _ h => h) (Or.inl ⟨by rfl, ?_⟩) hHeld ?_ ?_
      rotate_left
      ·rintro w' ⟨s0, s1, s2, s3⟩
       go_simp
       with_reducible rfl
      rotate_left
      ·simp only [Act.put, List.setIfInBounds_toArray, List.set_cons_zero, List.set_cons_succ, i64_w, i32_w]
       rfl
      refine pu_ HT_ 10 (some 28) #[T,T,T,T,T,T,T,T,T,T,T,F,F,F,F,F] ?_
      refine pu_ HT_ 11 (some 29) #[T,T,T,T,T,T,T,T,T,T,T,T,F,F,F,F] ?_
      refine pu_ HT_ 12 (some 30) #[T,T,T,T,T,T,T,T,T,T,T,T,T,F,F,F] ?_
      refine pu_ HT_ 13 (some 31) #[T,T,T,T,T,T,T,T,T,T,T,T,T,T,F,F] ?_
      refine pu_ HT_ 14 (some 32) #[T,T,T,T,T,T,T,T,T,T,T,T,T,T,T,F] ?_
      refine last_ (i := 15) (N := none) #[T, T, T, T, T, T, T, T, T, T, T, T, T, T, T, T] rfl rfl (one_of HT_.out (by kernel_rfl)) (by decide) (fun K hK => ?_)
      have hs7 : w6.cell? ⟨gb446, 2, none⟩ = some (.int .i64 x447002_1) := (blk_cell BK446.out 2).trans rfl
      have hfs7 := blk_frozen BK446.out 2
      refine skip_ (w1 := ?_) (by rfl) rfl ?_ ?_
      rotate_left
      ·go_simp
       rfl
      refine hK.out _ _ ?_
      clear hK K
      refine done_ (done_of HT_.out (by kernel_rfl)) ?_
      try go_wp2
      go_roundg k1
      case measure => have := HK1.out; omega
      case rel => exact ⟨(wrap64 (x4_1 + 1)), (Int.tmod (wrap64 ((wrap64 (x447002_1 * 47)) + (wrap64 (rd l0 x4_1)))) 2147483647), r3_, H', ⟨by have := HK1.out; omega⟩, ⟨by (with_reducible repeat (first | refine blk_drewN ?_ _ | refine blk_drew ?_ | refine blk_alloc ?_ _)); refine blk_put (cs := #[.slice (some ad447) l0.length c0, .int .i64 0, .int .i64 x447002_1]) ?_ 2 _ rfl; (with_reducible repeat (first | refine blk_drewN ?_ _ | refine blk_drew ?_ | refine blk_alloc ?_ _)); exact BK446.out⟩, ⟨by repeat (first | (with_reducible first | exact HB.out | apply below_alloc | apply pw_below_drewN | apply below_drew1 | refine below_set ?_ GE446.out) | exact HB.out)⟩, ⟨by repeat (first | (with_reducible first | exact HBW.out | apply below_alloc | apply pw_below_drewN | apply below_drew1 | refine below_set ?_ GW446.out) | exact HBW.out)⟩⟩
     ·rw [if_neg c5] at H
      exact absurd H (by simp)
    ·rw [if_neg c4] at H
     have c4b0 : decide (x4_1 < 64) = false := decide_eq_false c4
     clear c4
     simp only [Option.some.injEq, Prod.mk.injEq] at H
     obtain ⟨rfl, rfl, rfl⟩ := H
     go_wp2
     go_ret
     exact ⟨_, rfl, (show IsS96 w0 _ gb446 l0 0 x447002_1 from ⟨_, _, by (with_reducible repeat (first | refine blk_drewN ?_ _ | refine blk_drew ?_ | refine blk_alloc ?_ _)); exact BK446.out, GE446.out, HR0.out⟩), by repeat (first | (with_reducible first | exact HB.out | apply below_alloc | apply pw_below_drewN | apply below_drew1 | refine below_set ?_ GE446.out) | exact HB.out), by repeat (first | (with_reducible first | exact HBW.out | apply below_alloc | apply pw_below_drewN | apply below_drew1 | refine below_set ?_ GW446.out) | exact HBW.out)⟩
   ·rw [if_neg c3] at H
    have c3b0 : decide (x4_1 < (l0.length : Int)) = false := decide_eq_false c3
    clear c3
    simp only [Option.some.injEq, Prod.mk.injEq] at H
    obtain ⟨rfl, rfl, rfl⟩ := H
    go_wp2
    go_ret
    exact ⟨_, rfl, (show IsS96 w0 _ gb446 l0 0 x447002_1 from ⟨_, _, by (with_reducible repeat (first | refine blk_drewN ?_ _ | refine blk_drew ?_ | refine blk_alloc ?_ _)); exact BK446.out, GE446.out, HR0.out⟩), by repeat (first | (with_reducible first | exact HB.out | apply below_alloc | apply pw_below_drewN | apply below_drew1 | refine below_set ?_ GE446.out) | exact HB.out), by repeat (first | (with_reducible first | exact HBW.out | apply below_alloc | apply pw_below_drewN | apply below_drew1 | refine below_set ?_ GW446.out) | exact HBW.out)⟩

end Go.Proofs.Ytbfmocohknadkaa.X
