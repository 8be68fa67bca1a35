-- Written by xprint.py, a program of this session, on the kit's print.py: functions of the seat in one namespace.
import Derived.Test.YtlhlilgienicfaaXx0
import Derived.Test.YtlhlilgienicfaaXx2
import Derived.Test.YtlhlilgienicfaaXx3
import Derived.Test.YtlhlilgienicfaaXx4
import Derived.Test.YtlhlilgienicfaaXx5
import Derived.Test.YtlhlilgienicfaaXx6
namespace Go.Proofs.Ytlhlilgienicfaa.X
open Go.RowKit Go.Proofs.YtlhlilgienicfaaW.PrintWords Go.Proofs.YtlhlilgienicfaaW.PrintLast Go.Proofs.YtlhlilgienicfaaW.PrintMore
attribute [local go_sem] max2_int min2_int max_two min_two max_three min_three max_four min_four   -- for this text's walks alone
set_option linter.unusedVariables false
set_option linter.unusedSimpArgs false

/-! ### spec_LongestLine: function 32, by hand -/
/-- how many cells follow one another from a place on, one step after the other -/
def spec_LongestLine.line (l0 : List S34) (dx dy : Int) : Nat → Int → Int → Int → Option Int
  | 0, _, _, _ => none
  | k + 1, x, y, n => (spec_l02Index.f k l0 x y).bind fun t => if t ≥ 0 then spec_LongestLine.line l0 dx dy k (wrap64 (x + dx)) (wrap64 (y + dy)) (wrap64 (n + 1)) else some n
def spec_LongestLine.go (k : Nat) (l0 : List S34) : List S34 → Int → Option (Int × Int)
  | [], b => some (b, 0)
  | c :: r, b => (spec_LongestLine.line l0 1 0 k c.f0 c.f1 0).bind fun n1 => (spec_LongestLine.line l0 0 1 k c.f0 c.f1 0).bind fun n2 => spec_LongestLine.go k l0 r (mx (mx b n1) n2)
def spec_LongestLine.f (k : Nat) (l0 : List S34) : Option (Int × Int) := (spec_IsShape.f k l0).bind fun t => if t = true then spec_LongestLine.go k l0 l0 0 else some (0, 1)
theorem spec_LongestLine.mono_line (l0 : List S34) (dx dy : Int) : ∀ k x y n, LeO (spec_LongestLine.line l0 dx dy k x y n) (spec_LongestLine.line l0 dx dy (k + 1) x y n) := by
  intro k
  induction k with
  | zero => intro x y n; exact LeO.none _
  | succ k ih => intro x y n; exact LeO.bind (spec_l02Index.mono _ _ _ k) (fun t => LeO.ite (ih _ _ _) (LeO.refl _))
theorem spec_LongestLine.mono : ∀ a0 k, LeO (spec_LongestLine.f k a0) (spec_LongestLine.f (k + 1) a0) := by
  intro a0 k
  have h : ∀ r b, LeO (spec_LongestLine.go k a0 r b) (spec_LongestLine.go (k + 1) a0 r b) := by
    intro r
    induction r with
    | nil => intro b; exact LeO.refl _
    | cons c r ih =>
      intro b
      exact LeO.bind (spec_LongestLine.mono_line a0 1 0 k c.f0 c.f1 0) (fun n1 => LeO.bind (spec_LongestLine.mono_line a0 0 1 k c.f0 c.f1 0) (fun n2 => ih _))
  exact LeO.bind (spec_IsShape.mono _ k) (fun t => LeO.ite (h _ _) (LeO.refl _))
set_option maxHeartbeats 8000000 in
set_option maxRecDepth 100000 in
theorem spec_LongestLine.calls (k : Nat) (A0 : Option Addr) (c0 : Nat) (l0 : List S34) (r1 : Int) (r2 : Int) (w : World) (hr0 : Kd.C k34 w A0 l0.length l0) (hc0 : l0.length ≤ c0) (h : spec_LongestLine.f k l0 = some (r1, r2)) :
    Calls Try.prog 32 #[.slice A0 l0.length c0] w fun e w' => e = .returned (.tuple #[.int .i64 r1, .int .i64 r2]) ∧ Below w.heap.size w w' := by
  have HR0 := Aside0.mk hr0
  have HC0 := Aside0.mk hc0
  have hlen : l0.length ≤ 9223372036854775807 := hr0.2.1
  clear hr0 hc0
  have HB := Aside0.mk (Below.refl w.heap.size w)
  obtain ⟨t, ht, h⟩ := Option.bind_eq_some_iff.mp h
  have HT := Aside0.mk ht
  clear ht
  cases t with
  | false =>
    simp only [Bool.false_eq_true, if_false, Option.some.injEq, Prod.mk.injEq] at h
    obtain ⟨rfl, rfl⟩ := h
    go_enter Try.func32, Try.ntmps32
    go_wp2_with fail
    refine (spec_IsShape.calls k A0 c0 l0 false _ HR0.out HC0.out HT.out).mono ?_
    rintro e w1 ⟨rfl, hb⟩
    have HB1 := Aside0.mk hb
    clear hb
    go_wp2_with fail
    go_ret2
    exact ⟨rfl, HB1.out⟩
  | true =>
    simp only [if_true] at h
    have H0 : Aside0 (spec_LongestLine.go k l0 (l0.drop 0) 0 = some (r1, r2)) := ⟨h⟩
    clear h
    go_enter Try.func32, Try.ntmps32
    go_wp2_with fail
    refine (spec_IsShape.calls k A0 c0 l0 true _ HR0.out HC0.out HT.out).mono ?_
    rintro e w1 ⟨rfl, hb⟩
    have HB1 := Aside0.mk hb
    clear hb HB HT
    go_wp2_with fail
    go_loopg [4, 5] l0.length (fun gk v4 v5 w' => ∃ (j : Nat) (b : Int), v4 = .int .i64 b ∧ v5 = .int .i64 j ∧ Aside0 (gk + j = l0.length) ∧ Aside0 (spec_LongestLine.go k l0 (l0.drop j) b = some (r1, r2)) ∧ Aside0 (Below w.heap.size w w'))
    case atStart => exact ⟨0, 0, rfl, rfl, ⟨rfl⟩, H0, HB1⟩
    case round =>
      clear H0 HB1
      obtain ⟨j, b, rfl, rfl, HK, HG, HB⟩ := hrel
      cases gk with
      | zero =>
        have hj : j = l0.length := by have := HK.out; omega
        have c1 : decide ((j : Int) < (l0.length : Int)) = false := decide_eq_false (by omega)
        have c2 : decide (j < l0.length) = false := decide_eq_false (by omega)
        have HJ := Aside0.mk hj
        clear hj
        have h := HG.out
        rw [HJ.out, List.drop_length] at h
        have h2 : some (b, (0 : Int)) = some (r1, r2) := h
        simp only [Option.some.injEq, Prod.mk.injEq] at h2
        obtain ⟨rfl, rfl⟩ := h2
        clear HG h
        go_wp2_with fail
        go_ret2
        exact ⟨rfl, HB.out⟩
      | succ gko =>
        have hj : j < l0.length := by have := HK.out; omega
        have HJ := Aside0.mk hj
        have p1 : 0 ≤ (j : Int) := by omega
        have q1 : (j : Int) < (l0.length : Int) := by omega
        obtain ⟨ad, e1, hx0, hx1⟩ := at_T34 HR0.out j p1 q1
        cases e1
        rw [Int.toNat_natCast] at hx0 hx1
        have c1 : decide ((j : Int) < (l0.length : Int)) = true := decide_eq_true q1
        have c2 : decide (j < l0.length) = true := decide_eq_true hj
        have hd : l0.drop j = rd_T34 l0 j :: l0.drop (j + 1) := by
          rw [List.drop_eq_getElem_cons hj]; congr 1
          unfold rd_T34; rw [List.getD_eq_getElem?_getD, Int.toNat_natCast, List.getElem?_eq_getElem hj]; rfl
        have HG2 := HG.out
        rw [hd] at HG2
        clear hd HG
        generalize hcc : rd_T34 l0 (j : Int) = cc at *
        clear hcc
        replace HG2 : ((spec_LongestLine.line l0 1 0 k cc.f0 cc.f1 0).bind fun n1 => (spec_LongestLine.line l0 0 1 k cc.f0 cc.f1 0).bind fun n2 => spec_LongestLine.go k l0 (l0.drop (j + 1)) (mx (mx b n1) n2)) = some (r1, r2) := HG2
        obtain ⟨n1, h1, HG3⟩ := Option.bind_eq_some_iff.mp HG2
        obtain ⟨n2, h2, HG4⟩ := Option.bind_eq_some_iff.mp HG3
        have H1 := Aside0.mk h1
        have H2 := Aside0.mk h2
        have HN := Aside0.mk HG4
        have HX0 := Aside0.mk hx0
        have HX1 := Aside0.mk hx1
        clear HG2 HG3 HG4 h1 h2 hj hx0 hx1
        go_wp2_with fail
        obtain ⟨W1, hW1⟩ : ∃ W1 : World, W1 = wr.alloc (.cells #[.int .i64 1, .int .i64 0, .int .i64 0, .int .i64 1] 34) := ⟨_, rfl⟩
        have HBA : Aside0 (Below w.heap.size w W1) := ⟨by rw [hW1]; exact below_alloc HB.out _⟩
        have hblk : W1.heap[wr.heap.size]? = some (.cells #[.int .i64 1, .int .i64 0, .int .i64 0, .int .i64 1] 34 (0, 0)) := by rw [hW1]; exact heap_alloc_new wr _
        generalize hG1 : wr.heap.size = G1 at hblk ⊢
        rw [← hW1]
        clear hG1 hW1
        have HS0 : Aside0 (W1.cell? ⟨G1, 0, none⟩ = some (.int .i64 1)) := ⟨(blk_cell hblk 0).trans rfl⟩
        have HS1 : Aside0 (W1.cell? ⟨G1, 1, none⟩ = some (.int .i64 0)) := ⟨(blk_cell hblk 1).trans rfl⟩
        have HS2 : Aside0 (W1.cell? ⟨G1, 2, none⟩ = some (.int .i64 0)) := ⟨(blk_cell hblk 2).trans rfl⟩
        have HS3 : Aside0 (W1.cell? ⟨G1, 3, none⟩ = some (.int .i64 1)) := ⟨(blk_cell hblk 3).trans rfl⟩
        clear hblk
        have HBw := Aside0.mk (Below.refl W1.heap.size W1)
        go_loopg [4, 7] 2 (fun gk v4 v7 w' => ∃ (i : Nat) (q : Int), v4 = .int .i64 q ∧ v7 = .int .i64 i ∧ Aside0 (gk + i = 2) ∧ Aside0 (q = [b, mx b n1, mx (mx b n1) n2].getD i 0) ∧ Aside0 (Below W1.heap.size W1 w'))
        case atStart => exact ⟨0, b, rfl, rfl, ⟨rfl⟩, ⟨rfl⟩, HBw⟩
        case round =>
          clear HBw
          obtain ⟨i, q, rfl, rfl, HI, HQ, HBw⟩ := hrel
          have hik : gk = 2 - i := by have := HI.out; omega
          have hy0 := HX0.out
          have hy1 := HX1.out
          match i, HI, HQ, hik with
          | 0, HI, HQ, hik =>
            subst hik
            have hq : q = b := HQ.out
            subst hq
            have B2 := Aside0.mk (below_step HBA.out HBw.out)
            replace hy0 := (B2.out.cell (World.block_lt_of_cell? w _ hy0)).trans hy0
            replace hy1 := (B2.out.cell (World.block_lt_of_cell? w _ hy1)).trans hy1
            have s0 := (HBw.out.cell (World.block_lt_of_cell? W1 _ HS0.out)).trans HS0.out
            have s1 := (HBw.out.cell (World.block_lt_of_cell? W1 _ HS1.out)).trans HS1.out
            go_wp2_with fail
            have hg0 : Aside0 ((wr.alloc (.cells #[.int .i64 cc.f0, .int .i64 cc.f1] 34)).heap[wr.heap.size]? = some (.cells #[.int .i64 cc.f0, .int .i64 cc.f1] 34 (0, 0))) := ⟨heap_alloc_new wr _⟩
            have hb0 : Aside0 (Below W1.heap.size W1 (wr.alloc (.cells #[.int .i64 cc.f0, .int .i64 cc.f1] 34))) := ⟨below_alloc HBw.out _⟩
            have hge : Aside0 (W1.heap.size ≤ wr.heap.size) := ⟨HBw.out.size⟩
            clear hy0 hy1 s0 s1
            go_loopg [8, 9] k (fun gk v8 v9 w' => ∃ (x y n' : Int) (g : Nat), v8 = .int .i64 n' ∧ v9 = .pointer (some ⟨g, 0, none⟩) ∧ Aside0 (spec_LongestLine.line l0 1 0 gk x y n' = some n1) ∧ Aside0 (w'.heap[g]? = some (.cells #[.int .i64 x, .int .i64 y] 34 (0, 0))) ∧ Aside0 (W1.heap.size ≤ g) ∧ Aside0 (Below W1.heap.size W1 w'))
            case atStart => exact ⟨cc.f0, cc.f1, 0, _, rfl, rfl, H1, hg0, hge, hb0⟩
            case round =>
              clear hg0 hb0 hge
              obtain ⟨x, y, n', g, rfl, rfl, HL, HGc, HGe, HBi⟩ := hrel
              cases gk with
              | zero => exact absurd HL.out (by simp [spec_LongestLine.line])
              | succ gk2 =>
                have hl : ((spec_l02Index.f gk2 l0 x y).bind fun t => if t ≥ 0 then spec_LongestLine.line l0 1 0 gk2 (wrap64 (x + 1)) (wrap64 (y + 0)) (wrap64 (n' + 1)) else some n') = some n1 := HL.out
                obtain ⟨t, ht, hl⟩ := Option.bind_eq_some_iff.mp hl
                have HT := Aside0.mk ht
                clear ht HL
                have HB3 := Aside0.mk (below_step HBA.out HBi.out)
                have z0 := (blk_cell HGc.out 0).trans rfl
                have z1 := (blk_cell HGc.out 1).trans rfl
                go_wp2_with fail
                refine (spec_l02Index.calls gk2 (some ad) c0 l0 x y t _ (Kd.C_below HR0.out HB3.out) HC0.out HT.out).mono ?_
                rintro e w2 ⟨rfl, hb⟩
                have hb2 := Aside0.mk (below_step HBi.out hb)
                have hblk := hb.block g (blk_lt HGc.out)
                rw [HGc.out] at hblk
                have HG2 := Aside0.mk hblk
                clear hb hblk z0 z1
                by_cases htp : t ≥ 0
                · rw [if_pos htp] at hl
                  have HL := Aside0.mk hl
                  clear hl
                  have u0 := (blk_cell HG2.out 0).trans rfl
                  have u1 := (blk_cell HG2.out 1).trans rfl
                  go_wp2_with fail
                  obtain ⟨W2, hW2⟩ : ∃ W2 : World, W2 = w2.alloc (.cells #[.int .i64 x, .int .i64 y] 34) := ⟨_, rfl⟩
                  have hb3 : Aside0 (Below W1.heap.size W1 W2) := ⟨by rw [hW2]; exact below_alloc hb2.out _⟩
                  have hblk : W2.heap[w2.heap.size]? = some (.cells #[.int .i64 x, .int .i64 y] 34 (0, 0)) := by rw [hW2]; exact heap_alloc_new w2 _
                  have hge2 : Aside0 (W1.heap.size ≤ w2.heap.size) := ⟨hb2.out.size⟩
                  generalize hG2 : w2.heap.size = G2 at hblk hge2 ⊢
                  rw [← hW2]
                  clear hG2 hW2 u0 u1
                  have u0 := (blk_cell hblk 0).trans rfl
                  have u1 := (blk_cell hblk 1).trans rfl
                  have f0 := blk_frozen hblk 0
                  have f1 := blk_frozen hblk 1
                  have s0 := (hb3.out.cell (World.block_lt_of_cell? W1 _ HS0.out)).trans HS0.out
                  have s1 := (hb3.out.cell (World.block_lt_of_cell? W1 _ HS1.out)).trans HS1.out
                  have HW2 := Aside0.mk hblk
                  clear hblk
                  go_region
                  go_wp2_with fail
                  go_roundg gk2
                  case measure => omega
                  case rel =>
                    refine ⟨_, _, _, _, rfl, rfl, HL, ⟨?_⟩, hge2, ⟨?_⟩⟩
                    · rw [Int.add_zero]; exact (blk_set (blk_set HW2.out 0 _) 1 _)
                    · exact pw_below_drewN (below_set (below_set hb3.out hge2.out) hge2.out) 1
                · rw [if_neg htp] at hl
                  obtain rfl := Option.some.inj hl
                  have htn : decide (0 ≤ t) = false := decide_eq_false (by omega)
                  clear hl
                  go_wp2_with fail
                  all_goals go_roundg 1
                  all_goals first | omega | exact ⟨1, _, rfl, rfl, ⟨rfl⟩, ⟨by show _ = mx _ _; unfold mx; (try split) <;> omega⟩, hb2⟩
          | 1, HI, HQ, hik =>
            subst hik
            have hq : q = mx b n1 := HQ.out
            subst hq
            have B2 := Aside0.mk (below_step HBA.out HBw.out)
            replace hy0 := (B2.out.cell (World.block_lt_of_cell? w _ hy0)).trans hy0
            replace hy1 := (B2.out.cell (World.block_lt_of_cell? w _ hy1)).trans hy1
            have s0 := (HBw.out.cell (World.block_lt_of_cell? W1 _ HS2.out)).trans HS2.out
            have s1 := (HBw.out.cell (World.block_lt_of_cell? W1 _ HS3.out)).trans HS3.out
            go_wp2_with fail
            have hg0 : Aside0 ((wr.alloc (.cells #[.int .i64 cc.f0, .int .i64 cc.f1] 34)).heap[wr.heap.size]? = some (.cells #[.int .i64 cc.f0, .int .i64 cc.f1] 34 (0, 0))) := ⟨heap_alloc_new wr _⟩
            have hb0 : Aside0 (Below W1.heap.size W1 (wr.alloc (.cells #[.int .i64 cc.f0, .int .i64 cc.f1] 34))) := ⟨below_alloc HBw.out _⟩
            have hge : Aside0 (W1.heap.size ≤ wr.heap.size) := ⟨HBw.out.size⟩
            clear hy0 hy1 s0 s1
            go_loopg [8, 9] k (fun gk v8 v9 w' => ∃ (x y n' : Int) (g : Nat), v8 = .int .i64 n' ∧ v9 = .pointer (some ⟨g, 0, none⟩) ∧ Aside0 (spec_LongestLine.line l0 0 1 gk x y n' = some n2) ∧ Aside0 (w'.heap[g]? = some (.cells #[.int .i64 x, .int .i64 y] 34 (0, 0))) ∧ Aside0 (W1.heap.size ≤ g) ∧ Aside0 (Below W1.heap.size W1 w'))
            case atStart => exact ⟨cc.f0, cc.f1, 0, _, rfl, rfl, H2, hg0, hge, hb0⟩
            case round =>
              clear hg0 hb0 hge
              obtain ⟨x, y, n', g, rfl, rfl, HL, HGc, HGe, HBi⟩ := hrel
              cases gk with
              | zero => exact absurd HL.out (by simp [spec_LongestLine.line])
              | succ gk2 =>
                have hl : ((spec_l02Index.f gk2 l0 x y).bind fun t => if t ≥ 0 then spec_LongestLine.line l0 0 1 gk2 (wrap64 (x + 0)) (wrap64 (y + 1)) (wrap64 (n' + 1)) else some n') = some n2 := HL.out
                obtain ⟨t, ht, hl⟩ := Option.bind_eq_some_iff.mp hl
                have HT := Aside0.mk ht
                clear ht HL
                have HB3 := Aside0.mk (below_step HBA.out HBi.out)
                have z0 := (blk_cell HGc.out 0).trans rfl
                have z1 := (blk_cell HGc.out 1).trans rfl
                go_wp2_with fail
                refine (spec_l02Index.calls gk2 (some ad) c0 l0 x y t _ (Kd.C_below HR0.out HB3.out) HC0.out HT.out).mono ?_
                rintro e w2 ⟨rfl, hb⟩
                have hb2 := Aside0.mk (below_step HBi.out hb)
                have hblk := hb.block g (blk_lt HGc.out)
                rw [HGc.out] at hblk
                have HG2 := Aside0.mk hblk
                clear hb hblk z0 z1
                by_cases htp : t ≥ 0
                · rw [if_pos htp] at hl
                  have HL := Aside0.mk hl
                  clear hl
                  have u0 := (blk_cell HG2.out 0).trans rfl
                  have u1 := (blk_cell HG2.out 1).trans rfl
                  go_wp2_with fail
                  obtain ⟨W2, hW2⟩ : ∃ W2 : World, W2 = w2.alloc (.cells #[.int .i64 x, .int .i64 y] 34) := ⟨_, rfl⟩
                  have hb3 : Aside0 (Below W1.heap.size W1 W2) := ⟨by rw [hW2]; exact below_alloc hb2.out _⟩
                  have hblk : W2.heap[w2.heap.size]? = some (.cells #[.int .i64 x, .int .i64 y] 34 (0, 0)) := by rw [hW2]; exact heap_alloc_new w2 _
                  have hge2 : Aside0 (W1.heap.size ≤ w2.heap.size) := ⟨hb2.out.size⟩
                  generalize hG2 : w2.heap.size = G2 at hblk hge2 ⊢
                  rw [← hW2]
                  clear hG2 hW2 u0 u1
                  have u0 := (blk_cell hblk 0).trans rfl
                  have u1 := (blk_cell hblk 1).trans rfl
                  have f0 := blk_frozen hblk 0
                  have f1 := blk_frozen hblk 1
                  have s0 := (hb3.out.cell (World.block_lt_of_cell? W1 _ HS2.out)).trans HS2.out
                  have s1 := (hb3.out.cell (World.block_lt_of_cell? W1 _ HS3.out)).trans HS3.out
                  have HW2 := Aside0.mk hblk
                  clear hblk
                  go_region
                  go_wp2_with fail
                  go_roundg gk2
                  case measure => omega
                  case rel =>
                    refine ⟨_, _, _, _, rfl, rfl, HL, ⟨?_⟩, hge2, ⟨?_⟩⟩
                    · rw [Int.add_zero]; exact (blk_set (blk_set HW2.out 0 _) 1 _)
                    · exact pw_below_drewN (below_set (below_set hb3.out hge2.out) hge2.out) 1
                · rw [if_neg htp] at hl
                  obtain rfl := Option.some.inj hl
                  have htn : decide (0 ≤ t) = false := decide_eq_false (by omega)
                  clear hl
                  go_wp2_with fail
                  all_goals go_roundg 0
                  all_goals first | omega | exact ⟨2, _, rfl, rfl, ⟨rfl⟩, ⟨by show _ = mx (mx b n1) _; generalize mx b n1 = z at *; unfold mx; (try split) <;> omega⟩, hb2⟩
          | 2, HI, HQ, hik =>
            subst hik
            have hq : q = mx (mx b n1) n2 := HQ.out
            subst hq
            have B2 := Aside0.mk (below_step HBA.out HBw.out)
            go_wp2_with fail
            go_roundg gko
            case measure => omega
            case rel => exact ⟨j + 1, _, rfl, rfl, ⟨by have := HK.out; omega⟩, HN, B2⟩
          | i + 3, HI, HQ, hik => exact absurd HI.out (by omega)

/-! ### impl_LongestLine: function 33, by hand -/
/-- how many cells follow one another from a place on, one step after the other -/
def impl_LongestLine.line (l0 : List S34) (dx dy : Int) : Nat → Int → Int → Int → Option Int
  | 0, _, _, _ => none
  | k + 1, x, y, n => (slices_Contains_Cell.f k l0 x y).bind fun t => if t = true then impl_LongestLine.line l0 dx dy k (wrap64 (x + dx)) (wrap64 (y + dy)) (wrap64 (n + 1)) else some n
def impl_LongestLine.go (k : Nat) (l0 : List S34) : List S34 → Int → Option (Int × Int)
  | [], b => some (b, 0)
  | c :: r, b => (impl_LongestLine.line l0 1 0 k c.f0 c.f1 0).bind fun n1 => (impl_LongestLine.line l0 0 1 k c.f0 c.f1 0).bind fun n2 => impl_LongestLine.go k l0 r (mx (mx b n1) n2)
def impl_LongestLine.f (k : Nat) (l0 : List S34) : Option (Int × Int) := (impl_IsShape.f k l0).bind fun t => if t = true then impl_LongestLine.go k l0 l0 0 else some (0, 1)
theorem impl_LongestLine.mono_line (l0 : List S34) (dx dy : Int) : ∀ k x y n, LeO (impl_LongestLine.line l0 dx dy k x y n) (impl_LongestLine.line l0 dx dy (k + 1) x y n) := by
  intro k
  induction k with
  | zero => intro x y n; exact LeO.none _
  | succ k ih => intro x y n; exact LeO.bind (slices_Contains_Cell.mono _ _ _ k) (fun t => LeO.ite (ih _ _ _) (LeO.refl _))
theorem impl_LongestLine.mono : ∀ a0 k, LeO (impl_LongestLine.f k a0) (impl_LongestLine.f (k + 1) a0) := by
  intro a0 k
  have h : ∀ r b, LeO (impl_LongestLine.go k a0 r b) (impl_LongestLine.go (k + 1) a0 r b) := by
    intro r
    induction r with
    | nil => intro b; exact LeO.refl _
    | cons c r ih =>
      intro b
      exact LeO.bind (impl_LongestLine.mono_line a0 1 0 k c.f0 c.f1 0) (fun n1 => LeO.bind (impl_LongestLine.mono_line a0 0 1 k c.f0 c.f1 0) (fun n2 => ih _))
  exact LeO.bind (impl_IsShape.mono _ k) (fun t => LeO.ite (h _ _) (LeO.refl _))
set_option maxHeartbeats 8000000 in
set_option maxRecDepth 100000 in
theorem impl_LongestLine.calls (k : Nat) (A0 : Option Addr) (c0 : Nat) (l0 : List S34) (r1 : Int) (r2 : Int) (w : World) (hr0 : Kd.C k34 w A0 l0.length l0) (hc0 : l0.length ≤ c0) (h : impl_LongestLine.f k l0 = some (r1, r2)) :
    Calls Try.prog 33 #[.slice A0 l0.length c0] w fun e w' => e = .returned (.tuple #[.int .i64 r1, .int .i64 r2]) ∧ Below w.heap.size w w' := by
  have HR0 := Aside0.mk hr0
  have HC0 := Aside0.mk hc0
  have hlen : l0.length ≤ 9223372036854775807 := hr0.2.1
  clear hr0 hc0
  have HB := Aside0.mk (Below.refl w.heap.size w)
  obtain ⟨t, ht, h⟩ := Option.bind_eq_some_iff.mp h
  have HT := Aside0.mk ht
  clear ht
  cases t with
  | false =>
    simp only [Bool.false_eq_true, if_false, Option.some.injEq, Prod.mk.injEq] at h
    obtain ⟨rfl, rfl⟩ := h
    go_enter Try.func33, Try.ntmps33
    go_wp2_with fail
    refine (impl_IsShape.calls k A0 c0 l0 false _ HR0.out HC0.out HT.out).mono ?_
    rintro e w1 ⟨rfl, hb⟩
    have HB1 := Aside0.mk hb
    clear hb
    go_wp2_with fail
    go_ret2
    exact ⟨rfl, HB1.out⟩
  | true =>
    simp only [if_true] at h
    have H0 : Aside0 (impl_LongestLine.go k l0 (l0.drop 0) 0 = some (r1, r2)) := ⟨h⟩
    clear h
    go_enter Try.func33, Try.ntmps33
    go_wp2_with fail
    refine (impl_IsShape.calls k A0 c0 l0 true _ HR0.out HC0.out HT.out).mono ?_
    rintro e w1 ⟨rfl, hb⟩
    have HB1 := Aside0.mk hb
    clear hb HB HT
    go_wp2_with fail
    go_loopg [4, 16] l0.length (fun gk v4 v5 w' => ∃ (j : Nat) (b : Int), v4 = .int .i64 b ∧ v5 = .int .i64 j ∧ Aside0 (gk + j = l0.length) ∧ Aside0 (impl_LongestLine.go k l0 (l0.drop j) b = some (r1, r2)) ∧ Aside0 (Below w.heap.size w w'))
    case atStart => exact ⟨0, 0, rfl, rfl, ⟨rfl⟩, H0, HB1⟩
    case round =>
      clear H0 HB1
      obtain ⟨j, b, rfl, rfl, HK, HG, HB⟩ := hrel
      cases gk with
      | zero =>
        have hj : j = l0.length := by have := HK.out; omega
        have c1 : decide ((j : Int) < (l0.length : Int)) = false := decide_eq_false (by omega)
        have c2 : decide (j < l0.length) = false := decide_eq_false (by omega)
        have HJ := Aside0.mk hj
        clear hj
        have h := HG.out
        rw [HJ.out, List.drop_length] at h
        have h2 : some (b, (0 : Int)) = some (r1, r2) := h
        simp only [Option.some.injEq, Prod.mk.injEq] at h2
        obtain ⟨rfl, rfl⟩ := h2
        clear HG h
        go_wp2_with fail
        go_ret2
        exact ⟨rfl, HB.out⟩
      | succ gko =>
        have hj : j < l0.length := by have := HK.out; omega
        have HJ := Aside0.mk hj
        have p1 : 0 ≤ (j : Int) := by omega
        have q1 : (j : Int) < (l0.length : Int) := by omega
        obtain ⟨ad, e1, hx0, hx1⟩ := at_T34 HR0.out j p1 q1
        cases e1
        rw [Int.toNat_natCast] at hx0 hx1
        have c1 : decide ((j : Int) < (l0.length : Int)) = true := decide_eq_true q1
        have c2 : decide (j < l0.length) = true := decide_eq_true hj
        have hd : l0.drop j = rd_T34 l0 j :: l0.drop (j + 1) := by
          rw [List.drop_eq_getElem_cons hj]; congr 1
          unfold rd_T34; rw [List.getD_eq_getElem?_getD, Int.toNat_natCast, List.getElem?_eq_getElem hj]; rfl
        have HG2 := HG.out
        rw [hd] at HG2
        clear hd HG
        generalize hcc : rd_T34 l0 (j : Int) = cc at *
        clear hcc
        replace HG2 : ((impl_LongestLine.line l0 1 0 k cc.f0 cc.f1 0).bind fun n1 => (impl_LongestLine.line l0 0 1 k cc.f0 cc.f1 0).bind fun n2 => impl_LongestLine.go k l0 (l0.drop (j + 1)) (mx (mx b n1) n2)) = some (r1, r2) := HG2
        obtain ⟨n1, h1, HG3⟩ := Option.bind_eq_some_iff.mp HG2
        obtain ⟨n2, h2, HG4⟩ := Option.bind_eq_some_iff.mp HG3
        have H1 := Aside0.mk h1
        have H2 := Aside0.mk h2
        have HN := Aside0.mk HG4
        replace hx0 := (HB.out.cell (World.block_lt_of_cell? w _ hx0)).trans hx0
        replace hx1 := (HB.out.cell (World.block_lt_of_cell? w _ hx1)).trans hx1
        clear HG2 HG3 HG4 h1 h2 hj
        go_wp2_with fail
        obtain ⟨W1, hW1⟩ : ∃ W1 : World, W1 = (wr.alloc (.cells #[.int .i64 cc.f0, .int .i64 cc.f1] 34)).alloc (.cells #[.int .i64 1, .int .i64 0, .int .i64 0, .int .i64 1] 34) := ⟨_, rfl⟩
        have HBA : Aside0 (Below w.heap.size w W1) := ⟨by rw [hW1]; exact below_alloc (below_alloc HB.out _) _⟩
        have hsz : (wr.alloc (.cells #[.int .i64 cc.f0, .int .i64 cc.f1] 34)).heap.size = wr.heap.size + 1 := Array.size_push _
        have hblk : W1.heap[wr.heap.size + 1]? = some (.cells #[.int .i64 1, .int .i64 0, .int .i64 0, .int .i64 1] 34 (0, 0)) := by rw [hW1, ← hsz]; exact heap_alloc_new _ _
        have hblk6 : W1.heap[wr.heap.size]? = some (.cells #[.int .i64 cc.f0, .int .i64 cc.f1] 34 (0, 0)) := by rw [hW1]; exact blk_alloc (heap_alloc_new wr _) _
        generalize hG1 : wr.heap.size + 1 = G1 at hblk ⊢
        generalize hG6 : wr.heap.size = G6 at hblk6 ⊢
        rw [← hW1]
        clear hG1 hG6 hW1 hsz hx0 hx1
        have HS0 : Aside0 (W1.cell? ⟨G1, 0, none⟩ = some (.int .i64 1)) := ⟨(blk_cell hblk 0).trans rfl⟩
        have HS1 : Aside0 (W1.cell? ⟨G1, 1, none⟩ = some (.int .i64 0)) := ⟨(blk_cell hblk 1).trans rfl⟩
        have HS2 : Aside0 (W1.cell? ⟨G1, 2, none⟩ = some (.int .i64 0)) := ⟨(blk_cell hblk 2).trans rfl⟩
        have HS3 : Aside0 (W1.cell? ⟨G1, 3, none⟩ = some (.int .i64 1)) := ⟨(blk_cell hblk 3).trans rfl⟩
        have HX0 : Aside0 (W1.cell? ⟨G6, 0, none⟩ = some (.int .i64 cc.f0)) := ⟨(blk_cell hblk6 0).trans rfl⟩
        have HX1 : Aside0 (W1.cell? ⟨G6, 1, none⟩ = some (.int .i64 cc.f1)) := ⟨(blk_cell hblk6 1).trans rfl⟩
        clear hblk hblk6
        have HBw := Aside0.mk (Below.refl W1.heap.size W1)
        go_loopg [4, 24] 2 (fun gk v4 v7 w' => ∃ (i : Nat) (q : Int), v4 = .int .i64 q ∧ v7 = .int .i64 i ∧ Aside0 (gk + i = 2) ∧ Aside0 (q = [b, mx b n1, mx (mx b n1) n2].getD i 0) ∧ Aside0 (Below W1.heap.size W1 w'))
        case atStart => exact ⟨0, b, rfl, rfl, ⟨rfl⟩, ⟨rfl⟩, HBw⟩
        case round =>
          clear HBw
          obtain ⟨i, q, rfl, rfl, HI, HQ, HBw⟩ := hrel
          have hik : gk = 2 - i := by have := HI.out; omega
          match i, HI, HQ, hik with
          | 0, HI, HQ, hik =>
            subst hik
            have hq : q = b := HQ.out
            subst hq
            have s0 := (HBw.out.cell (World.block_lt_of_cell? W1 _ HS0.out)).trans HS0.out
            have s1 := (HBw.out.cell (World.block_lt_of_cell? W1 _ HS1.out)).trans HS1.out
            have t0 := ((below_alloc HBw.out (.cells #[.int .i64 1, .int .i64 0] 34)).cell (World.block_lt_of_cell? W1 _ HX0.out)).trans HX0.out
            have t1 := ((below_alloc HBw.out (.cells #[.int .i64 1, .int .i64 0] 34)).cell (World.block_lt_of_cell? W1 _ HX1.out)).trans HX1.out
            go_wp2_with fail
            obtain ⟨W3, hW3⟩ : ∃ W3 : World, W3 = (wr.alloc (.cells #[.int .i64 1, .int .i64 0] 34)).alloc (.cells #[.int .i64 cc.f0, .int .i64 cc.f1] 34) := ⟨_, rfl⟩
            have HB13 : Aside0 (Below W1.heap.size W1 W3) := ⟨by rw [hW3]; exact below_alloc (below_alloc HBw.out _) _⟩
            have hsz : (wr.alloc (.cells #[.int .i64 1, .int .i64 0] 34)).heap.size = wr.heap.size + 1 := Array.size_push _
            have hblk : W3.heap[wr.heap.size + 1]? = some (.cells #[.int .i64 cc.f0, .int .i64 cc.f1] 34 (0, 0)) := by rw [hW3, ← hsz]; exact heap_alloc_new _ _
            have hblk8 : W3.heap[wr.heap.size]? = some (.cells #[.int .i64 1, .int .i64 0] 34 (0, 0)) := by rw [hW3]; exact blk_alloc (heap_alloc_new wr _) _
            generalize hG1' : wr.heap.size + 1 = G10 at hblk ⊢
            generalize hG8 : wr.heap.size = G8 at hblk8 ⊢
            rw [← hW3]
            clear hG1' hG8 hW3 hsz s0 s1 t0 t1
            have HT0 : Aside0 (W3.cell? ⟨G8, 0, none⟩ = some (.int .i64 1)) := ⟨(blk_cell hblk8 0).trans rfl⟩
            have HT1 : Aside0 (W3.cell? ⟨G8, 1, none⟩ = some (.int .i64 0)) := ⟨(blk_cell hblk8 1).trans rfl⟩
            have hg0 := Aside0.mk hblk
            clear hblk hblk8
            have hb0 := Aside0.mk (Below.refl W3.heap.size W3)
            go_loopg [9, 10] k (fun gk v8 v9 w' => ∃ (x y n' : Int) (g : Nat), v8 = .int .i64 n' ∧ v9 = .pointer (some ⟨g, 0, none⟩) ∧ Aside0 (impl_LongestLine.line l0 1 0 gk x y n' = some n1) ∧ Aside0 (w'.heap[g]? = some (.cells #[.int .i64 x, .int .i64 y] 34 (0, 0))) ∧ Aside0 (Below W3.heap.size W3 w'))
            case atStart => exact ⟨cc.f0, cc.f1, 0, _, rfl, rfl, H1, hg0, hb0⟩
            case round =>
              clear hg0 hb0
              obtain ⟨x, y, n', g, rfl, rfl, HL, HGc, HBi⟩ := hrel
              cases gk with
              | zero => exact absurd HL.out (by simp [impl_LongestLine.line])
              | succ gk2 =>
                have hl : ((slices_Contains_Cell.f gk2 l0 x y).bind fun t => if t = true then impl_LongestLine.line l0 1 0 gk2 (wrap64 (x + 1)) (wrap64 (y + 0)) (wrap64 (n' + 1)) else some n') = some n1 := HL.out
                obtain ⟨t, ht, hl⟩ := Option.bind_eq_some_iff.mp hl
                have HT := Aside0.mk ht
                clear ht HL
                have HB3 := Aside0.mk (below_step HBA.out (below_step HB13.out HBi.out))
                have z0 := (blk_cell HGc.out 0).trans rfl
                have z1 := (blk_cell HGc.out 1).trans rfl
                go_wp2_with fail
                refine (slices_Contains_Cell.calls gk2 (some ad) c0 l0 x y t _ (Kd.C_below HR0.out HB3.out) HC0.out HT.out).mono ?_
                rintro e w2 ⟨rfl, hb⟩
                have hb2 := Aside0.mk (below_step HBi.out hb)
                have hblk := hb.block g (blk_lt HGc.out)
                rw [HGc.out] at hblk
                have HG2 := Aside0.mk hblk
                clear hb hblk z0 z1
                by_cases htp : t = true
                · rw [if_pos htp] at hl
                  subst htp
                  have HL := Aside0.mk hl
                  clear hl
                  have u0 := (blk_cell HG2.out 0).trans rfl
                  have u1 := (blk_cell HG2.out 1).trans rfl
                  have hb3 : Aside0 (Below W3.heap.size W3 (w2.alloc (.cells #[.int .i64 x, .int .i64 y] 34))) := ⟨below_alloc hb2.out _⟩
                  have hge2 : Aside0 (W3.heap.size ≤ w2.heap.size) := ⟨hb2.out.size⟩
                  have hblk := heap_alloc_new w2 (.cells #[.int .i64 x, .int .i64 y] 34)
                  have v0 := (blk_cell hblk 0).trans rfl
                  have v1 := (blk_cell hblk 1).trans rfl
                  have f0 := blk_frozen hblk 0
                  have f1 := blk_frozen hblk 1
                  have s0 := (hb3.out.cell (World.block_lt_of_cell? W3 _ HT0.out)).trans HT0.out
                  have s1 := (hb3.out.cell (World.block_lt_of_cell? W3 _ HT1.out)).trans HT1.out
                  have HW2 := Aside0.mk hblk
                  clear hblk
                  go_wp2_with fail
                  go_roundg gk2
                  case measure => omega
                  case rel =>
                    refine ⟨_, _, _, _, rfl, rfl, HL, ⟨?_⟩, ⟨?_⟩⟩
                    · rw [Int.add_zero]; exact heap_alloc_new w2 _
                    · exact below_alloc hb2.out _
                · rw [if_neg htp] at hl
                  obtain rfl := Option.some.inj hl
                  replace htp : t = false := Bool.eq_false_iff.mpr htp
                  subst htp
                  have HB2 := Aside0.mk (below_step HB13.out hb2.out)
                  clear hl
                  go_wp2_with fail
                  all_goals go_roundg 1
                  all_goals first | omega | exact ⟨1, _, rfl, rfl, ⟨rfl⟩, ⟨by show _ = mx _ _; unfold mx; (try split) <;> omega⟩, HB2⟩
          | 1, HI, HQ, hik =>
            subst hik
            have hq : q = mx b n1 := HQ.out
            subst hq
            have s0 := (HBw.out.cell (World.block_lt_of_cell? W1 _ HS2.out)).trans HS2.out
            have s1 := (HBw.out.cell (World.block_lt_of_cell? W1 _ HS3.out)).trans HS3.out
            have t0 := ((below_alloc HBw.out (.cells #[.int .i64 0, .int .i64 1] 34)).cell (World.block_lt_of_cell? W1 _ HX0.out)).trans HX0.out
            have t1 := ((below_alloc HBw.out (.cells #[.int .i64 0, .int .i64 1] 34)).cell (World.block_lt_of_cell? W1 _ HX1.out)).trans HX1.out
            go_wp2_with fail
            obtain ⟨W3, hW3⟩ : ∃ W3 : World, W3 = (wr.alloc (.cells #[.int .i64 0, .int .i64 1] 34)).alloc (.cells #[.int .i64 cc.f0, .int .i64 cc.f1] 34) := ⟨_, rfl⟩
            have HB13 : Aside0 (Below W1.heap.size W1 W3) := ⟨by rw [hW3]; exact below_alloc (below_alloc HBw.out _) _⟩
            have hsz : (wr.alloc (.cells #[.int .i64 0, .int .i64 1] 34)).heap.size = wr.heap.size + 1 := Array.size_push _
            have hblk : W3.heap[wr.heap.size + 1]? = some (.cells #[.int .i64 cc.f0, .int .i64 cc.f1] 34 (0, 0)) := by rw [hW3, ← hsz]; exact heap_alloc_new _ _
            have hblk8 : W3.heap[wr.heap.size]? = some (.cells #[.int .i64 0, .int .i64 1] 34 (0, 0)) := by rw [hW3]; exact blk_alloc (heap_alloc_new wr _) _
            generalize hG1' : wr.heap.size + 1 = G10 at hblk ⊢
            generalize hG8 : wr.heap.size = G8 at hblk8 ⊢
            rw [← hW3]
            clear hG1' hG8 hW3 hsz s0 s1 t0 t1
            have HT0 : Aside0 (W3.cell? ⟨G8, 0, none⟩ = some (.int .i64 0)) := ⟨(blk_cell hblk8 0).trans rfl⟩
            have HT1 : Aside0 (W3.cell? ⟨G8, 1, none⟩ = some (.int .i64 1)) := ⟨(blk_cell hblk8 1).trans rfl⟩
            have hg0 := Aside0.mk hblk
            clear hblk hblk8
            have hb0 := Aside0.mk (Below.refl W3.heap.size W3)
            go_loopg [9, 10] k (fun gk v8 v9 w' => ∃ (x y n' : Int) (g : Nat), v8 = .int .i64 n' ∧ v9 = .pointer (some ⟨g, 0, none⟩) ∧ Aside0 (impl_LongestLine.line l0 0 1 gk x y n' = some n2) ∧ Aside0 (w'.heap[g]? = some (.cells #[.int .i64 x, .int .i64 y] 34 (0, 0))) ∧ Aside0 (Below W3.heap.size W3 w'))
            case atStart => exact ⟨cc.f0, cc.f1, 0, _, rfl, rfl, H2, hg0, hb0⟩
            case round =>
              clear hg0 hb0
              obtain ⟨x, y, n', g, rfl, rfl, HL, HGc, HBi⟩ := hrel
              cases gk with
              | zero => exact absurd HL.out (by simp [impl_LongestLine.line])
              | succ gk2 =>
                have hl : ((slices_Contains_Cell.f gk2 l0 x y).bind fun t => if t = true then impl_LongestLine.line l0 0 1 gk2 (wrap64 (x + 0)) (wrap64 (y + 1)) (wrap64 (n' + 1)) else some n') = some n2 := HL.out
                obtain ⟨t, ht, hl⟩ := Option.bind_eq_some_iff.mp hl
                have HT := Aside0.mk ht
                clear ht HL
                have HB3 := Aside0.mk (below_step HBA.out (below_step HB13.out HBi.out))
                have z0 := (blk_cell HGc.out 0).trans rfl
                have z1 := (blk_cell HGc.out 1).trans rfl
                go_wp2_with fail
                refine (slices_Contains_Cell.calls gk2 (some ad) c0 l0 x y t _ (Kd.C_below HR0.out HB3.out) HC0.out HT.out).mono ?_
                rintro e w2 ⟨rfl, hb⟩
                have hb2 := Aside0.mk (below_step HBi.out hb)
                have hblk := hb.block g (blk_lt HGc.out)
                rw [HGc.out] at hblk
                have HG2 := Aside0.mk hblk
                clear hb hblk z0 z1
                by_cases htp : t = true
                · rw [if_pos htp] at hl
                  subst htp
                  have HL := Aside0.mk hl
                  clear hl
                  have u0 := (blk_cell HG2.out 0).trans rfl
                  have u1 := (blk_cell HG2.out 1).trans rfl
                  have hb3 : Aside0 (Below W3.heap.size W3 (w2.alloc (.cells #[.int .i64 x, .int .i64 y] 34))) := ⟨below_alloc hb2.out _⟩
                  have hge2 : Aside0 (W3.heap.size ≤ w2.heap.size) := ⟨hb2.out.size⟩
                  have hblk := heap_alloc_new w2 (.cells #[.int .i64 x, .int .i64 y] 34)
                  have v0 := (blk_cell hblk 0).trans rfl
                  have v1 := (blk_cell hblk 1).trans rfl
                  have f0 := blk_frozen hblk 0
                  have f1 := blk_frozen hblk 1
                  have s0 := (hb3.out.cell (World.block_lt_of_cell? W3 _ HT0.out)).trans HT0.out
                  have s1 := (hb3.out.cell (World.block_lt_of_cell? W3 _ HT1.out)).trans HT1.out
                  have HW2 := Aside0.mk hblk
                  clear hblk
                  go_wp2_with fail
                  go_roundg gk2
                  case measure => omega
                  case rel =>
                    refine ⟨_, _, _, _, rfl, rfl, HL, ⟨?_⟩, ⟨?_⟩⟩
                    · rw [Int.add_zero]; exact heap_alloc_new w2 _
                    · exact below_alloc hb2.out _
                · rw [if_neg htp] at hl
                  obtain rfl := Option.some.inj hl
                  replace htp : t = false := Bool.eq_false_iff.mpr htp
                  subst htp
                  have HB2 := Aside0.mk (below_step HB13.out hb2.out)
                  clear hl
                  go_wp2_with fail
                  all_goals go_roundg 0
                  all_goals first | omega | exact ⟨2, _, rfl, rfl, ⟨rfl⟩, ⟨by show _ = mx (mx b n1) _; generalize mx b n1 = z at *; unfold mx; (try split) <;> omega⟩, HB2⟩
          | 2, HI, HQ, hik =>
            subst hik
            have hq : q = mx (mx b n1) n2 := HQ.out
            subst hq
            have B2 := Aside0.mk (below_step HBA.out HBw.out)
            go_wp2_with fail
            go_roundg gko
            case measure => omega
            case rel => exact ⟨j + 1, _, rfl, rfl, ⟨by have := HK.out; omega⟩, HN, B2⟩
          | i + 3, HI, HQ, hik => exact absurd HI.out (by omega)

/-! ### laws_FnExactLongestLine: function 9 -/
def laws_FnExactLongestLine.j0 : Nat → List (S32) → List (S34) → Bool → Option (Bool)
  | 0, _, _, _ => none
  | k + 1, x0, x6, x34 => if x34 = true then (some false) else ((laws_toCellS.f k x0).bind fun t329 => ((laws_eqCellS.f k x6 t329).bind fun t332 => (if t332 = true then (some true) else (some false))))
def laws_FnExactLongestLine.f (k : Nat) (l0 : List (S32)) : Option (Bool) := (laws_szCellS.f l0 1048576).bind fun t318 => (if t318 < 0 then (some true) else ((laws_toCellS.f k l0).bind fun t319 => ((spec_LongestLine.f k t319).bind fun bt322 => ((laws_toCellS.f k l0).bind fun t324 => ((impl_LongestLine.f k t324).bind fun bt327 => (if bt327.1 = bt322.1 then (laws_FnExactLongestLine.j0 k l0 t324 (bt327.2 != bt322.2)) else (laws_FnExactLongestLine.j0 k l0 t324 true)))))))
theorem laws_FnExactLongestLine.mono_l : ∀ k, (∀ y0 y1 y2, LeO (laws_FnExactLongestLine.j0 k y0 y1 y2) (laws_FnExactLongestLine.j0 (k + 1) y0 y1 y2))
  | 0 => fun _ _ _ r h => by simp [laws_FnExactLongestLine.j0] at h
  | k + 1 => by
    have ih0 := laws_FnExactLongestLine.mono_l k
    · intro y0 y1 y2
      unfold laws_FnExactLongestLine.j0
      repeat' first
      | (with_reducible exact ih0 _ _ _)
      | (with_reducible exact impl_LongestLine.mono _ _)
      | (with_reducible exact laws_eqCellS.mono _ _ _)
      | (with_reducible exact laws_toCellS.mono _ _)
      | (with_reducible exact spec_LongestLine.mono _ _)
      | (with_reducible exact LeO.refl _)
      | (with_reducible exact LeO.none _)
      | (with_reducible refine LeO.ite ?_ ?_)
      | (with_reducible refine LeO.bind ?_ (fun _ => ?_))
      | exact ih0 _ _ _
      | exact impl_LongestLine.mono _ _
      | exact laws_eqCellS.mono _ _ _
      | exact laws_toCellS.mono _ _
      | exact spec_LongestLine.mono _ _
      | exact LeO.none _
      | refine LeO.ite ?_ ?_
      | refine LeO.bind ?_ (fun _ => ?_)
theorem laws_FnExactLongestLine.mono : ∀ a0 k, LeO (laws_FnExactLongestLine.f k a0) (laws_FnExactLongestLine.f (k + 1) a0) := by
  intro a0 k
  have ih0 := laws_FnExactLongestLine.mono_l k
  unfold laws_FnExactLongestLine.f
  repeat' first
      | (with_reducible exact ih0 _ _ _)
      | (with_reducible exact impl_LongestLine.mono _ _)
      | (with_reducible exact laws_eqCellS.mono _ _ _)
      | (with_reducible exact laws_toCellS.mono _ _)
      | (with_reducible exact spec_LongestLine.mono _ _)
      | (with_reducible exact LeO.refl _)
      | (with_reducible exact LeO.none _)
      | (with_reducible refine LeO.ite ?_ ?_)
      | (with_reducible refine LeO.bind ?_ (fun _ => ?_))
      | exact ih0 _ _ _
      | exact impl_LongestLine.mono _ _
      | exact laws_eqCellS.mono _ _ _
      | exact laws_toCellS.mono _ _
      | exact spec_LongestLine.mono _ _
      | exact LeO.none _
      | refine LeO.ite ?_ ?_
      | refine LeO.bind ?_ (fun _ => ?_)
set_option maxHeartbeats 8000000 in
set_option maxRecDepth 100000 in
theorem laws_FnExactLongestLine.calls (k : Nat) (A0 : Option Addr) (c0 : Nat) (l0 : List (S32)) (r : Bool) (w : World) (hr0 : Kd.C k32 w A0 l0.length l0) (hc0 : l0.length ≤ c0) (h : laws_FnExactLongestLine.f k l0 = some r) :
    Calls Try.prog 9 #[.slice A0 l0.length c0] w fun e w' => e = .returned (.bool r) ∧ Below w.heap.size w w' := by
  have HR0 := Aside0.mk hr0
  have HC0 := Aside0.mk hc0
  clear hr0 hc0
  have HB := Aside0.mk (Below.refl w.heap.size w)
  have H : ((laws_szCellS.f l0 1048576).bind fun t318 => (if t318 < 0 then (some true) else ((laws_toCellS.f k l0).bind fun t319 => ((spec_LongestLine.f k t319).bind fun bt322 => ((laws_toCellS.f k l0).bind fun t324 => ((impl_LongestLine.f k t324).bind fun bt327 => (if bt327.1 = bt322.1 then (laws_FnExactLongestLine.j0 k l0 t324 (bt327.2 != bt322.2)) else (laws_FnExactLongestLine.j0 k l0 t324 true)))))))) = some r := h
  clear h
  replace H := Option.bind_eq_some_iff.mp H
  obtain ⟨t318, A20, H⟩ := H
  replace H : (if t318 < 0 then (some true) else ((laws_toCellS.f k l0).bind fun t319 => ((spec_LongestLine.f k t319).bind fun bt322 => ((laws_toCellS.f k l0).bind fun t324 => ((impl_LongestLine.f k t324).bind fun bt327 => (if bt327.1 = bt322.1 then (laws_FnExactLongestLine.j0 k l0 t324 (bt327.2 != bt322.2)) else (laws_FnExactLongestLine.j0 k l0 t324 true))))))) = some r := H
  have A2 := Aside0.mk A20
  clear A20
  by_cases c3 : t318 < 0
  · rw [if_pos c3] at H
    have c3b0 : decide (t318 < 0) = true := decide_eq_true c3
    clear c3
    obtain rfl := Option.some.inj H
    go_enter Try.func9, Try.ntmps9
    go_wp2_with (first | ((with_reducible refine gate_callee (f := 16) rfl ?_); refine goesL_ (some 11) rfl rfl Try.func16 (by kernel_rfl) rfl #[.slice A0 l0.length c0, .int .i64 1048576] rfl (by (try simp only [List.map_toArray, List.map_cons, List.map_nil]); first | done | rfl | (simp only [List.length_drop, List.length_take]; rfl)) ?_; (with_reducible refine (laws_szCellS.calls _ _ l0 1048576 t318 _ ?side1 ?side2 A2.out).mono ?_); (case side1 => repeat (first | exact HR0.out | (with_reducible refine Kd.C_alloc ?_ _) | (with_reducible refine Kd.C_drewN ?_ _) | (with_reducible refine Kd.C_drew ?_))); (case side2 => exact HC0.out); rintro e w' ⟨rfl, ⟨nd, rfl⟩⟩; refine ⟨_, rfl, ?_⟩))
    go_ret
    exact ⟨by first | rfl | (simp [errW_none, errW_some] <;> rfl) | (simp [*, errW_none, errW_some] <;> rfl), by repeat (first | (with_reducible first | exact HB.out | apply below_alloc | apply pw_below_drewN | apply below_drew1) | exact HB.out)⟩
  · rw [if_neg c3] at H
    have c3b0 : decide (t318 < 0) = false := decide_eq_false c3
    clear c3
    replace H := Option.bind_eq_some_iff.mp H
    obtain ⟨t319, A40, H⟩ := H
    replace H : ((spec_LongestLine.f k t319).bind fun bt322 => ((laws_toCellS.f k l0).bind fun t324 => ((impl_LongestLine.f k t324).bind fun bt327 => (if bt327.1 = bt322.1 then (laws_FnExactLongestLine.j0 k l0 t324 (bt327.2 != bt322.2)) else (laws_FnExactLongestLine.j0 k l0 t324 true))))) = some r := H
    have A4 := Aside0.mk A40
    clear A40
    replace H := Option.bind_eq_some_iff.mp H
    obtain ⟨⟨t322, t323⟩, A50, H⟩ := H
    replace H : ((laws_toCellS.f k l0).bind fun t324 => ((impl_LongestLine.f k t324).bind fun bt327 => (if bt327.1 = t322 then (laws_FnExactLongestLine.j0 k l0 t324 (bt327.2 != t323)) else (laws_FnExactLongestLine.j0 k l0 t324 true)))) = some r := H
    have A5 := Aside0.mk A50
    clear A50
    replace H := Option.bind_eq_some_iff.mp H
    obtain ⟨t324, A60, H⟩ := H
    replace H : ((impl_LongestLine.f k t324).bind fun bt327 => (if bt327.1 = t322 then (laws_FnExactLongestLine.j0 k l0 t324 (bt327.2 != t323)) else (laws_FnExactLongestLine.j0 k l0 t324 true))) = some r := H
    have A6 := Aside0.mk A60
    clear A60
    replace H := Option.bind_eq_some_iff.mp H
    obtain ⟨⟨t327, t328⟩, A70, H⟩ := H
    replace H : (if t327 = t322 then (laws_FnExactLongestLine.j0 k l0 t324 (t328 != t323)) else (laws_FnExactLongestLine.j0 k l0 t324 true)) = some r := H
    have A7 := Aside0.mk A70
    clear A70
    have HC8 := Aside0.mk H
    clear H
    go_enter Try.func9, Try.ntmps9
    go_upto_region 8 with (first | ((with_reducible refine gate_callee (f := 16) rfl ?_); refine goesL_ (some 11) rfl rfl Try.func16 (by kernel_rfl) rfl #[.slice A0 l0.length c0, .int .i64 1048576] rfl (by (try simp only [List.map_toArray, List.map_cons, List.map_nil]); first | done | rfl | (simp only [List.length_drop, List.length_take]; rfl)) ?_; (with_reducible refine (laws_szCellS.calls _ _ l0 1048576 t318 _ ?side1 ?side2 A2.out).mono ?_); (case side1 => repeat (first | exact HR0.out | (with_reducible refine Kd.C_alloc ?_ _) | (with_reducible refine Kd.C_drewN ?_ _) | (with_reducible refine Kd.C_drew ?_))); (case side2 => exact HC0.out); rintro e w' ⟨rfl, ⟨nd, rfl⟩⟩; refine ⟨_, rfl, ?_⟩) | ((with_reducible refine gate_callee (f := 18) rfl ?_); refine goesL_ (some 16) rfl rfl Try.func18 (by kernel_rfl) rfl #[.slice A0 l0.length c0] rfl (by (try simp only [List.map_toArray, List.map_cons, List.map_nil]); first | done | rfl | (simp only [List.length_drop, List.length_take]; rfl)) ?_; (with_reducible refine (laws_toCellS.calls k _ _ l0 t319 _ ?side1 ?side2 A4.out).mono ?_); (case side1 => repeat (first | exact HR0.out | (with_reducible refine Kd.C_alloc ?_ _) | (with_reducible refine Kd.C_drewN ?_ _) | (with_reducible refine Kd.C_drew ?_))); (case side2 => exact HC0.out); rintro e w9 ⟨v320, rfl, ho0, hb⟩; refine ⟨_, rfl, ?_⟩; have n0_ := Aside0.mk (Kd.R_lower ho0 (below_size (by repeat (first | (with_reducible first | exact HB.out | apply below_alloc | apply pw_below_drewN | apply below_drew1) | exact HB.out)))); have n1_ := Aside0.mk (below_step (by repeat (first | (with_reducible first | exact HB.out | apply below_alloc | apply pw_below_drewN | apply below_drew1) | exact HB.out)) hb); clear HB; have HO321 := n0_; have HB := n1_; clear n0_ n1_; (try clear hb); (try clear hb2); (try clear hk); (try clear hi); (try clear ho0); obtain ⟨Ao10, co10, eo10⟩ := Kd.R_slice HO321.out; subst eo10) | ((with_reducible refine gate_callee (f := 32) rfl ?_); refine goesL_ (some 17) rfl rfl Try.func32 (by kernel_rfl) rfl #[.slice Ao10 t319.length co10] rfl (by (try simp only [List.map_toArray, List.map_cons, List.map_nil]); first | done | rfl | (simp only [List.length_drop, List.length_take]; rfl)) ?_; (with_reducible refine (spec_LongestLine.calls k _ _ t319 t322 t323 _ ?side1 ?side2 A5.out).mono ?_); (case side1 => repeat (first | exact (Kd.R_reads' HO321.out).2.2 | (with_reducible refine Kd.C_alloc ?_ _) | (with_reducible refine Kd.C_drewN ?_ _) | (with_reducible refine Kd.C_drew ?_))); (case side2 => exact (Kd.R_reads' HO321.out).2.1); rintro e w11 ⟨rfl, hb⟩; refine ⟨_, rfl, ?_⟩; have n0_ := Aside0.mk (Kd.R_below (by (with_reducible repeat (first | apply Kd.R_alloc | apply Kd.R_drewN | apply Kd.R_drew)); exact HO321.out) hb); have n1_ := Aside0.mk (below_step (by repeat (first | (with_reducible first | exact HB.out | apply below_alloc | apply pw_below_drewN | apply below_drew1) | exact HB.out)) hb); clear HO321; clear HB; have HO321 := n0_; have HB := n1_; clear n0_ n1_; (try clear hb); (try clear hb2); (try clear hk); (try clear hi)) | ((with_reducible refine gate_callee (f := 18) rfl ?_); refine goesL_ (some 21) rfl rfl Try.func18 (by kernel_rfl) rfl #[.slice A0 l0.length c0] rfl (by (try simp only [List.map_toArray, List.map_cons, List.map_nil]); first | done | rfl | (simp only [List.length_drop, List.length_take]; rfl)) ?_; (with_reducible refine (laws_toCellS.calls k _ _ l0 t324 _ ?side1 ?side2 A6.out).mono ?_); (case side1 => repeat (first | exact (Kd.C_below HR0.out HB.out) | (with_reducible refine Kd.C_alloc ?_ _) | (with_reducible refine Kd.C_drewN ?_ _) | (with_reducible refine Kd.C_drew ?_))); (case side2 => exact HC0.out); rintro e w12 ⟨v325, rfl, ho0, hb⟩; refine ⟨_, rfl, ?_⟩; have n0_ := Aside0.mk (Kd.R_elder' (by (with_reducible repeat (first | apply Kd.R_alloc | apply Kd.R_drewN | apply Kd.R_drew)); exact HO321.out) (Kd.R_base ho0) hb); have n1_ := Aside0.mk (Kd.R_lower (Kd.R_new' ho0 (Kd.R_lt (by (with_reducible repeat (first | apply Kd.R_alloc | apply Kd.R_drewN | apply Kd.R_drew)); exact HO321.out))) (below_size (by repeat (first | (with_reducible first | exact HB.out | apply below_alloc | apply pw_below_drewN | apply below_drew1) | exact HB.out)))); have n2_ := Aside0.mk (below_step (by repeat (first | (with_reducible first | exact HB.out | apply below_alloc | apply pw_below_drewN | apply below_drew1) | exact HB.out)) hb); clear HO321; clear HB; have HO321 := n0_; have HO326 := n1_; have HB := n2_; clear n0_ n1_ n2_; (try clear hb); (try clear hb2); (try clear hk); (try clear hi); (try clear ho0); obtain ⟨Ao13, co13, eo13⟩ := Kd.R_slice HO326.out; subst eo13) | ((with_reducible refine gate_callee (f := 33) rfl ?_); refine goesL_ (some 24) rfl rfl Try.func33 (by kernel_rfl) rfl #[.slice Ao13 t324.length co13] rfl (by (try simp only [List.map_toArray, List.map_cons, List.map_nil]); first | done | rfl | (simp only [List.length_drop, List.length_take]; rfl)) ?_; (with_reducible refine (impl_LongestLine.calls k _ _ t324 t327 t328 _ ?side1 ?side2 A7.out).mono ?_); (case side1 => repeat (first | exact (Kd.R_reads' HO326.out).2.2 | (with_reducible refine Kd.C_alloc ?_ _) | (with_reducible refine Kd.C_drewN ?_ _) | (with_reducible refine Kd.C_drew ?_))); (case side2 => exact (Kd.R_reads' HO326.out).2.1); rintro e w14 ⟨rfl, hb⟩; refine ⟨_, rfl, ?_⟩; have n0_ := Aside0.mk (Kd.R_below (by (with_reducible repeat (first | apply Kd.R_alloc | apply Kd.R_drewN | apply Kd.R_drew)); exact HO321.out) hb); have n1_ := Aside0.mk (Kd.R_below (by (with_reducible repeat (first | apply Kd.R_alloc | apply Kd.R_drewN | apply Kd.R_drew)); exact HO326.out) hb); have n2_ := Aside0.mk (below_step (by repeat (first | (with_reducible first | exact HB.out | apply below_alloc | apply pw_below_drewN | apply below_drew1) | exact HB.out)) hb); clear HO321; clear HO326; clear HB; have HO321 := n0_; have HO326 := n1_; have HB := n2_; clear n0_ n1_ n2_; (try clear hb); (try clear hb2); (try clear hk); (try clear hi)))
    (try simp only [Act.put, List.setIfInBounds_toArray, List.set_cons_zero, List.set_cons_succ])
    go_cut [34] (fun v34 wc => ∃ (kq : Nat) (x34_7 : Bool), v34 = .bool x34_7 ∧ Aside0 (laws_FnExactLongestLine.j0 kq l0 t324 x34_7 = some r) ∧ Aside0 (kq ≤ k) ∧ Aside0 (Kd.R k34 34 wc w.heap.size (fun _ => True) (.slice Ao13 t324.length co13) t324) ∧ Aside0 (Below w.heap.size w wc))
    case first =>
      have H := HC8.out
      clear HC8
      by_cases c15 : t327 = t322
      · rw [if_pos c15] at H
        have c15b0 : (t327 == t322) = true := beq_iff_eq.mpr c15
        have c15b1 : (t327 != t322) = false := bne_eq_false_iff_eq.mpr c15
        clear c15
        (first | rw [c15b0] | (simp only [i64_w, i32_w]; rw [c15b0]) | skip)
        have H' := Aside0.mk H
        clear H
        go_wp2
        go_meet
        case rel => exact ⟨_, ((t328 != t323)), (by first | rfl | (simp; done) | (simp [*]; done)), H', ⟨by first | omega | exact Nat.le_refl _⟩, ⟨by (with_reducible repeat (first | apply Kd.R_alloc | apply Kd.R_drewN | apply Kd.R_drew)); exact Kd.R_mono HO326.out (fun _ hk => trivial)⟩, ⟨by repeat (first | (with_reducible first | exact HB.out | apply below_alloc | apply pw_below_drewN | apply below_drew1) | exact HB.out)⟩⟩
      · rw [if_neg c15] at H
        have c15b0 : (t327 == t322) = false := beq_eq_false_iff_ne.mpr c15
        have c15b1 : (t327 != t322) = true := bne_iff_ne.mpr c15
        (first | rw [c15b0] | (simp only [i64_w, i32_w]; rw [c15b0]) | skip)
        have H' := Aside0.mk H
        clear H
        go_wp2
        go_meet
        case rel => exact ⟨_, (true), (by first | rfl | (simp; done) | (simp [*]; done)), H', ⟨by first | omega | exact Nat.le_refl _⟩, ⟨by (with_reducible repeat (first | apply Kd.R_alloc | apply Kd.R_drewN | apply Kd.R_drew)); exact Kd.R_mono HO326.out (fun _ hk => trivial)⟩, ⟨by repeat (first | (with_reducible first | exact HB.out | apply below_alloc | apply pw_below_drewN | apply below_drew1) | exact HB.out)⟩⟩
    case rest =>
      clear HC8
      try clear c1
      try clear p2
      try clear c3
      try clear c3b0
      try clear c9
      try clear c15
      try clear c15b0
      try clear c15b1
      obtain ⟨kq, x34_7, rfl, HA, HJ7, HO_6, HB⟩ := hcut
      cases kq with
      | zero => exact absurd HA.out (by simp [laws_FnExactLongestLine.j0])
      | succ kj7 =>
        have H := HA.out
        clear HA
        simp only [laws_FnExactLongestLine.j0] at H
        by_cases c16 : x34_7 = true
        · subst c16
          have H1 : (some false) = some r := by rw [if_pos rfl] at H; exact H
          clear H
          have H := H1
          clear H1
          obtain rfl := Option.some.inj H
          go_wp2
          go_ret
          exact ⟨by first | rfl | (simp [errW_none, errW_some] <;> rfl) | (simp [*, errW_none, errW_some] <;> rfl), by repeat (first | (with_reducible first | exact HB.out | apply below_alloc | apply pw_below_drewN | apply below_drew1) | exact HB.out)⟩
        · replace c16 := Bool.eq_false_iff.mpr c16
          subst c16
          have H1 : ((laws_toCellS.f kj7 l0).bind fun t329 => ((laws_eqCellS.f kj7 t324 t329).bind fun t332 => (if t332 = true then (some true) else (some false)))) = some r := by rw [if_neg (show ¬ (false = true) by decide)] at H; exact H
          clear H
          have H := H1
          clear H1
          replace H := Option.bind_eq_some_iff.mp H
          obtain ⟨t329, A170, H⟩ := H
          replace H : ((laws_eqCellS.f kj7 t324 t329).bind fun t332 => (if t332 = true then (some true) else (some false))) = some r := H
          have A17 := Aside0.mk A170
          clear A170
          replace H := Option.bind_eq_some_iff.mp H
          obtain ⟨t332, A180, H⟩ := H
          replace H : (if t332 = true then (some true) else (some false)) = some r := H
          have A18 := Aside0.mk A180
          clear A180
          by_cases c19 : t332 = true
          · subst c19
            have H1 : (some true) = some r := by rw [if_pos rfl] at H; exact H
            clear H
            have H := H1
            clear H1
            obtain rfl := Option.some.inj H
            go_wp2_with (first | ((with_reducible refine gate_callee (f := 18) rfl ?_); refine goesL_ (some 37) rfl rfl Try.func18 (by kernel_rfl) rfl #[.slice A0 l0.length c0] rfl (by (try simp only [List.map_toArray, List.map_cons, List.map_nil]); first | done | rfl | (simp only [List.length_drop, List.length_take]; rfl)) ?_; (with_reducible refine (laws_toCellS.calls kj7 _ _ l0 t329 _ ?side1 ?side2 A17.out).mono ?_); (case side1 => repeat (first | exact (Kd.C_below HR0.out HB.out) | (with_reducible refine Kd.C_alloc ?_ _) | (with_reducible refine Kd.C_drewN ?_ _) | (with_reducible refine Kd.C_drew ?_))); (case side2 => exact HC0.out); rintro e w20 ⟨v330, rfl, ho0, hb⟩; refine ⟨_, rfl, ?_⟩; have n0_ := Aside0.mk (Kd.R_elder' (by (with_reducible repeat (first | apply Kd.R_alloc | apply Kd.R_drewN | apply Kd.R_drew)); exact HO_6.out) (Kd.R_base ho0) hb); have n1_ := Aside0.mk (Kd.R_lower (Kd.R_new' ho0 (Kd.R_lt (by (with_reducible repeat (first | apply Kd.R_alloc | apply Kd.R_drewN | apply Kd.R_drew)); exact HO_6.out))) (below_size (by repeat (first | (with_reducible first | exact HB.out | apply below_alloc | apply pw_below_drewN | apply below_drew1) | exact HB.out)))); have n2_ := Aside0.mk (below_step (by repeat (first | (with_reducible first | exact HB.out | apply below_alloc | apply pw_below_drewN | apply below_drew1) | exact HB.out)) hb); clear HO_6; clear HB; have HO_6 := n0_; have HO331 := n1_; have HB := n2_; clear n0_ n1_ n2_; (try clear hb); (try clear hb2); (try clear hk); (try clear hi); (try clear ho0); obtain ⟨Ao21, co21, eo21⟩ := Kd.R_slice HO331.out; subst eo21) | ((with_reducible refine gate_callee (f := 20) rfl ?_); refine goesL_ (some 38) rfl rfl Try.func20 (by kernel_rfl) rfl #[.slice Ao13 t324.length co13, .slice Ao21 t329.length co21] rfl (by (try simp only [List.map_toArray, List.map_cons, List.map_nil]); first | done | rfl | (simp only [List.length_drop, List.length_take]; rfl)) ?_; (with_reducible refine (laws_eqCellS.calls kj7 _ _ t324 _ _ t329 true _ ?side1 ?side2 ?side3 ?side4 A18.out).mono ?_); (case side1 => repeat (first | exact (Kd.R_reads' HO_6.out).2.2 | (with_reducible refine Kd.C_alloc ?_ _) | (with_reducible refine Kd.C_drewN ?_ _) | (with_reducible refine Kd.C_drew ?_))); (case side2 => exact (Kd.R_reads' HO_6.out).2.1); (case side3 => repeat (first | exact (Kd.R_reads' HO331.out).2.2 | (with_reducible refine Kd.C_alloc ?_ _) | (with_reducible refine Kd.C_drewN ?_ _) | (with_reducible refine Kd.C_drew ?_))); (case side4 => exact (Kd.R_reads' HO331.out).2.1); rintro e w22 ⟨rfl, hb⟩; refine ⟨_, rfl, ?_⟩; have n0_ := Aside0.mk (Kd.R_below (by (with_reducible repeat (first | apply Kd.R_alloc | apply Kd.R_drewN | apply Kd.R_drew)); exact HO_6.out) hb); have n1_ := Aside0.mk (Kd.R_below (by (with_reducible repeat (first | apply Kd.R_alloc | apply Kd.R_drewN | apply Kd.R_drew)); exact HO331.out) hb); have n2_ := Aside0.mk (below_step (by repeat (first | (with_reducible first | exact HB.out | apply below_alloc | apply pw_below_drewN | apply below_drew1) | exact HB.out)) hb); clear HO_6; clear HO331; clear HB; have HO_6 := n0_; have HO331 := n1_; have HB := n2_; clear n0_ n1_ n2_; (try clear hb); (try clear hb2); (try clear hk); (try clear hi)))
            go_ret
            exact ⟨by first | rfl | (simp [errW_none, errW_some] <;> rfl) | (simp [*, errW_none, errW_some] <;> rfl), by repeat (first | (with_reducible first | exact HB.out | apply below_alloc | apply pw_below_drewN | apply below_drew1) | exact HB.out)⟩
          · replace c19 := Bool.eq_false_iff.mpr c19
            subst c19
            have H1 : (some false) = some r := by rw [if_neg (show ¬ (false = true) by decide)] at H; exact H
            clear H
            have H := H1
            clear H1
            obtain rfl := Option.some.inj H
            go_wp2_with (first | ((with_reducible refine gate_callee (f := 18) rfl ?_); refine goesL_ (some 37) rfl rfl Try.func18 (by kernel_rfl) rfl #[.slice A0 l0.length c0] rfl (by (try simp only [List.map_toArray, List.map_cons, List.map_nil]); first | done | rfl | (simp only [List.length_drop, List.length_take]; rfl)) ?_; (with_reducible refine (laws_toCellS.calls kj7 _ _ l0 t329 _ ?side1 ?side2 A17.out).mono ?_); (case side1 => repeat (first | exact (Kd.C_below HR0.out HB.out) | (with_reducible refine Kd.C_alloc ?_ _) | (with_reducible refine Kd.C_drewN ?_ _) | (with_reducible refine Kd.C_drew ?_))); (case side2 => exact HC0.out); rintro e w23 ⟨v330, rfl, ho0, hb⟩; refine ⟨_, rfl, ?_⟩; have n0_ := Aside0.mk (Kd.R_elder' (by (with_reducible repeat (first | apply Kd.R_alloc | apply Kd.R_drewN | apply Kd.R_drew)); exact HO_6.out) (Kd.R_base ho0) hb); have n1_ := Aside0.mk (Kd.R_lower (Kd.R_new' ho0 (Kd.R_lt (by (with_reducible repeat (first | apply Kd.R_alloc | apply Kd.R_drewN | apply Kd.R_drew)); exact HO_6.out))) (below_size (by repeat (first | (with_reducible first | exact HB.out | apply below_alloc | apply pw_below_drewN | apply below_drew1) | exact HB.out)))); have n2_ := Aside0.mk (below_step (by repeat (first | (with_reducible first | exact HB.out | apply below_alloc | apply pw_below_drewN | apply below_drew1) | exact HB.out)) hb); clear HO_6; clear HB; have HO_6 := n0_; have HO331 := n1_; have HB := n2_; clear n0_ n1_ n2_; (try clear hb); (try clear hb2); (try clear hk); (try clear hi); (try clear ho0); obtain ⟨Ao24, co24, eo24⟩ := Kd.R_slice HO331.out; subst eo24) | ((with_reducible refine gate_callee (f := 20) rfl ?_); refine goesL_ (some 38) rfl rfl Try.func20 (by kernel_rfl) rfl #[.slice Ao13 t324.length co13, .slice Ao24 t329.length co24] rfl (by (try simp only [List.map_toArray, List.map_cons, List.map_nil]); first | done | rfl | (simp only [List.length_drop, List.length_take]; rfl)) ?_; (with_reducible refine (laws_eqCellS.calls kj7 _ _ t324 _ _ t329 false _ ?side1 ?side2 ?side3 ?side4 A18.out).mono ?_); (case side1 => repeat (first | exact (Kd.R_reads' HO_6.out).2.2 | (with_reducible refine Kd.C_alloc ?_ _) | (with_reducible refine Kd.C_drewN ?_ _) | (with_reducible refine Kd.C_drew ?_))); (case side2 => exact (Kd.R_reads' HO_6.out).2.1); (case side3 => repeat (first | exact (Kd.R_reads' HO331.out).2.2 | (with_reducible refine Kd.C_alloc ?_ _) | (with_reducible refine Kd.C_drewN ?_ _) | (with_reducible refine Kd.C_drew ?_))); (case side4 => exact (Kd.R_reads' HO331.out).2.1); rintro e w25 ⟨rfl, hb⟩; refine ⟨_, rfl, ?_⟩; have n0_ := Aside0.mk (Kd.R_below (by (with_reducible repeat (first | apply Kd.R_alloc | apply Kd.R_drewN | apply Kd.R_drew)); exact HO_6.out) hb); have n1_ := Aside0.mk (Kd.R_below (by (with_reducible repeat (first | apply Kd.R_alloc | apply Kd.R_drewN | apply Kd.R_drew)); exact HO331.out) hb); have n2_ := Aside0.mk (below_step (by repeat (first | (with_reducible first | exact HB.out | apply below_alloc | apply pw_below_drewN | apply below_drew1) | exact HB.out)) hb); clear HO_6; clear HO331; clear HB; have HO_6 := n0_; have HO331 := n1_; have HB := n2_; clear n0_ n1_ n2_; (try clear hb); (try clear hb2); (try clear hk); (try clear hi)))
            go_ret
            exact ⟨by first | rfl | (simp [errW_none, errW_some] <;> rfl) | (simp [*, errW_none, errW_some] <;> rfl), by repeat (first | (with_reducible first | exact HB.out | apply below_alloc | apply pw_below_drewN | apply below_drew1) | exact HB.out)⟩

end Go.Proofs.Ytlhlilgienicfaa.X
