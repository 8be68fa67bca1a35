-- Written by xprint.py, a program of this session, on the kit's print.py: functions of the seat in one namespace.
import Derived.Lib.SliceRun
import Derived.Test.YtbfmocohknadkaaXx0
import Derived.Test.YtbfmocohknadkaaXx1
import Derived.Test.YtbfmocohknadkaaXx3
import Derived.Test.YtbfmocohknadkaaXx4
import Derived.Test.YtbfmocohknadkaaXx11
import Derived.Test.YtbfmocohknadkaaXx15
import Derived.Test.YtbfmocohknadkaaXx16
import Derived.Test.YtbfmocohknadkaaXx18
namespace Go.Proofs.Ytbfmocohknadkaa.X
open Go.RowKit Go.Proofs.YtbfmocohknadkaaW.PrintWords Go.Proofs.YtbfmocohknadkaaW.PrintLast Go.Proofs.YtbfmocohknadkaaW.PrintMore
attribute [local go_sem] max2_int min2_int max_two min_two max_three min_three max_four min_four   -- for this text's walks alone
set_option linter.unusedVariables false
set_option linter.unusedSimpArgs false

/-! ### spec_NeighboursOf: function 45 -/
def spec_NeighboursOf.f (k : Nat) (l0 : List (S57)) : Option ((List (S57)) × Int) := (spec_IsShape.f k l0).bind fun t805 => (if t805 = true then ((spec_l02Neighbours.f k l0).bind fun t806 => (some (t806, 0))) else (some (([] : List (S57)), 1)))
theorem spec_NeighboursOf.mono : ∀ a0 k, LeO (spec_NeighboursOf.f k a0) (spec_NeighboursOf.f (k + 1) a0) := by
  intro a0 k
  unfold spec_NeighboursOf.f
  repeat' first
      | (with_reducible exact spec_IsShape.mono _ _)
      | (with_reducible exact spec_l02Neighbours.mono _ _)
      | (with_reducible exact LeO.refl _)
      | (with_reducible exact LeO.none _)
      | (with_reducible refine LeO.ite ?_ ?_)
      | (with_reducible refine LeO.bind ?_ (fun _ => ?_))
      | exact spec_IsShape.mono _ _
      | exact spec_l02Neighbours.mono _ _
      | exact LeO.none _
      | refine LeO.ite ?_ ?_
      | refine LeO.bind ?_ (fun _ => ?_)
set_option maxHeartbeats 8000000 in
set_option maxRecDepth 100000 in
theorem spec_NeighboursOf.calls (k : Nat) (A0 : Option Addr) (c0 : Nat) (l0 : List (S57)) (r1 : List (S57)) (r2 : Int) (w : World) (hr0 : Kd.C k57 w A0 l0.length l0) (hc0 : l0.length ≤ c0) (h : spec_NeighboursOf.f k l0 = some (r1, r2)) :
    Calls Try.prog 45 #[.slice A0 l0.length c0] w fun e w' => ∃ v0_ : Value, e = .returned (.tuple #[v0_, .int .i64 r2]) ∧ Kd.R k57 57 w' w.heap.size (fun _ => True) v0_ r1 ∧ Below w.heap.size w w' := by
  have HR0 := Aside0.mk hr0
  have HC0 := Aside0.mk hc0
  clear hr0 hc0
  have HB := Aside0.mk (Below.refl w.heap.size w)
  have H : ((spec_IsShape.f k l0).bind fun t805 => (if t805 = true then ((spec_l02Neighbours.f k l0).bind fun t806 => (some (t806, 0))) else (some (([] : List (S57)), 1)))) = some (r1, r2) := h
  clear h
  replace H := Option.bind_eq_some_iff.mp H
  obtain ⟨t805, A20, H⟩ := H
  replace H : (if t805 = true then ((spec_l02Neighbours.f k l0).bind fun t806 => (some (t806, 0))) else (some (([] : List (S57)), 1))) = some (r1, r2) := H
  have A2 := Aside0.mk A20
  clear A20
  by_cases c3 : t805 = true
  · subst c3
    have H1 : ((spec_l02Neighbours.f k l0).bind fun t806 => (some (t806, 0))) = some (r1, r2) := by rw [if_pos rfl] at H; exact H
    clear H
    have H := H1
    clear H1
    replace H := Option.bind_eq_some_iff.mp H
    obtain ⟨t806, A40, H⟩ := H
    replace H : (some (t806, 0)) = some (r1, r2) := H
    have A4 := Aside0.mk A40
    clear A40
    simp only [Option.some.injEq, Prod.mk.injEq] at H
    obtain ⟨rfl, rfl⟩ := H
    go_enter Try.func45, Try.ntmps45
    go_wp2_with (first | ((with_reducible refine gate_callee (f := 61) rfl ?_); refine goesL_ (some 5) rfl rfl Try.func61 (by kernel_rfl) rfl #[.slice A0 l0.length c0] rfl (by (try simp only [List.map_toArray, List.map_cons, List.map_nil]); first | done | rfl | (simp only [List.length_drop, List.length_take]; rfl)) ?_; (with_reducible refine (spec_IsShape.calls k _ _ l0 true _ ?side1 ?side2 A2.out).mono ?_); (case side1 => repeat (first | exact HR0.out | (with_reducible refine Kd.C_alloc ?_ _) | (with_reducible refine Kd.C_drewN ?_ _) | (with_reducible refine Kd.C_drew ?_))); (case side2 => exact HC0.out); rintro e w5 ⟨rfl, hb⟩; refine ⟨_, rfl, ?_⟩; have n0_ := Aside0.mk (below_step (by repeat (first | (with_reducible first | exact HB.out | apply below_alloc | apply pw_below_drewN | apply below_drew1) | exact HB.out)) hb); clear HB; have HB := n0_; clear n0_; (try clear hb); (try clear hb2); (try clear hk); (try clear hi)) | ((with_reducible refine gate_callee (f := 88) rfl ?_); refine goesL_ (some 8) rfl rfl Try.func88 (by kernel_rfl) rfl #[.slice A0 l0.length c0] rfl (by (try simp only [List.map_toArray, List.map_cons, List.map_nil]); first | done | rfl | (simp only [List.length_drop, List.length_take]; rfl)) ?_; (with_reducible refine (spec_l02Neighbours.calls k _ _ l0 t806 _ ?side1 ?side2 A4.out).mono ?_); (case side1 => repeat (first | exact (Kd.C_below HR0.out HB.out) | (with_reducible refine Kd.C_alloc ?_ _) | (with_reducible refine Kd.C_drewN ?_ _) | (with_reducible refine Kd.C_drew ?_))); (case side2 => exact HC0.out); rintro e w6 ⟨v807, rfl, ho0, hb⟩; refine ⟨_, rfl, ?_⟩; have n0_ := Aside0.mk (Kd.R_lower ho0 (below_size (by repeat (first | (with_reducible first | exact HB.out | apply below_alloc | apply pw_below_drewN | apply below_drew1) | exact HB.out)))); have n1_ := Aside0.mk (below_step (by repeat (first | (with_reducible first | exact HB.out | apply below_alloc | apply pw_below_drewN | apply below_drew1) | exact HB.out)) hb); clear HB; have HO808 := n0_; have HB := n1_; clear n0_ n1_; (try clear hb); (try clear hb2); (try clear hk); (try clear hi); (try clear ho0)))
    go_ret2
    exact ⟨_, by first | rfl | (simp [errW_none, errW_some] <;> rfl) | (simp [*, errW_none, errW_some] <;> rfl), by (with_reducible repeat (first | apply Kd.R_alloc | apply Kd.R_drewN | apply Kd.R_drew)); exact HO808.out, by repeat (first | (with_reducible first | exact HB.out | apply below_alloc | apply pw_below_drewN | apply below_drew1) | exact HB.out)⟩
  · replace c3 := Bool.eq_false_iff.mpr c3
    subst c3
    have H1 : (some (([] : List (S57)), 1)) = some (r1, r2) := by rw [if_neg (show ¬ (false = true) by decide)] at H; exact H
    clear H
    have H := H1
    clear H1
    simp only [Option.some.injEq, Prod.mk.injEq] at H
    obtain ⟨rfl, rfl⟩ := H
    go_enter Try.func45, Try.ntmps45
    go_wp2_with (first | ((with_reducible refine gate_callee (f := 61) rfl ?_); refine goesL_ (some 5) rfl rfl Try.func61 (by kernel_rfl) rfl #[.slice A0 l0.length c0] rfl (by (try simp only [List.map_toArray, List.map_cons, List.map_nil]); first | done | rfl | (simp only [List.length_drop, List.length_take]; rfl)) ?_; (with_reducible refine (spec_IsShape.calls k _ _ l0 false _ ?side1 ?side2 A2.out).mono ?_); (case side1 => repeat (first | exact HR0.out | (with_reducible refine Kd.C_alloc ?_ _) | (with_reducible refine Kd.C_drewN ?_ _) | (with_reducible refine Kd.C_drew ?_))); (case side2 => exact HC0.out); rintro e w7 ⟨rfl, hb⟩; refine ⟨_, rfl, ?_⟩; have n0_ := Aside0.mk (below_step (by repeat (first | (with_reducible first | exact HB.out | apply below_alloc | apply pw_below_drewN | apply below_drew1) | exact HB.out)) hb); clear HB; have HB := n0_; clear n0_; (try clear hb); (try clear hb2); (try clear hk); (try clear hi)))
    go_ret2
    exact ⟨_, by first | rfl | (simp [errW_none, errW_some] <;> rfl) | (simp [*, errW_none, errW_some] <;> rfl), by first | exact Kd.R_nil _ _ _ _ _ | exact Kd.N_nil _ _ _ _ _ | exact Kd.V_nil _ _ _ _ _ | exact Kd.Q_nil _ _ _ _ _ | exact Kd.S_nil _ _ _ _ _, by repeat (first | (with_reducible first | exact HB.out | apply below_alloc | apply pw_below_drewN | apply below_drew1) | exact HB.out)⟩

/-! ### slices_Compact_Cell: function 118, by hand -/
-- IMPORT Derived.Lib.SliceRun
section
attribute [local go_sem high] eqA57
def sameC_ (a b : S57) : Bool := a.f0 == b.f0 && (a.f1 == b.f1)
/-- the first n cells without those that come again one behind the other -/
def ddN_ (l : List S57) : Nat → List S57
  | 0 => []
  | i + 1 => if i ≠ 0 ∧ sameC_ (rd_T57 l (i : Nat)) (rd_T57 l ((i - 1 : Nat) : Int)) = true then ddN_ l i else ddN_ l i ++ [rd_T57 l (i : Nat)]
def slices_Compact_Cell.f (l0 : List S57) : Option (List S57) := some (ddN_ l0 l0.length)
/-- the row's block in a world: what the first cells are -/
structure RowAt_ (w : World) (g cap n : Nat) (m : List S57) (wr : World) : Prop where
  blk : ∃ cur, wr.heap[g]? = some (.cells cur 57 (0, 0)) ∧ cur.size = cap * 2 ∧ cur.toList.take (n * 2) = flatC_ m
  len : m.length = n
  grown : w.grownBy wr (some g)
theorem RowAt_.cell {w wr : World} {g cap n : Nat} {m : List S57} (h : RowAt_ w g cap n m wr) (p : Nat) (hp : p < n) (x : S57) (hx : m[p]? = some x) :
    wr.cell? ⟨g, p * 2, none⟩ = some (.int .i64 x.f0) ∧ wr.cell? ⟨g, p * 2 + 1, none⟩ = some (.int .i64 x.f1) ∧ wr.frozen? ⟨g, p * 2, none⟩ = false ∧ wr.frozen? ⟨g, p * 2 + 1, none⟩ = false := by
  obtain ⟨cur, hb, hs, ht⟩ := h.blk
  obtain ⟨g0, g1⟩ := flatC_get m p x hx
  rw [← ht, List.getElem?_take, if_pos (by omega), Array.getElem?_toList] at g0 g1
  refine ⟨(blk_cell hb _).trans ?_, (blk_cell hb _).trans ?_, blk_frozen hb _, blk_frozen hb _⟩
  · rw [show p * 2 = 2 * p by omega]; exact g0
  · rw [show p * 2 + 1 = 2 * p + 1 by omega]; exact g1
theorem RowAt_.drew {w wr : World} {g cap n : Nat} {m : List S57} (h : RowAt_ w g cap n m wr) (k : Nat) : RowAt_ w g cap n m (wr.drewN k) :=
  ⟨h.blk, h.len, ⟨h.grown.os, h.grown.tape, h.grown.output, h.grown.size, h.grown.block⟩⟩
theorem flatC_set : ∀ (m : List S57) (p : Nat) (x : S57), flatC_ (m.set p x) = ((flatC_ m).set (p * 2) (.int .i64 x.f0)).set (p * 2 + 1) (.int .i64 x.f1) := by
  intro m
  induction m with
  | nil => intro p x; rfl
  | cons c r ih =>
    intro p x
    cases p with
    | zero => rfl
    | succ p =>
      show encC_ c ++ flatC_ (r.set p x) = _
      rw [ih p x]
      show _ = ((encC_ c ++ flatC_ r).set ((p + 1) * 2) _).set ((p + 1) * 2 + 1) _
      rw [show (p + 1) * 2 = p * 2 + 2 from by omega]
      rfl
theorem RowAt_.set {w wr : World} {g cap n : Nat} {m : List S57} (h : RowAt_ w g cap n m wr) (hn : n ≤ cap) (p : Nat) (hp : p < n) (x : S57) :
    RowAt_ w g cap n (m.set p x) ((wr.setCell ⟨g, p * 2, none⟩ (.int .i64 x.f0)).setCell ⟨g, p * 2 + 1, none⟩ (.int .i64 x.f1)) := by
  obtain ⟨cur, hb, hs, ht⟩ := h.blk
  refine ⟨⟨_, blk_set (blk_set hb _ _) _ _, by simp [hs], ?_⟩, by rw [List.length_set]; exact h.len, ?_⟩
  · rw [flatC_set, ← ht]
    simp only [Array.toList_setIfInBounds, List.take_set]
  · refine ⟨h.grown.os, h.grown.tape, h.grown.output, ?_, fun k hk hne => ?_⟩
    · have := h.grown.size; simpa [World.setCell] using this
    · have hkg : k ≠ g := fun e => hne (by rw [e])
      rw [Below.heap_setCell _ _ _ k hkg, Below.heap_setCell _ _ _ k hkg]; exact h.grown.block k hk hne
theorem setCells_blk {e : TypeId} (g : Nat) : ∀ (vs : List Value) (o : Nat) (wr : World) (cur : Array Value), wr.heap[g]? = some (.cells cur e (0, 0)) → ∃ cur', (wr.setCells g o vs).heap[g]? = some (.cells cur' e (0, 0)) ∧ cur'.size = cur.size ∧ (∀ j, j < o → cur'[j]? = cur[j]?) ∧ (∀ k, k ≠ g → (wr.setCells g o vs).heap[k]? = wr.heap[k]?) ∧ (wr.setCells g o vs).heap.size = wr.heap.size ∧ (wr.setCells g o vs).os = wr.os ∧ (wr.setCells g o vs).tape = wr.tape ∧ (wr.setCells g o vs).output = wr.output := by
  intro vs
  induction vs with
  | nil => intro o wr cur h; exact ⟨cur, h, rfl, fun _ _ => rfl, fun _ _ => rfl, rfl, rfl, rfl, rfl⟩
  | cons v r ih =>
    intro o wr cur h
    obtain ⟨c', h1, h2, h3, h4, h5, h6, h7, h8⟩ := ih (o + 1) (wr.setCell ⟨g, o, none⟩ v) _ (blk_set h o v)
    refine ⟨c', h1, by rw [h2]; simp, fun j hj => ?_, fun k hk => ?_, ?_, h6, h7, h8⟩
    · rw [h3 j (by omega), Array.getElem?_setIfInBounds_ne (by omega)]
    · exact (h4 k hk).trans (Below.heap_setCell _ _ _ k hk)
    · refine h5.trans ?_; simp [World.setCell]
theorem ddN_length (l : List S57) : ∀ i, (ddN_ l i).length ≤ i := by
  intro i
  induction i with
  | zero => exact Nat.le_refl _
  | succ i ih =>
    unfold ddN_
    split
    · omega
    · rw [List.length_append]; simp; omega
theorem zeroCells_cell (n : Nat) : (Builtin.zeroCells (Value.agg #[.int .i64 0, .int .i64 0]).cells n).toList = List.replicate (n * 2) (.int .i64 0) := by
  apply List.ext_getElem
  · simp [Builtin.zeroCells, Value.cells]
  · intro i h1 h2
    simp [Builtin.zeroCells, Value.cells]
    have : i % 2 = 0 ∨ i % 2 = 1 := by omega
    rcases this with h | h <;> simp [h]
theorem clear_cells (w : World) (ty : TypeId) (b o n c : Nat) (hn : 0 < n) (hc : ∀ j, j < n * 2 → (w.cell? ⟨b, o + j, none⟩).isSome = true) (hf : ∀ j, j < n * 2 → w.frozen? ⟨b, o + j, none⟩ = false) :
    (Builtin.clear_ #[30] ty #[.slice (some ⟨b, o, none⟩) n c]).run Try.prog w = .ok (.tuple #[]) (w.setCells b o (List.replicate (n * 2) (.int .i64 0))) := by
  have hst := run_storeCells_cells (P := Try.prog) b o (List.replicate (n * 2) (.int .i64 0)) 0 w (by simpa using hc) (by simpa using hf) (by intro v hv'; rw [List.eq_of_mem_replicate hv']; rfl)
  simp only [Nat.add_zero] at hst
  obtain ⟨m, rfl⟩ : ∃ m, n = m + 1 := ⟨n - 1, by omega⟩
  have hz := zeroCells_cell (m + 1)
  simp [Builtin.clear_, run_underlying Try.underlying30, Try.zeroValue57, hz, hst]
theorem w64_ {x : Int} (h1 : -9223372036854775808 ≤ x) (h2 : x ≤ 9223372036854775807) : wrap64 x = x := by unfold wrap64; omega
theorem flatC_take : ∀ (m : List S57) (k : Nat), flatC_ (m.take k) = (flatC_ m).take (k * 2) := by
  intro m
  induction m with
  | nil => intro k; simp [flatC_]
  | cons c r ih =>
    intro k
    cases k with
    | zero => rfl
    | succ k =>
      rw [List.take_succ_cons]
      show encC_ c ++ flatC_ (r.take k) = (encC_ c ++ flatC_ r).take ((k + 1) * 2)
      rw [ih k, show (k + 1) * 2 = k * 2 + 2 by omega]; rfl
theorem rdC_get (l : List S57) (p : Nat) (hp : p < l.length) : l[p]? = some (rd_T57 l (p : Nat)) := by
  unfold rd_T57; rw [List.getD_eq_getElem?_getD, Int.toNat_natCast, List.getElem?_eq_getElem hp]; rfl
set_option maxHeartbeats 4000000 in
set_option maxRecDepth 100000 in
theorem compact_walk (g cap : Nat) (l : List S57) (w : World) (h2 : 2 ≤ l.length) (hn : l.length ≤ cap) (hmax : cap ≤ maxLen) (h : RowAt_ w g cap l.length l w) :
    Calls Try.prog 118 #[.slice (some ⟨g, 0, none⟩) l.length cap] w fun e w' => e = .returned (.slice (some ⟨g, 0, none⟩) (ddN_ l l.length).length cap) ∧ RowAt_ w g cap (ddN_ l l.length).length (ddN_ l l.length) w' := by
  have hu1 := Try.underlying30
  simp only [maxLen] at hmax
  have HN := Aside0.mk hn
  have HR := Aside0.mk h
  clear h
  go_enter Try.func118, Try.ntmps118
  have z1 : decide ((l.length : Int) < 2) = false := decide_eq_false (by omega)
  have z2 : decide (l.length < 2) = false := decide_eq_false (by omega)
  go_wp2_with fail
  go_loopg [3] l.length (fun gk v3 wr => ∃ (kx : Int) (q : Nat), v3 = .int .i64 kx ∧ wr = w.drewN q ∧ Aside0 (1 ≤ kx ∧ kx ≤ l.length ∧ gk + kx = l.length + 1) ∧ Aside0 (ddN_ l kx.toNat = l.take kx.toNat))
  case atStart => exact ⟨1, 0, rfl, rfl, ⟨by omega⟩, ⟨by
    cases l with
    | nil => simp at h2
    | cons c r => rfl⟩⟩
  case round =>
    obtain ⟨kx, q, rfl, rfl, HK, HD⟩ := hrel
    cases gk with
    | zero => exact absurd HK.out (by omega)
    | succ gk2 =>
      by_cases hlt : kx < (l.length : Int)
      · have hk1 := HK.out.1
        obtain ⟨x0, x1, _, _⟩ := HR.out.cell kx.toNat (by omega) _ (rdC_get l kx.toNat (by omega))
        obtain ⟨y0, y1, _, _⟩ := HR.out.cell (kx.toNat - 1) (by omega) _ (rdC_get l (kx.toNat - 1) (by omega))
        have hdd : ddN_ l (kx.toNat + 1) = if sameC_ (rd_T57 l (kx.toNat : Nat)) (rd_T57 l ((kx.toNat - 1) : Nat)) = true then ddN_ l kx.toNat else ddN_ l kx.toNat ++ [rd_T57 l (kx.toNat : Nat)] := by
          show (if kx.toNat ≠ 0 ∧ sameC_ (rd_T57 l (kx.toNat : Nat)) (rd_T57 l ((kx.toNat - 1 : Nat) : Int)) = true then _ else _) = _
          simp only [show kx.toNat ≠ 0 by omega, true_and, ne_eq, not_false_eq_true]
        have HDD := Aside0.mk hdd
        clear hdd
        have HX := Aside0.mk (rdC_get l kx.toNat (by omega))
        generalize rd_T57 l (kx.toNat : Nat) = x at *
        generalize rd_T57 l ((kx.toNat - 1) : Nat) = y at *
        have c1 : decide (kx < (l.length : Int)) = true := decide_eq_true hlt
        have p0 : 0 ≤ kx := by omega
        have p1 : 0 ≤ kx - 1 := by omega
        have q1 : kx - 1 < (l.length : Int) := by omega
        clear hk1
        by_cases hs : sameC_ x y = true
        · have hs' : (x.f0 == y.f0 && (x.f1 == y.f1)) = true := hs
          have HS := Aside0.mk hs
          clear hs
          go_wp2_with fail
          go_region
          go_wp2_with fail
          have hK1 : 1 ≤ kx.toNat := by omega
          have hKn : kx.toNat < l.length := by omega
          have hgk : kx = (kx.toNat : Int) := by omega
          have hD := HD.out
          have hDD := HDD.out
          rw [if_pos HS.out] at hDD
          clear x0 x1 y0 y1 HX HDD HD HS hs' c1 p0 p1 q1 hlt HK
          generalize kx.toNat = K at *
          subst hgk
          obtain ⟨L2, hL2⟩ : ∃ L2, L2 = l.length - K := ⟨_, rfl⟩
          obtain ⟨C2, hC2⟩ : ∃ C2, C2 = cap - K := ⟨_, rfl⟩
          rw [← hL2, ← hC2]
          have hL2m : L2 ≤ 9223372036854775807 := by omega
          have HL2 := Aside0.mk hL2
          have HC2 := Aside0.mk hC2
          have HKK := Aside0.mk (⟨hK1, hKn⟩ : 1 ≤ K ∧ K < l.length)
          have HD0 := Aside0.mk (⟨hD, hDD⟩ : ddN_ l K = l.take K ∧ ddN_ l (K + 1) = ddN_ l K)
          clear hL2 hC2 hK1 hKn hD hDD
          go_loopg [3, 5] l.length (fun gk v3 v5 wr => ∃ (kv k2 : Int) (m : List S57), v3 = .int .i64 kv ∧ v5 = .int .i64 k2 ∧ Aside0 (1 ≤ k2 ∧ k2 ≤ L2 ∧ gk + (K + k2) = l.length + K + 1) ∧ Aside0 (RowAt_ w g cap l.length m wr) ∧ Aside0 (kv = (ddN_ l (K + k2.toNat)).length) ∧ Aside0 (m.take kv.toNat = ddN_ l (K + k2.toNat)) ∧ Aside0 (∀ p, K + k2.toNat ≤ p + 1 → m[p]? = l[p]?) ∧ Aside0 (kv < K + k2))
          case atStart =>
            have e : (ddN_ l (K + (1 : Int).toNat)) = l.take K := by rw [show (1 : Int).toNat = 1 from rfl, HD0.out.2, HD0.out.1]
            have el : (l.take K).length = K := by rw [List.length_take]; have := HKK.out; omega
            exact ⟨K, 1, l, rfl, rfl, ⟨by have := HKK.out; have := HL2.out; omega⟩, ⟨HR.out.drew _⟩, ⟨by rw [e, el]⟩, ⟨by rw [e]; rfl⟩, ⟨fun p _ => rfl⟩, ⟨by omega⟩⟩
          case round =>
            clear HD0
            obtain ⟨kv, k2, m, rfl, rfl, HB2, HRW, HV, HT, HH, HVK⟩ := hrel
            cases gk with
            | zero => exact absurd HB2.out (by have := HKK.out; have := HL2.out; omega)
            | succ gk3 =>
              by_cases hlt2 : k2 < (L2 : Int)
              · have hb := HB2.out
                have hkk := HKK.out
                have hl2 := HL2.out
                have hvk := HVK.out
                have hi : K + k2.toNat < l.length := by omega
                have hm : ∀ p, K + k2.toNat ≤ p + 1 → p < l.length → m[p]? = some (rd_T57 l (p : Nat)) := fun p h1 h2 => by rw [HH.out p h1]; exact rdC_get l p h2
                obtain ⟨x0, x1, _, _⟩ := HRW.out.cell (K + k2.toNat) hi _ (hm _ (by omega) hi)
                obtain ⟨y0, y1, _, _⟩ := HRW.out.cell (K + (k2.toNat - 1)) (by omega) _ (hm _ (by omega) (by omega))
                have hml := HRW.out.len
                have hv0 : 0 ≤ kv := by rw [HV.out]; omega
                obtain ⟨_, _, s0, s1⟩ := HRW.out.cell kv.toNat (by omega) _ (rdC_get m kv.toNat (by omega))
                have hc0 := HRW.out.cell kv.toNat (by omega) _ (rdC_get m kv.toNat (by omega))
                obtain ⟨o0, o1, _, _⟩ := hc0
                have hdd : ddN_ l (K + k2.toNat + 1) = if sameC_ (rd_T57 l ((K + k2.toNat : Nat) : Int)) (rd_T57 l ((K + (k2.toNat - 1) : Nat) : Int)) = true then ddN_ l (K + k2.toNat) else ddN_ l (K + k2.toNat) ++ [rd_T57 l ((K + k2.toNat : Nat) : Int)] := by
                  show (if K + k2.toNat ≠ 0 ∧ sameC_ (rd_T57 l ((K + k2.toNat : Nat) : Int)) (rd_T57 l ((K + k2.toNat - 1 : Nat) : Int)) = true then _ else _) = _
                  rw [show K + k2.toNat - 1 = K + (k2.toNat - 1) by omega]
                  simp only [show K + k2.toNat ≠ 0 by omega, true_and, ne_eq, not_false_eq_true]
                have HDD := Aside0.mk hdd
                clear hdd
                have HX := Aside0.mk (hm _ (by omega) hi)
                generalize rd_T57 l ((K + k2.toNat : Nat) : Int) = x at *
                generalize rd_T57 l ((K + (k2.toNat - 1) : Nat) : Int) = y at *
                generalize rd_T57 m ((kv.toNat : Nat) : Int) = old at *
                rw [show (K + k2.toNat) * 2 = K * 2 + k2.toNat * 2 by omega] at x0 x1
                rw [show (K + (k2.toNat - 1)) * 2 = K * 2 + (k2.toNat - 1) * 2 by omega] at y0 y1
                have c1 : decide (k2 < (L2 : Int)) = true := decide_eq_true hlt2
                have p0 : 0 ≤ k2 := by omega
                have p1 : 0 ≤ k2 - 1 := by omega
                have q1 : k2 - 1 < (L2 : Int) := by omega
                have pv : 0 ≤ kv := hv0
                have qv : kv < (l.length : Int) := by omega
                have HI := Aside0.mk hi
                clear hm hi hl2 hkk hb hvk hml hv0
                by_cases hs : sameC_ x y = true
                · have hs' : (x.f0 == y.f0 && (x.f1 == y.f1)) = true := hs
                  have HS := Aside0.mk hs
                  clear hs
                  have hsn : (!(x.f0 == y.f0 && (x.f1 == y.f1))) = false := by rw [hs']; rfl
                  go_wp2_with fail
                  go_region
                  go_wp2_with fail
                  go_roundg gk3
                  case measure => omega
                  case rel =>
                    have hdd := HDD.out
                    rw [if_pos HS.out] at hdd
                    have ek : K + (k2 + 1).toNat = K + k2.toNat + 1 := by omega
                    exact ⟨kv, k2 + 1, m, rfl, rfl, ⟨by have := HB2.out; omega⟩, ⟨HRW.out.drew 1⟩, ⟨by rw [ek, hdd]; exact HV.out⟩, ⟨by rw [ek, hdd]; exact HT.out⟩, ⟨fun p hp => HH.out p (by omega)⟩, ⟨by have := HVK.out; omega⟩⟩
                · replace hs : (x.f0 == y.f0 && (x.f1 == y.f1)) = false := Bool.eq_false_iff.mpr hs
                  have HS := Aside0.mk hs
                  have hsn : (!(x.f0 == y.f0 && (x.f1 == y.f1))) = true := by rw [hs]; rfl
                  go_wp2_with fail
                  go_region
                  go_wp2_with fail
                  go_roundg gk3
                  case measure => omega
                  case rel =>
                    have hdd := HDD.out
                    rw [if_neg (by unfold sameC_; rw [HS.out]; simp)] at hdd
                    have ek : K + (k2 + 1).toNat = K + k2.toNat + 1 := by omega
                    have ev : (kv + 1).toNat = kv.toNat + 1 := by omega
                    have hml := HRW.out.len
                    refine ⟨kv + 1, k2 + 1, m.set kv.toNat x, rfl, rfl, ⟨by have := HB2.out; omega⟩, ⟨(HRW.out.drew 1).set HN.out kv.toNat (by omega) x⟩, ⟨?_⟩, ⟨?_⟩, ⟨fun p hp => ?_⟩, ⟨by have := HVK.out; omega⟩⟩
                    · rw [ek, hdd, List.length_append]; have := HV.out; simp; omega
                    · rw [ek, hdd, ev, List.take_add_one, List.take_set_of_le (Nat.le_refl _), HT.out, List.getElem?_set_self (by omega)]; rfl
                    · have := HVK.out
                      rw [List.getElem?_set_ne (by omega)]; exact HH.out p (by omega)
              · have hb := HB2.out
                have hkk := HKK.out
                have hl2 := HL2.out
                have hvk := HVK.out
                have hv0 : 0 ≤ kv := by rw [HV.out]; omega
                have hek : K + k2.toNat = l.length := by omega
                have hvn : kv.toNat < l.length := by omega
                obtain ⟨cur, hcb, hcs, hct⟩ := HRW.out.blk
                have hcl : ∀ ty, (Builtin.clear_ #[30] ty #[.slice (some ⟨g, kv.toNat * 2, none⟩) (l.length - kv.toNat) (cap - kv.toNat)]).run Try.prog wr = .ok (.tuple #[]) (wr.setCells g (kv.toNat * 2) (List.replicate ((l.length - kv.toNat) * 2) (.int .i64 0))) := by
                  intro ty
                  refine clear_cells wr ty g _ _ _ (by omega) (fun j hj => ?_) (fun j hj => blk_frozen hcb _)
                  rw [blk_cell hcb, Array.getElem?_eq_getElem (by have := HN.out; omega)]; rfl
                have c1 : decide (k2 < (L2 : Int)) = false := decide_eq_false hlt2
                have pv : 0 ≤ kv := hv0
                have qv : kv ≤ (l.length : Int) := by omega
                have HVN := Aside0.mk hvn
                have HEK := Aside0.mk hek
                have HCB := Aside0.mk hcb
                have HCS := Aside0.mk hcs
                have HCT := Aside0.mk hct
                clear hvn hek hcb hcs hct hv0 hvk hl2 hkk hb
                go_wp2_with fail
                · exact absurd HVN.out (by have := HN.out; omega)
                go_ret
                obtain ⟨cur', d1, d2, d3, d4, d5, d6, d7, d8⟩ := setCells_blk g (List.replicate ((l.length - kv.toNat) * 2) (.int .i64 0)) (kv.toNat * 2) wr cur HCB.out
                have hG := HRW.out.grown
                have hVt := HV.out
                have hTt := HT.out
                have hml := HRW.out.len
                rw [HEK.out] at hVt hTt
                have hvt : kv.toNat = (ddN_ l l.length).length := by omega
                have hnc := HN.out
                have hvn := HVN.out
                have hcs := HCS.out
                have hct := HCT.out
                refine ⟨congrArg (fun n => Ending.returned (Value.slice (some ⟨g, 0, none⟩) n cap)) hvt, ⟨⟨cur', d1, by rw [d2]; exact hcs, ?_⟩, rfl, ⟨by rw [d6]; exact hG.os, by rw [d7]; exact hG.tape, by rw [d8]; exact hG.output, by rw [d5]; exact hG.size, fun k hk hne => (d4 k (fun e => hne (by rw [e]))).trans (hG.block k hk hne)⟩⟩⟩
                rw [← hTt, flatC_take, ← hct, List.take_take, hTt, ← hvt, Nat.min_eq_left (by omega)]
                apply List.ext_getElem?
                intro j
                rw [List.getElem?_take, List.getElem?_take]
                by_cases hj : j < kv.toNat * 2
                · rw [if_pos hj, if_pos hj, Array.getElem?_toList, Array.getElem?_toList]; exact d3 j hj
                · rw [if_neg hj, if_neg hj]
        · replace hs : (x.f0 == y.f0 && (x.f1 == y.f1)) = false := Bool.eq_false_iff.mpr hs
          have HS := Aside0.mk hs
          go_wp2_with fail
          go_region
          go_wp2_with fail
          go_roundg gk2
          case measure => omega
          case rel =>
            refine ⟨kx + 1, q + 1, rfl, rfl, ⟨by have := HK.out; omega⟩, ⟨?_⟩⟩
            have hDD := HDD.out
            rw [if_neg (by unfold sameC_; rw [HS.out]; simp), HD.out] at hDD
            rw [show (kx + 1).toNat = kx.toNat + 1 by omega, hDD, List.take_add_one, HX.out]; rfl
      · have hk : kx = l.length := by have := HK.out; omega
        subst hk
        have e : ddN_ l l.length = l := by have := HD.out; rw [Int.toNat_natCast] at this; rw [this, List.take_length]
        have E := Aside0.mk e
        clear e HD
        go_wp2_with fail
        go_ret
        rw [E.out]
        exact ⟨rfl, HR.out.drew q⟩
set_option maxHeartbeats 1000000 in
theorem compact_short (A : Option Addr) (n cap : Nat) (hn : n < 2) (w : World) : Calls Try.prog 118 #[.slice A n cap] w fun e w' => e = .returned (.slice A n cap) ∧ w' = w := by
  have z1 : decide ((n : Int) < 2) = true := decide_eq_true (by omega)
  have z2 : decide (n < 2) = true := decide_eq_true hn
  go_enter Try.func118, Try.ntmps118
  go_wp2
  go_ret
  exact ⟨rfl, rfl⟩
theorem ddN_short (l : List S57) (h : l.length < 2) : ddN_ l l.length = l := by
  match l, h with
  | [], _ => rfl
  | [c], _ => rfl
  | _ :: _ :: _, h => exact absurd h (by simp only [List.length_cons]; omega)
theorem slices_Compact_Cell.calls (P0_ : Nat → Prop) (u9000_ : Value) (l0 : List (S57)) (r : List (S57)) (w0 w : World) (hB : Below w0.heap.size w0 w) (ho0 : Kd.R k57 57 w w0.heap.size P0_ u9000_ l0) (h : slices_Compact_Cell.f l0 = some r) :
    Calls Try.prog 118 #[u9000_] w fun e w' => ∃ v0_ : Value, e = .returned v0_ ∧ Kd.R k57 57 w' w0.heap.size (fun k_ => (P0_ k_ ∨ w.heap.size ≤ k_)) v0_ r ∧ Below w0.heap.size w0 w' ∧ Kept w w' (fun k_ => P0_ k_) := by
  obtain rfl := Option.some.inj h
  by_cases h2 : l0.length < 2
  · obtain ⟨hok, inner, ⟨hlen, hv⟩, hreps⟩ := ho0
    rw [ddN_short l0 h2]
    have hR : Kd.R k57 57 w w0.heap.size (fun k_ => (P0_ k_ ∨ w.heap.size ≤ k_)) u9000_ l0 := Kd.R_mono ⟨hok, inner, ⟨hlen, hv⟩, hreps⟩ (fun _ hk => Or.inl hk)
    rcases hv with ⟨rfl, hn⟩ | ⟨g, cap, cur, rfl, _⟩
    · refine (compact_short none 0 0 (by omega) w).mono ?_
      rintro e w' ⟨rfl, rfl⟩
      exact ⟨_, rfl, hR, hB, Kept.refl _ _⟩
    · refine (compact_short _ l0.length cap h2 w).mono ?_
      rintro e w' ⟨rfl, rfl⟩
      exact ⟨_, rfl, hR, hB, Kept.refl _ _⟩
  · obtain ⟨hok, inner, ⟨hlen, hv⟩, hreps⟩ := ho0
    have hin : inner = flatC_ l0 := flatC_of_reps (fun x cs hx => kC_M_inv hx) l0 inner hreps
    rcases hv with ⟨_, hn⟩ | ⟨g, cap, cur, rfl, hge, hblk, hcap, hmax, hcur, htake⟩
    · exact absurd hn (by omega)
    · have hrow : RowAt_ w g cap l0.length l0 w := ⟨⟨cur, hblk, hcur, by rw [← hin, ← htake]; rfl⟩, rfl, ⟨rfl, rfl, rfl, Nat.le_refl _, fun _ _ _ => rfl⟩⟩
      refine (compact_walk g cap l0 w (by omega) hcap hmax hrow).mono ?_
      rintro e w' ⟨rfl, hr⟩
      obtain ⟨cur2, b1, b2, b3⟩ := hr.blk
      have hg1 := hr.grown
      have hle := ddN_length l0 l0.length
      exact ⟨_, rfl, ownC_R ⟨by rw [flatC_length], Or.inr ⟨g, cap, cur2, rfl, hge, b1, by omega, hmax, b2, b3⟩⟩ (fun k hk => Or.inl (hok k hk)), hB.grown hg1 hB.size (fun k hk => by cases hk; exact hge), ⟨hg1.size, fun i hi hn => hg1.block i hi (fun he => hn (by cases he; exact hok g rfl))⟩⟩
end

/-! ### impl_beside: function 89 -/
mutual
def impl_beside.l0 : Nat → List (S57) → List (S57) → List (S57) → Int → Int → Option ((List (S57)))
  | 0, _, _, _, _, _ => none
  | k + 1, x0, x5, x11, x12, x13 => if x13 < x12 then (if 0 ≤ x13 then (if x13 < (x11.length : Int) then ((impl_around.f ((rd_T57 x11 x13).f0) ((rd_T57 x11 x13).f1)).bind fun t822 => (impl_beside.l1 k x0 x5 x11 x12 x13 t822 (t822.length : Int) 0)) else (none)) else (none)) else ((slices_SortFunc_Cell.f x5).bind fun t816 => ((slices_Compact_Cell.f t816).bind fun t817 => (some t817)))
def impl_beside.l1 : Nat → List (S57) → List (S57) → List (S57) → Int → Int → List (S57) → Int → Int → Option ((List (S57)))
  | 0, _, _, _, _, _, _, _, _ => none
  | k + 1, x0, x5, x11, x12, x13, x19, x20, x21 => if x21 < x20 then (if 0 ≤ x21 then (if x21 < (x19.length : Int) then ((slices_Contains_Cell.f k x0 ((rd_T57 x19 x21).f0) ((rd_T57 x19 x21).f1)).bind fun t827 => (if t827 = true then (impl_beside.l1 k x0 x5 x11 x12 x13 x19 x20 (wrap64 (x21 + 1))) else (if x5.length < 8796093022208 then (impl_beside.l1 k x0 (x5 ++ [(⟨(rd_T57 x19 x21).f0, (rd_T57 x19 x21).f1⟩ : S57)]) x11 x12 x13 x19 x20 (wrap64 (x21 + 1))) else (none)))) else (none)) else (none)) else (impl_beside.l0 k x0 x5 x11 x12 (wrap64 (x13 + 1)))
end
def impl_beside.f (k : Nat) (l0 : List (S57))  : Option ((List (S57))) := impl_beside.l0 k l0 (([] : List (S57))) l0 (l0.length : Int) 0
theorem impl_beside.mono_l : ∀ k, (∀ y0 y1 y2 y3 y4, LeO (impl_beside.l0 k y0 y1 y2 y3 y4) (impl_beside.l0 (k + 1) y0 y1 y2 y3 y4)) ∧ (∀ y0 y1 y2 y3 y4 y5 y6 y7, LeO (impl_beside.l1 k y0 y1 y2 y3 y4 y5 y6 y7) (impl_beside.l1 (k + 1) y0 y1 y2 y3 y4 y5 y6 y7))
  | 0 => ⟨fun _ _ _ _ _ r h => by simp [impl_beside.l0] at h, fun _ _ _ _ _ _ _ _ r h => by simp [impl_beside.l1] at h⟩
  | k + 1 => by
    obtain ⟨ih0, ih1⟩ := impl_beside.mono_l k
    refine ⟨?_, ?_⟩
    · intro y0 y1 y2 y3 y4
      unfold impl_beside.l0
      repeat' first
      | (with_reducible exact ih0 _ _ _ _ _)
      | (with_reducible exact ih1 _ _ _ _ _ _ _ _)
      | (with_reducible exact slices_Contains_Cell.mono _ _ _ _)
      | (with_reducible exact LeO.refl _)
      | (with_reducible exact LeO.none _)
      | (with_reducible refine LeO.ite ?_ ?_)
      | (with_reducible refine LeO.bind ?_ (fun _ => ?_))
      | exact ih0 _ _ _ _ _
      | exact ih1 _ _ _ _ _ _ _ _
      | exact slices_Contains_Cell.mono _ _ _ _
      | exact LeO.none _
      | refine LeO.ite ?_ ?_
      | refine LeO.bind ?_ (fun _ => ?_)
    · intro y0 y1 y2 y3 y4 y5 y6 y7
      unfold impl_beside.l1
      repeat' first
      | (with_reducible exact ih0 _ _ _ _ _)
      | (with_reducible exact ih1 _ _ _ _ _ _ _ _)
      | (with_reducible exact slices_Contains_Cell.mono _ _ _ _)
      | (with_reducible exact LeO.refl _)
      | (with_reducible exact LeO.none _)
      | (with_reducible refine LeO.ite ?_ ?_)
      | (with_reducible refine LeO.bind ?_ (fun _ => ?_))
      | exact ih0 _ _ _ _ _
      | exact ih1 _ _ _ _ _ _ _ _
      | exact slices_Contains_Cell.mono _ _ _ _
      | exact LeO.none _
      | refine LeO.ite ?_ ?_
      | refine LeO.bind ?_ (fun _ => ?_)
theorem impl_beside.mono : ∀ a0 k, LeO (impl_beside.f k a0) (impl_beside.f (k + 1) a0) := by
  intro a0 k
  obtain ⟨ih0, ih1⟩ := impl_beside.mono_l k
  unfold impl_beside.f
  repeat' first
      | (with_reducible exact ih0 _ _ _ _ _)
      | (with_reducible exact ih1 _ _ _ _ _ _ _ _)
      | (with_reducible exact slices_Contains_Cell.mono _ _ _ _)
      | (with_reducible exact LeO.refl _)
      | (with_reducible exact LeO.none _)
      | (with_reducible refine LeO.ite ?_ ?_)
      | (with_reducible refine LeO.bind ?_ (fun _ => ?_))
      | exact ih0 _ _ _ _ _
      | exact ih1 _ _ _ _ _ _ _ _
      | exact slices_Contains_Cell.mono _ _ _ _
      | exact LeO.none _
      | refine LeO.ite ?_ ?_
      | refine LeO.bind ?_ (fun _ => ?_)
set_option maxHeartbeats 8000000 in
set_option maxRecDepth 100000 in
theorem impl_beside.calls (k : Nat) (A0 : Option Addr) (c0 : Nat) (l0 : List (S57))  (r : List (S57)) (w : World) (hr0 : Kd.C k57 w A0 l0.length l0) (hc0 : l0.length ≤ c0) (h : impl_beside.f k l0 = some r) :
    Calls Try.prog 89 #[.slice A0 l0.length c0, .func (.func 73) #[] #[]] w fun e w' => ∃ v0_ : Value, e = .returned (v0_) ∧ Kd.R k57 57 w' w.heap.size (fun _ => True) v0_ r ∧ Below w.heap.size w w' := by
  have hu57 := Try.underlying57
  have HR0 := Aside0.mk hr0
  have HC0 := Aside0.mk hc0
  clear hr0 hc0
  have HB := Aside0.mk (Below.refl w.heap.size w)
  have H : (impl_beside.l0 k l0 (([] : List (S57))) l0 (l0.length : Int) 0) = some r := h
  clear h
  obtain ⟨y813, hy813⟩ : ∃ y_ : List (S57), y_ = (([] : List (S57))) := ⟨_, rfl⟩
  replace H : (impl_beside.l0 k l0 y813 l0 (l0.length : Int) 0) = some r := by first | (rw [hy813]; with_reducible exact H) | (have H2_ := (Option.bind_some _ _).symm.trans H; rw [hy813]; with_reducible exact H2_) | (have H2_ := (Option.bind_some _ _).symm.trans H; with_reducible exact H2_) | with_reducible exact H | (rw [hy813]; exact H) | exact H
  have Ny813 := Aside0.mk hy813
  clear hy813
  have H' := Aside0.mk H
  clear H
  go_enter Try.func89, Try.ntmps89
  go_wp2_with (first | ((with_reducible refine gate_dst (N := 10) rfl ?_); refine Kd.R_lit k57 _ 57 ?hg (N := 10) ?hd (xs := ([] : List (S57))) (inner := []) (ok := fun _ => True) (okp := fun _ => True) ?hr ?hp (fun _ hk => hk) trivial (Below.refl _ _) (Nat.le_refl _) (by simp) ?_; (case hd => rfl); (case hg => rfl); (case hr => first | (go_simp; done) | (go_simp; rfl)); (case hp => exact (Reps.none _ _)); intro v814 w3 ho4 hb hg_ hnew_; clear hg_ hnew_; (first | rw [← Ny813.out] at ho4 | (simp only [Int.reduceToNat] at ho4; rw [← Ny813.out] at ho4)); have n0_ := Aside0.mk (Kd.R_lower ho4 (below_size (by repeat (first | (with_reducible first | exact HB.out | apply below_alloc | apply pw_below_drewN | apply below_drew1) | exact HB.out)))); have n1_ := Aside0.mk (below_step (by repeat (first | (with_reducible first | exact HB.out | apply below_alloc | apply pw_below_drewN | apply below_drew1) | exact HB.out)) hb); clear HB; have HO815 := n0_; have HB := n1_; clear n0_ n1_; clear hb ho4))
  go_loopg [5, 13] k (fun kq v5 v13 w' => ∃ (x5_1 : List (S57)) (x13_1 : Int), v13 = .int .i64 x13_1 ∧ Aside0 (impl_beside.l0 kq l0 x5_1 l0 (l0.length : Int) x13_1 = some r) ∧ Aside0 (kq ≤ k) ∧ Aside0 (Kd.R k57 57 w' w.heap.size (fun _ => True) v5 x5_1) ∧ Aside0 (Below w.heap.size w w'))
  case atStart => exact ⟨(y813), (0), (by first | rfl | (simp; done) | (simp [*]; done)), H', ⟨Nat.le_refl _⟩, ⟨by (with_reducible repeat (first | apply Kd.R_alloc | apply Kd.R_drewN | apply Kd.R_drew)); exact HO815.out⟩, ⟨by repeat (first | (with_reducible first | exact HB.out | apply below_alloc | apply pw_below_drewN | apply below_drew1) | exact HB.out)⟩⟩
  case round =>
    clear H'
    try clear p2
    obtain ⟨x5_1, x13_1, rfl, HA, HK1, HO_5, HB⟩ := hrel
    cases gk with
    | zero => exact absurd HA.out (by simp [impl_beside.l0])
    | succ k1 =>
      have H := HA.out
      clear HA
      simp only [impl_beside.l0] at H
      by_cases c5 : x13_1 < (l0.length : Int)
      · rw [if_pos c5] at H
        have c5b0 : decide (x13_1 < (l0.length : Int)) = true := decide_eq_true c5
        clear c5
        by_cases c6 : 0 ≤ x13_1
        · rw [if_pos c6] at H
          have c6b0 : decide (0 ≤ x13_1) = true := decide_eq_true c6
          clear c6
          by_cases c7 : x13_1 < (l0.length : Int)
          · rw [if_pos c7] at H
            have c7b0 : decide (x13_1 < (l0.length : Int)) = true := decide_eq_true c7
            clear c7
            replace H := Option.bind_eq_some_iff.mp H
            obtain ⟨t822, A80, H⟩ := H
            replace H : (impl_beside.l1 k1 l0 x5_1 l0 (l0.length : Int) x13_1 t822 (t822.length : Int) 0) = some r := H
            have A8 := Aside0.mk A80
            clear A80
            have H' := Aside0.mk H
            clear H
            have p820 : 0 ≤ (x13_1 : Int) := of_decide_eq_true (by first | (with_reducible assumption) | assumption)
            have q820 : x13_1 < (l0.length : Int) := of_decide_eq_true (by first | (with_reducible assumption) | assumption)
            obtain ⟨ad820, e820, hx820_0, hx820_1⟩ := at_T57 HR0.out x13_1 p820 q820
            cases e820
            replace hx820_0 := (HB.out.cell (World.block_lt_of_cell? w _ hx820_0)).trans hx820_0
            replace hx820_1 := (HB.out.cell (World.block_lt_of_cell? w _ hx820_1)).trans hx820_1
            replace p820 := eq_true p820
            replace q820 := eq_true q820
            go_wp2_with (first | ((with_reducible refine gate_dst (N := 7) rfl ?_); refine box_event ?hg (N := 7) ?hd (cs := #[.int .i64 0, .int .i64 0]) (t := 57) ?hr ?_; (case hd => rfl); (case hg => rfl); (case hr => first | (go_simp; done) | (go_simp; rfl)); intro gb821 hg w9 hbox hb; have n0_ := Aside0.mk (Kd.R_below (Kd.R_elderB (by (with_reducible repeat (first | apply Kd.R_alloc | apply Kd.R_drewN | apply Kd.R_drew)); exact HO_5.out) gb821 (Nat.le_of_eq hg.symm)) hb); have n1_ := Aside0.mk (below_step (by repeat (first | (with_reducible first | exact HB.out | apply below_alloc | apply pw_below_drewN | apply below_drew1) | exact HB.out)) hb); have n2_ := Aside0.mk (hbox); have n3_ := Aside0.mk ((by rw [hg]; exact (below_size (by repeat (first | (with_reducible first | exact HB.out | apply below_alloc | apply pw_below_drewN | apply below_drew1) | exact HB.out))) : w.heap.size ≤ gb821)); have n4_ := Aside0.mk ((by rw [hg]; exact (below_size (by repeat (first | (with_reducible first | exact HB.out | apply below_alloc | apply pw_below_drewN | apply below_drew1) | exact HB.out))) : w.heap.size ≤ gb821)); clear HO_5; clear HB; have HO_5 := n0_; have HB := n1_; have BK821 := n2_; have GW821 := n3_; have GE821 := n4_; clear n0_ n1_ n2_ n3_ n4_; clear hb hbox hg; have hcz10_0 : w9.cell? ⟨gb821, 0, none⟩ = some (.int .i64 0) := (blk_cell BK821.out 0).trans rfl; have hcz10_1 : w9.cell? ⟨gb821, 1, none⟩ = some (.int .i64 0) := (blk_cell BK821.out 1).trans rfl; have hfz10_0 := blk_frozen BK821.out 0; have hfz10_1 := blk_frozen BK821.out 1) | (go_at_call 73; (with_reducible refine (impl_around.calls ((rd_T57 l0 x13_1).f0) ((rd_T57 l0 x13_1).f1) t822 _ A8.out).mono ?_); rintro e w11 ⟨v823, rfl, ho0, hb⟩; have n0_ := Aside0.mk (Kd.R_elder' (by (with_reducible repeat (first | apply Kd.R_alloc | apply Kd.R_drewN | apply Kd.R_drew)); exact (Kd.R_mono (Kd.R_far (p := ⟨gb821, 1, none⟩) (Kd.R_far (p := ⟨gb821, 0, none⟩) (Kd.R_mono HO_5.out (fun k_ hk => (⟨hk, hk.2⟩ : _ ∧ k_ ≠ gb821))) (fun _ hk => hk.2) (.int .i64 ((rd_T57 l0 x13_1).f0))) (fun _ hk => hk.2) (.int .i64 ((rd_T57 l0 x13_1).f1))) (fun _ h_ => h_.1))) (Kd.R_base ho0) hb); have n1_ := Aside0.mk (Kd.R_lower (Kd.R_newB (Kd.R_new' ho0 (Kd.R_lt (by (with_reducible repeat (first | apply Kd.R_alloc | apply Kd.R_drewN | apply Kd.R_drew)); exact (Kd.R_mono (Kd.R_far (p := ⟨gb821, 1, none⟩) (Kd.R_far (p := ⟨gb821, 0, none⟩) (Kd.R_mono HO_5.out (fun k_ hk => (⟨hk, hk.2⟩ : _ ∧ k_ ≠ gb821))) (fun _ hk => hk.2) (.int .i64 ((rd_T57 l0 x13_1).f0))) (fun _ hk => hk.2) (.int .i64 ((rd_T57 l0 x13_1).f1))) (fun _ h_ => h_.1))))) (g := gb821) (o := .cells #[.int .i64 ((rd_T57 l0 x13_1).f0), .int .i64 ((rd_T57 l0 x13_1).f1)] 57 (0, 0)) (by (with_reducible repeat (first | refine blk_drewN ?_ _ | refine blk_drew ?_ | refine blk_alloc ?_ _)); refine blk_put (cs := #[.int .i64 ((rd_T57 l0 x13_1).f0), .int .i64 0]) ?_ 1 _ rfl; (with_reducible repeat (first | refine blk_drewN ?_ _ | refine blk_drew ?_ | refine blk_alloc ?_ _)); refine blk_put (cs := #[.int .i64 0, .int .i64 0]) ?_ 0 _ rfl; (with_reducible repeat (first | refine blk_drewN ?_ _ | refine blk_drew ?_ | refine blk_alloc ?_ _)); exact BK821.out)) (below_size (by repeat (first | (with_reducible first | exact HB.out | apply below_alloc | apply pw_below_drewN | apply below_drew1 | refine below_set ?_ GE821.out) | exact HB.out)))); have n2_ := Aside0.mk (blk_below (g := gb821) (o := .cells #[.int .i64 ((rd_T57 l0 x13_1).f0), .int .i64 ((rd_T57 l0 x13_1).f1)] 57 (0, 0)) (by (with_reducible repeat (first | refine blk_drewN ?_ _ | refine blk_drew ?_ | refine blk_alloc ?_ _)); refine blk_put (cs := #[.int .i64 ((rd_T57 l0 x13_1).f0), .int .i64 0]) ?_ 1 _ rfl; (with_reducible repeat (first | refine blk_drewN ?_ _ | refine blk_drew ?_ | refine blk_alloc ?_ _)); refine blk_put (cs := #[.int .i64 0, .int .i64 0]) ?_ 0 _ rfl; (with_reducible repeat (first | refine blk_drewN ?_ _ | refine blk_drew ?_ | refine blk_alloc ?_ _)); exact BK821.out) hb); have n3_ := Aside0.mk (below_step (by repeat (first | (with_reducible first | exact HB.out | apply below_alloc | apply pw_below_drewN | apply below_drew1 | refine below_set ?_ GE821.out) | exact HB.out)) hb); clear HO_5; clear BK821; clear HB; have HO_5 := n0_; have HO824 := n1_; have BK821 := n2_; have HB := n3_; clear n0_ n1_ n2_ n3_; (try clear hb); (try clear hb2); (try clear hk); (try clear hi); (try clear ho0); obtain ⟨Ao12, co12, eo12⟩ := Kd.R_slice HO824.out; subst eo12))
            go_loopg [5, 21] k1 (fun kq v5 v21 w' => ∃ (x5_2 : List (S57)) (x21_2 : Int), v21 = .int .i64 x21_2 ∧ Aside0 (impl_beside.l1 kq l0 x5_2 l0 (l0.length : Int) x13_1 t822 (t822.length : Int) x21_2 = some r) ∧ Aside0 (kq ≤ k1) ∧ Aside0 (Kd.R k57 57 w' w.heap.size (fun k_ => some k_ ≠ ((.slice Ao12 t822.length co12) : Value).ownBlock ∧ k_ ≠ gb821) v5 x5_2) ∧ Aside0 (Kd.R k57 57 w' w.heap.size (fun k_ => some k_ ≠ (v5 : Value).ownBlock ∧ k_ ≠ gb821) (.slice Ao12 t822.length co12) t822) ∧ Aside0 (w'.heap[gb821]? = some (.cells #[.int .i64 ((rd_T57 l0 x13_1).f0), .int .i64 ((rd_T57 l0 x13_1).f1)] 57 (0, 0))) ∧ Aside0 (Below w.heap.size w w'))
            case atStart => exact ⟨(x5_1), (0), (by first | rfl | (simp; done) | (simp [*]; done)), H', ⟨Nat.le_refl _⟩, ⟨by (with_reducible repeat (first | apply Kd.R_alloc | apply Kd.R_drewN | apply Kd.R_drew)); exact Kd.R_mono HO_5.out (fun _ hk => ⟨hk.2, hk.1.2⟩)⟩, ⟨by (with_reducible repeat (first | apply Kd.R_alloc | apply Kd.R_drewN | apply Kd.R_drew)); exact Kd.R_mono HO824.out (fun _ hk => ⟨hk.1.2, hk.2⟩)⟩, ⟨by (with_reducible repeat (first | refine blk_drewN ?_ _ | refine blk_drew ?_ | refine blk_alloc ?_ _)); exact BK821.out⟩, ⟨by repeat (first | (with_reducible first | exact HB.out | apply below_alloc | apply pw_below_drewN | apply below_drew1 | refine below_set ?_ GE821.out) | exact HB.out)⟩⟩
            case round =>
              clear H'
              try clear p2
              try clear c5
              try clear c5b0
              try clear c6
              try clear c6b0
              try clear c7
              try clear c7b0
              try clear c8
              try clear p8
              try clear q8
              try clear hx8
              try clear hcz10_0
              try clear hcz10_1
              try clear hfz10_0
              try clear hfz10_1
              try clear hx820_0
              try clear hx820_1
              try clear p2
              try clear p820
              try clear q820
              obtain ⟨x5_2, x21_2, rfl, HA, HK2, HO_5, HO_19, BK821, HB⟩ := hrel
              cases gk with
              | zero => exact absurd HA.out (by simp [impl_beside.l1])
              | succ k2 =>
                have H := HA.out
                clear HA
                simp only [impl_beside.l1] at H
                by_cases c13 : x21_2 < (t822.length : Int)
                · rw [if_pos c13] at H
                  have c13b0 : decide (x21_2 < (t822.length : Int)) = true := decide_eq_true c13
                  clear c13
                  by_cases c14 : 0 ≤ x21_2
                  · rw [if_pos c14] at H
                    have c14b0 : decide (0 ≤ x21_2) = true := decide_eq_true c14
                    clear c14
                    by_cases c15 : x21_2 < (t822.length : Int)
                    · rw [if_pos c15] at H
                      have c15b0 : decide (x21_2 < (t822.length : Int)) = true := decide_eq_true c15
                      clear c15
                      replace H := Option.bind_eq_some_iff.mp H
                      obtain ⟨t827, A160, H⟩ := H
                      replace H : (if t827 = true then (impl_beside.l1 k2 l0 x5_2 l0 (l0.length : Int) x13_1 t822 (t822.length : Int) (wrap64 (x21_2 + 1))) else (if x5_2.length < 8796093022208 then (impl_beside.l1 k2 l0 (x5_2 ++ [(⟨(rd_T57 t822 x21_2).f0, (rd_T57 t822 x21_2).f1⟩ : S57)]) l0 (l0.length : Int) x13_1 t822 (t822.length : Int) (wrap64 (x21_2 + 1))) else (none))) = some r := H
                      have A16 := Aside0.mk A160
                      clear A160
                      by_cases c17 : t827 = true
                      · subst c17
                        have H1 : (impl_beside.l1 k2 l0 x5_2 l0 (l0.length : Int) x13_1 t822 (t822.length : Int) (wrap64 (x21_2 + 1))) = some r := by rw [if_pos rfl] at H; exact H
                        clear H
                        have H := H1
                        clear H1
                        have H' := Aside0.mk H
                        clear H
                        have p825 : 0 ≤ (x21_2 : Int) := of_decide_eq_true (by first | (with_reducible assumption) | assumption)
                        have q825 : x21_2 < (t822.length : Int) := of_decide_eq_true (by first | (with_reducible assumption) | assumption)
                        obtain ⟨ad825, e825, hx825_0, hx825_1⟩ := at_T57 (Kd.R_reads' HO_19.out).2.2 x21_2 p825 q825
                        cases e825
                        replace p825 := eq_true p825
                        replace q825 := eq_true q825
                        go_wp2_with (first | ((with_reducible refine gate_dst (N := 9) rfl ?_); refine box_event ?hg (N := 9) ?hd (cs := #[.int .i64 0, .int .i64 0]) (t := 57) ?hr ?_; (case hd => rfl); (case hg => rfl); (case hr => first | (go_simp; done) | (go_simp; rfl)); intro gb826 hg w18 hbox hb; have n0_ := Aside0.mk (Kd.R_below (Kd.R_elderB (by (with_reducible repeat (first | apply Kd.R_alloc | apply Kd.R_drewN | apply Kd.R_drew)); exact HO_5.out) gb826 (Nat.le_of_eq hg.symm)) hb); have n1_ := Aside0.mk (Kd.R_below (Kd.R_elderB (by (with_reducible repeat (first | apply Kd.R_alloc | apply Kd.R_drewN | apply Kd.R_drew)); exact HO_19.out) gb826 (Nat.le_of_eq hg.symm)) hb); have n2_ := Aside0.mk (blk_below (g := gb821) (o := .cells #[.int .i64 ((rd_T57 l0 x13_1).f0), .int .i64 ((rd_T57 l0 x13_1).f1)] 57 (0, 0)) (by (with_reducible repeat (first | refine blk_drewN ?_ _ | refine blk_drew ?_ | refine blk_alloc ?_ _)); exact BK821.out) hb); have n3_ := Aside0.mk (below_step (by repeat (first | (with_reducible first | exact HB.out | apply below_alloc | apply pw_below_drewN | apply below_drew1 | refine below_set ?_ GE821.out) | exact HB.out)) hb); have n4_ := Aside0.mk (hbox); have n5_ := Aside0.mk ((by rw [hg]; exact (below_size (by repeat (first | (with_reducible first | exact HB.out | apply below_alloc | apply pw_below_drewN | apply below_drew1 | refine below_set ?_ GE821.out) | exact HB.out))) : w.heap.size ≤ gb826)); have n6_ := Aside0.mk ((by rw [hg]; exact (below_size (by repeat (first | (with_reducible first | exact HB.out | apply below_alloc | apply pw_below_drewN | apply below_drew1 | refine below_set ?_ GE821.out) | exact HB.out))) : w.heap.size ≤ gb826)); have n7_ := Aside0.mk ((by rw [hg]; exact Nat.ne_of_lt (blk_lt (g := gb821) (o := .cells #[.int .i64 ((rd_T57 l0 x13_1).f0), .int .i64 ((rd_T57 l0 x13_1).f1)] 57 (0, 0)) (by (with_reducible repeat (first | refine blk_drewN ?_ _ | refine blk_drew ?_ | refine blk_alloc ?_ _)); exact BK821.out)) : gb821 ≠ gb826)); have n8_ := Aside0.mk ((by rw [hg]; exact Nat.ne_of_gt (blk_lt (g := gb821) (o := .cells #[.int .i64 ((rd_T57 l0 x13_1).f0), .int .i64 ((rd_T57 l0 x13_1).f1)] 57 (0, 0)) (by (with_reducible repeat (first | refine blk_drewN ?_ _ | refine blk_drew ?_ | refine blk_alloc ?_ _)); exact BK821.out)) : gb826 ≠ gb821)); clear HO_5; clear HO_19; clear BK821; clear HB; have HO_5 := n0_; have HO_19 := n1_; have BK821 := n2_; have HB := n3_; have BK826 := n4_; have GW826 := n5_; have GE826 := n6_; have NB821_826 := n7_; have NB826_821 := n8_; clear n0_ n1_ n2_ n3_ n4_ n5_ n6_ n7_ n8_; clear hb hbox hg; have hnb19 := NB826_821.out; have hnc19 := NB821_826.out; have hcz20_0 : w18.cell? ⟨gb826, 0, none⟩ = some (.int .i64 0) := (blk_cell BK826.out 0).trans rfl; have hcz20_1 : w18.cell? ⟨gb826, 1, none⟩ = some (.int .i64 0) := (blk_cell BK826.out 1).trans rfl; have hfz20_0 := blk_frozen BK826.out 0; have hfz20_1 := blk_frozen BK826.out 1) | ((with_reducible refine gate_callee (f := 91) rfl ?_); refine goesL_ (some 27) rfl rfl Try.func91 (by kernel_rfl) rfl #[.slice (some ad820) l0.length c0, .agg #[.int .i64 ((rd_T57 t822 x21_2).f0), .int .i64 ((rd_T57 t822 x21_2).f1)]] rfl (by (try simp only [List.map_toArray, List.map_cons, List.map_nil]); first | done | rfl | (simp only [List.length_drop, List.length_take]; rfl)) ?_; (with_reducible refine (slices_Contains_Cell.calls k2 _ _ l0 ((rd_T57 t822 x21_2).f0) ((rd_T57 t822 x21_2).f1) true _ ?side1 ?side2 A16.out).mono ?_); (case side1 => exact Kd.C_below HR0.out (by repeat (first | (with_reducible first | exact HB.out | apply below_alloc | apply pw_below_drewN | apply below_drew1 | refine below_set ?_ GE821.out | refine below_set ?_ GE826.out) | exact HB.out))); (case side2 => exact HC0.out); rintro e w21 ⟨rfl, hb⟩; refine ⟨_, rfl, ?_⟩; have n0_ := Aside0.mk (Kd.R_below (by (with_reducible repeat (first | apply Kd.R_alloc | apply Kd.R_drewN | apply Kd.R_drew)); exact (Kd.R_mono (Kd.R_far (p := ⟨gb826, 1, none⟩) (Kd.R_far (p := ⟨gb826, 0, none⟩) (Kd.R_mono HO_5.out (fun k_ hk => (⟨hk, hk.2⟩ : _ ∧ k_ ≠ gb826))) (fun _ hk => hk.2) (.int .i64 ((rd_T57 t822 x21_2).f0))) (fun _ hk => hk.2) (.int .i64 ((rd_T57 t822 x21_2).f1))) (fun _ h_ => h_.1))) hb); have n1_ := Aside0.mk (Kd.R_below (by (with_reducible repeat (first | apply Kd.R_alloc | apply Kd.R_drewN | apply Kd.R_drew)); exact (Kd.R_mono (Kd.R_far (p := ⟨gb826, 1, none⟩) (Kd.R_far (p := ⟨gb826, 0, none⟩) (Kd.R_mono HO_19.out (fun k_ hk => (⟨hk, hk.2⟩ : _ ∧ k_ ≠ gb826))) (fun _ hk => hk.2) (.int .i64 ((rd_T57 t822 x21_2).f0))) (fun _ hk => hk.2) (.int .i64 ((rd_T57 t822 x21_2).f1))) (fun _ h_ => h_.1))) hb); have n2_ := Aside0.mk (blk_below (g := gb821) (o := .cells #[.int .i64 ((rd_T57 l0 x13_1).f0), .int .i64 ((rd_T57 l0 x13_1).f1)] 57 (0, 0)) (by (with_reducible repeat (first | refine blk_drewN ?_ _ | refine blk_drew ?_ | refine blk_alloc ?_ _)); refine blk_far ?_ NB821_826.out _; (with_reducible repeat (first | refine blk_drewN ?_ _ | refine blk_drew ?_ | refine blk_alloc ?_ _)); refine blk_far ?_ NB821_826.out _; (with_reducible repeat (first | refine blk_drewN ?_ _ | refine blk_drew ?_ | refine blk_alloc ?_ _)); exact BK821.out) hb); have n3_ := Aside0.mk (blk_below (g := gb826) (o := .cells #[.int .i64 ((rd_T57 t822 x21_2).f0), .int .i64 ((rd_T57 t822 x21_2).f1)] 57 (0, 0)) (by (with_reducible repeat (first | refine blk_drewN ?_ _ | refine blk_drew ?_ | refine blk_alloc ?_ _)); refine blk_put (cs := #[.int .i64 ((rd_T57 t822 x21_2).f0), .int .i64 0]) ?_ 1 _ rfl; (with_reducible repeat (first | refine blk_drewN ?_ _ | refine blk_drew ?_ | refine blk_alloc ?_ _)); refine blk_put (cs := #[.int .i64 0, .int .i64 0]) ?_ 0 _ rfl; (with_reducible repeat (first | refine blk_drewN ?_ _ | refine blk_drew ?_ | refine blk_alloc ?_ _)); exact BK826.out) hb); have n4_ := Aside0.mk (below_step (by repeat (first | (with_reducible first | exact HB.out | apply below_alloc | apply pw_below_drewN | apply below_drew1 | refine below_set ?_ GE821.out | refine below_set ?_ GE826.out) | exact HB.out)) hb); clear HO_5; clear HO_19; clear BK821; clear BK826; clear HB; have HO_5 := n0_; have HO_19 := n1_; have BK821 := n2_; have BK826 := n3_; have HB := n4_; clear n0_ n1_ n2_ n3_ n4_; (try clear hb); (try clear hb2); (try clear hk); (try clear hi)))
                        go_roundg k2
                        case measure => have := HK1.out; have := HK2.out; omega
                        case rel => exact ⟨(x5_2), (wrap64 (x21_2 + 1)), (by first | rfl | (simp; done) | (simp [*]; done)), H', ⟨by have := HK1.out; have := HK2.out; omega⟩, ⟨by (with_reducible repeat (first | apply Kd.R_alloc | apply Kd.R_drewN | apply Kd.R_drew)); exact Kd.R_mono HO_5.out (fun _ hk => ⟨hk.1.1, hk.1.2⟩)⟩, ⟨by (with_reducible repeat (first | apply Kd.R_alloc | apply Kd.R_drewN | apply Kd.R_drew)); exact Kd.R_mono HO_19.out (fun _ hk => ⟨hk.1.1, hk.1.2⟩)⟩, ⟨by (with_reducible repeat (first | refine blk_drewN ?_ _ | refine blk_drew ?_ | refine blk_alloc ?_ _)); exact BK821.out⟩, ⟨by repeat (first | (with_reducible first | exact HB.out | apply below_alloc | apply pw_below_drewN | apply below_drew1 | refine below_set ?_ GE821.out | refine below_set ?_ GE826.out) | exact HB.out)⟩⟩
                      · replace c17 := Bool.eq_false_iff.mpr c17
                        subst c17
                        have H1 : (if x5_2.length < 8796093022208 then (impl_beside.l1 k2 l0 (x5_2 ++ [(⟨(rd_T57 t822 x21_2).f0, (rd_T57 t822 x21_2).f1⟩ : S57)]) l0 (l0.length : Int) x13_1 t822 (t822.length : Int) (wrap64 (x21_2 + 1))) else (none)) = some r := by rw [if_neg (show ¬ (false = true) by decide)] at H; exact H
                        clear H
                        have H := H1
                        clear H1
                        by_cases c22 : x5_2.length < 8796093022208
                        · rw [if_pos c22] at H
                          have LMc22 := Aside0.mk c22
                          clear c22
                          obtain ⟨y828, hy828⟩ : ∃ y_ : List (S57), y_ = (x5_2 ++ [(⟨(rd_T57 t822 x21_2).f0, (rd_T57 t822 x21_2).f1⟩ : S57)]) := ⟨_, rfl⟩
                          replace H : (impl_beside.l1 k2 l0 y828 l0 (l0.length : Int) x13_1 t822 (t822.length : Int) (wrap64 (x21_2 + 1))) = some r := by first | (rw [hy828]; with_reducible exact H) | (have H2_ := (Option.bind_some _ _).symm.trans H; rw [hy828]; with_reducible exact H2_) | (have H2_ := (Option.bind_some _ _).symm.trans H; with_reducible exact H2_) | with_reducible exact H | (rw [hy828]; exact H) | exact H
                          have Ny828 := Aside0.mk hy828
                          clear hy828
                          have H' := Aside0.mk H
                          clear H
                          have p825 : 0 ≤ (x21_2 : Int) := of_decide_eq_true (by first | (with_reducible assumption) | assumption)
                          have q825 : x21_2 < (t822.length : Int) := of_decide_eq_true (by first | (with_reducible assumption) | assumption)
                          obtain ⟨ad825, e825, hx825_0, hx825_1⟩ := at_T57 (Kd.R_reads' HO_19.out).2.2 x21_2 p825 q825
                          cases e825
                          replace p825 := eq_true p825
                          replace q825 := eq_true q825
                          go_wp2_with (first | ((with_reducible refine gate_dst (N := 9) rfl ?_); refine box_event ?hg (N := 9) ?hd (cs := #[.int .i64 0, .int .i64 0]) (t := 57) ?hr ?_; (case hd => rfl); (case hg => rfl); (case hr => first | (go_simp; done) | (go_simp; rfl)); intro gb826 hg w23 hbox hb; have n0_ := Aside0.mk (Kd.R_below (Kd.R_elderB (by (with_reducible repeat (first | apply Kd.R_alloc | apply Kd.R_drewN | apply Kd.R_drew)); exact HO_5.out) gb826 (Nat.le_of_eq hg.symm)) hb); have n1_ := Aside0.mk (Kd.R_below (Kd.R_elderB (by (with_reducible repeat (first | apply Kd.R_alloc | apply Kd.R_drewN | apply Kd.R_drew)); exact HO_19.out) gb826 (Nat.le_of_eq hg.symm)) hb); have n2_ := Aside0.mk (blk_below (g := gb821) (o := .cells #[.int .i64 ((rd_T57 l0 x13_1).f0), .int .i64 ((rd_T57 l0 x13_1).f1)] 57 (0, 0)) (by (with_reducible repeat (first | refine blk_drewN ?_ _ | refine blk_drew ?_ | refine blk_alloc ?_ _)); exact BK821.out) hb); have n3_ := Aside0.mk (below_step (by repeat (first | (with_reducible first | exact HB.out | apply below_alloc | apply pw_below_drewN | apply below_drew1 | refine below_set ?_ GE821.out) | exact HB.out)) hb); have n4_ := Aside0.mk (hbox); have n5_ := Aside0.mk ((by rw [hg]; exact (below_size (by repeat (first | (with_reducible first | exact HB.out | apply below_alloc | apply pw_below_drewN | apply below_drew1 | refine below_set ?_ GE821.out) | exact HB.out))) : w.heap.size ≤ gb826)); have n6_ := Aside0.mk ((by rw [hg]; exact (below_size (by repeat (first | (with_reducible first | exact HB.out | apply below_alloc | apply pw_below_drewN | apply below_drew1 | refine below_set ?_ GE821.out) | exact HB.out))) : w.heap.size ≤ gb826)); have n7_ := Aside0.mk ((by rw [hg]; exact Nat.ne_of_lt (blk_lt (g := gb821) (o := .cells #[.int .i64 ((rd_T57 l0 x13_1).f0), .int .i64 ((rd_T57 l0 x13_1).f1)] 57 (0, 0)) (by (with_reducible repeat (first | refine blk_drewN ?_ _ | refine blk_drew ?_ | refine blk_alloc ?_ _)); exact BK821.out)) : gb821 ≠ gb826)); have n8_ := Aside0.mk ((by rw [hg]; exact Nat.ne_of_gt (blk_lt (g := gb821) (o := .cells #[.int .i64 ((rd_T57 l0 x13_1).f0), .int .i64 ((rd_T57 l0 x13_1).f1)] 57 (0, 0)) (by (with_reducible repeat (first | refine blk_drewN ?_ _ | refine blk_drew ?_ | refine blk_alloc ?_ _)); exact BK821.out)) : gb826 ≠ gb821)); clear HO_5; clear HO_19; clear BK821; clear HB; have HO_5 := n0_; have HO_19 := n1_; have BK821 := n2_; have HB := n3_; have BK826 := n4_; have GW826 := n5_; have GE826 := n6_; have NB821_826 := n7_; have NB826_821 := n8_; clear n0_ n1_ n2_ n3_ n4_ n5_ n6_ n7_ n8_; clear hb hbox hg; have hnb24 := NB826_821.out; have hnc24 := NB821_826.out; have hcz25_0 : w23.cell? ⟨gb826, 0, none⟩ = some (.int .i64 0) := (blk_cell BK826.out 0).trans rfl; have hcz25_1 : w23.cell? ⟨gb826, 1, none⟩ = some (.int .i64 0) := (blk_cell BK826.out 1).trans rfl; have hfz25_0 := blk_frozen BK826.out 0; have hfz25_1 := blk_frozen BK826.out 1) | ((with_reducible refine gate_callee (f := 91) rfl ?_); refine goesL_ (some 27) rfl rfl Try.func91 (by kernel_rfl) rfl #[.slice (some ad820) l0.length c0, .agg #[.int .i64 ((rd_T57 t822 x21_2).f0), .int .i64 ((rd_T57 t822 x21_2).f1)]] rfl (by (try simp only [List.map_toArray, List.map_cons, List.map_nil]); first | done | rfl | (simp only [List.length_drop, List.length_take]; rfl)) ?_; (with_reducible refine (slices_Contains_Cell.calls k2 _ _ l0 ((rd_T57 t822 x21_2).f0) ((rd_T57 t822 x21_2).f1) false _ ?side1 ?side2 A16.out).mono ?_); (case side1 => exact Kd.C_below HR0.out (by repeat (first | (with_reducible first | exact HB.out | apply below_alloc | apply pw_below_drewN | apply below_drew1 | refine below_set ?_ GE821.out | refine below_set ?_ GE826.out) | exact HB.out))); (case side2 => exact HC0.out); rintro e w26 ⟨rfl, hb⟩; refine ⟨_, rfl, ?_⟩; have n0_ := Aside0.mk (Kd.R_below (by (with_reducible repeat (first | apply Kd.R_alloc | apply Kd.R_drewN | apply Kd.R_drew)); exact (Kd.R_mono (Kd.R_far (p := ⟨gb826, 1, none⟩) (Kd.R_far (p := ⟨gb826, 0, none⟩) (Kd.R_mono HO_5.out (fun k_ hk => (⟨hk, hk.2⟩ : _ ∧ k_ ≠ gb826))) (fun _ hk => hk.2) (.int .i64 ((rd_T57 t822 x21_2).f0))) (fun _ hk => hk.2) (.int .i64 ((rd_T57 t822 x21_2).f1))) (fun _ h_ => h_.1))) hb); have n1_ := Aside0.mk (Kd.R_below (by (with_reducible repeat (first | apply Kd.R_alloc | apply Kd.R_drewN | apply Kd.R_drew)); exact (Kd.R_mono (Kd.R_far (p := ⟨gb826, 1, none⟩) (Kd.R_far (p := ⟨gb826, 0, none⟩) (Kd.R_mono HO_19.out (fun k_ hk => (⟨hk, hk.2⟩ : _ ∧ k_ ≠ gb826))) (fun _ hk => hk.2) (.int .i64 ((rd_T57 t822 x21_2).f0))) (fun _ hk => hk.2) (.int .i64 ((rd_T57 t822 x21_2).f1))) (fun _ h_ => h_.1))) hb); have n2_ := Aside0.mk (blk_below (g := gb821) (o := .cells #[.int .i64 ((rd_T57 l0 x13_1).f0), .int .i64 ((rd_T57 l0 x13_1).f1)] 57 (0, 0)) (by (with_reducible repeat (first | refine blk_drewN ?_ _ | refine blk_drew ?_ | refine blk_alloc ?_ _)); refine blk_far ?_ NB821_826.out _; (with_reducible repeat (first | refine blk_drewN ?_ _ | refine blk_drew ?_ | refine blk_alloc ?_ _)); refine blk_far ?_ NB821_826.out _; (with_reducible repeat (first | refine blk_drewN ?_ _ | refine blk_drew ?_ | refine blk_alloc ?_ _)); exact BK821.out) hb); have n3_ := Aside0.mk (blk_below (g := gb826) (o := .cells #[.int .i64 ((rd_T57 t822 x21_2).f0), .int .i64 ((rd_T57 t822 x21_2).f1)] 57 (0, 0)) (by (with_reducible repeat (first | refine blk_drewN ?_ _ | refine blk_drew ?_ | refine blk_alloc ?_ _)); refine blk_put (cs := #[.int .i64 ((rd_T57 t822 x21_2).f0), .int .i64 0]) ?_ 1 _ rfl; (with_reducible repeat (first | refine blk_drewN ?_ _ | refine blk_drew ?_ | refine blk_alloc ?_ _)); refine blk_put (cs := #[.int .i64 0, .int .i64 0]) ?_ 0 _ rfl; (with_reducible repeat (first | refine blk_drewN ?_ _ | refine blk_drew ?_ | refine blk_alloc ?_ _)); exact BK826.out) hb); have n4_ := Aside0.mk (below_step (by repeat (first | (with_reducible first | exact HB.out | apply below_alloc | apply pw_below_drewN | apply below_drew1 | refine below_set ?_ GE821.out | refine below_set ?_ GE826.out) | exact HB.out)) hb); clear HO_5; clear HO_19; clear BK821; clear BK826; clear HB; have HO_5 := n0_; have HO_19 := n1_; have BK821 := n2_; have BK826 := n3_; have HB := n4_; clear n0_ n1_ n2_ n3_ n4_; (try clear hb); (try clear hb2); (try clear hk); (try clear hi); have hcz27_0 : w26.cell? ⟨gb826, 0, none⟩ = some (.int .i64 ((rd_T57 t822 x21_2).f0)) := (blk_cell BK826.out 0).trans rfl; have hcz27_1 : w26.cell? ⟨gb826, 1, none⟩ = some (.int .i64 ((rd_T57 t822 x21_2).f1)) := (blk_cell BK826.out 1).trans rfl; have hfz27_0 := blk_frozen BK826.out 0; have hfz27_1 := blk_frozen BK826.out 1) | ((with_reducible refine gate_builtin (b := .append) (xs := #[.tmp 29, .tmp 31]) rfl ?_); at_builtin; refine Kd.R_append k57 (w0 := w) w.heap.size rfl (.tmp 29) (.tmp 31) 30 57 (.agg #[(.int .i64 0), (.int .i64 0)]) 16 rfl Try.underlying30 info57 rfl (by decide) (by omega) u5 x5_2 (⟨(rd_T57 t822 x21_2).f0, (rd_T57 t822 x21_2).f1⟩ : S57) [.int .i64 ((rd_T57 t822 x21_2).f0), .int .i64 ((rd_T57 t822 x21_2).f1)] (fun k_ => some k_ ≠ (.slice (some ad825) t822.length co12 : Value).ownBlock ∧ k_ ≠ gb821 ∧ k_ ≠ gb826) (fun _ => False) rfl rfl ?aP (fun _ hk => hk.elim) ?aF ?aO ?aB ?aS ?aL ?_; (case aP => exact k57_mkM _ _ _ (⟨(rd_T57 t822 x21_2).f0, (rd_T57 t822 x21_2).f1⟩ : S57)); (case aB => exact (by repeat (first | (with_reducible first | exact HB.out | apply below_alloc | apply pw_below_drewN | apply below_drew1 | refine below_set ?_ GE821.out | refine below_set ?_ GE826.out) | exact HB.out))); (case aF => exact (fun k_ hk => ⟨Kd.fresh' (Kd.R_lt (by (with_reducible repeat (first | apply Kd.R_alloc | apply Kd.R_drewN | apply Kd.R_drew)); exact HO_19.out)) k_ hk, Kd.freshB (g := gb821) (o := .cells #[.int .i64 ((rd_T57 l0 x13_1).f0), .int .i64 ((rd_T57 l0 x13_1).f1)] 57 (0, 0)) (by (with_reducible repeat (first | refine blk_drewN ?_ _ | refine blk_drew ?_ | refine blk_alloc ?_ _)); exact BK821.out) k_ hk, Kd.freshB (g := gb826) (o := .cells #[.int .i64 ((rd_T57 t822 x21_2).f0), .int .i64 ((rd_T57 t822 x21_2).f1)] 57 (0, 0)) (by (with_reducible repeat (first | refine blk_drewN ?_ _ | refine blk_drew ?_ | refine blk_alloc ?_ _)); exact BK826.out) k_ hk⟩)); (case aO => exact (by (with_reducible repeat (first | apply Kd.R_alloc | apply Kd.R_drewN | apply Kd.R_drew)); exact Kd.R_mono HO_5.out (fun _ hk => ⟨hk.1.1, ⟨hk.1.2, hk.2⟩⟩))); (case aS => exact (below_size (by repeat (first | (with_reducible first | exact HB.out | apply below_alloc | apply pw_below_drewN | apply below_drew1 | refine below_set ?_ GE821.out | refine below_set ?_ GE826.out) | exact HB.out)))); (case aL => have := LMc22.out; omega); intro v829 w28 ho hb hg hat; rw [← Ny828.out] at ho; have n0_ := Aside0.mk (Kd.R_after (ok := (fun k_ => k_ ≠ gb821 ∧ k_ ≠ gb826)) (by (with_reducible repeat (first | apply Kd.R_alloc | apply Kd.R_drewN | apply Kd.R_drew)); exact Kd.R_mono HO_19.out (fun _ hk => ⟨⟨hk.1.2, hk.2⟩, hk.1.1⟩)) hg hat); have n1_ := Aside0.mk (blk_grown (g := gb821) (o := .cells #[.int .i64 ((rd_T57 l0 x13_1).f0), .int .i64 ((rd_T57 l0 x13_1).f1)] 57 (0, 0)) (by (with_reducible repeat (first | refine blk_drewN ?_ _ | refine blk_drew ?_ | refine blk_alloc ?_ _)); exact BK821.out) hg (Kd.R_away HO_5.out (fun _ hk => hk.1.2))); have n2_ := Aside0.mk (blk_grown (g := gb826) (o := .cells #[.int .i64 ((rd_T57 t822 x21_2).f0), .int .i64 ((rd_T57 t822 x21_2).f1)] 57 (0, 0)) (by (with_reducible repeat (first | refine blk_drewN ?_ _ | refine blk_drew ?_ | refine blk_alloc ?_ _)); exact BK826.out) hg (Kd.R_away HO_5.out (fun _ hk => hk.2))); have n3_ := Aside0.mk (hb); have n4_ := Aside0.mk (ho); clear HO_19; clear BK821; clear BK826; clear HB; clear HO_5; have HO_19 := n0_; have BK821 := n1_; have BK826 := n2_; have HB := n3_; have HO830 := n4_; clear n0_ n1_ n2_ n3_ n4_; clear ho hb hg hat))
                          go_roundg k2
                          case measure => have := HK1.out; have := HK2.out; omega
                          case rel => exact ⟨(y828), (wrap64 (x21_2 + 1)), (by first | rfl | (simp; done) | (simp [*]; done)), H', ⟨by have := HK1.out; have := HK2.out; omega⟩, ⟨by (with_reducible repeat (first | apply Kd.R_alloc | apply Kd.R_drewN | apply Kd.R_drew)); exact Kd.R_mono HO830.out (fun _ hk => ⟨hk.1, hk.2.1⟩)⟩, ⟨by (with_reducible repeat (first | apply Kd.R_alloc | apply Kd.R_drewN | apply Kd.R_drew)); exact Kd.R_mono HO_19.out (fun _ hk => ⟨hk.2, hk.1.1⟩)⟩, ⟨by (with_reducible repeat (first | refine blk_drewN ?_ _ | refine blk_drew ?_ | refine blk_alloc ?_ _)); exact BK821.out⟩, ⟨by repeat (first | (with_reducible first | exact HB.out | apply below_alloc | apply pw_below_drewN | apply below_drew1 | refine below_set ?_ GE821.out | refine below_set ?_ GE826.out) | exact HB.out)⟩⟩
                        · rw [if_neg c22] at H
                          exact absurd H (by simp)
                    · rw [if_neg c15] at H
                      exact absurd H (by simp)
                  · rw [if_neg c14] at H
                    exact absurd H (by simp)
                · rw [if_neg c13] at H
                  have c13b0 : decide (x21_2 < (t822.length : Int)) = false := decide_eq_false c13
                  clear c13
                  have H' := Aside0.mk H
                  clear H
                  go_wp2
                  go_roundg k2
                  case measure => have := HK1.out; have := HK2.out; omega
                  case rel => exact ⟨(x5_2), (wrap64 (x13_1 + 1)), (by first | rfl | (simp; done) | (simp [*]; done)), H', ⟨by have := HK1.out; have := HK2.out; omega⟩, ⟨by (with_reducible repeat (first | apply Kd.R_alloc | apply Kd.R_drewN | apply Kd.R_drew)); exact Kd.R_mono HO_5.out (fun _ hk => trivial)⟩, ⟨by repeat (first | (with_reducible first | exact HB.out | apply below_alloc | apply pw_below_drewN | apply below_drew1 | refine below_set ?_ GE821.out) | exact HB.out)⟩⟩
          · rw [if_neg c7] at H
            exact absurd H (by simp)
        · rw [if_neg c6] at H
          exact absurd H (by simp)
      · rw [if_neg c5] at H
        have c5b0 : decide (x13_1 < (l0.length : Int)) = false := decide_eq_false c5
        clear c5
        replace H := Option.bind_eq_some_iff.mp H
        obtain ⟨t816, A290, H⟩ := H
        replace H : ((slices_Compact_Cell.f t816).bind fun t817 => (some t817)) = some r := H
        have A29 := Aside0.mk A290
        clear A290
        replace H := Option.bind_eq_some_iff.mp H
        obtain ⟨t817, A300, H⟩ := H
        replace H : (some t817) = some r := H
        have A30 := Aside0.mk A300
        clear A300
        obtain rfl := Option.some.inj H
        obtain ⟨Ao31, co31, eo31⟩ := Kd.R_slice HO_5.out
        subst eo31
        go_wp2_with (first | ((with_reducible refine gate_callee (f := 117) rfl ?_); refine goesL_ (some 36) rfl rfl Try.func117 (by kernel_rfl) rfl #[.slice Ao31 x5_1.length co31, .func (.func 102) #[] #[]] rfl (by (try simp only [List.map_toArray, List.map_cons, List.map_nil]); first | done | rfl | (simp only [List.length_drop, List.length_take]; rfl)) ?_; (with_reducible refine (slices_SortFunc_Cell.calls (fun k_ => some k_ = (.slice Ao31 x5_1.length co31 : Value).ownBlock) (.slice Ao31 x5_1.length co31) x5_1  t816 w _ ?side1 ?side2 A29.out).mono ?_); (case side1 => repeat (first | (with_reducible first | exact HB.out | apply below_alloc | apply pw_below_drewN | apply below_drew1) | exact HB.out)); (case side2 => exact Kd.R_tight rfl HO_5.out); rintro e w32 ⟨rfl, hy0, hb, hkp⟩; refine ⟨_, rfl, ?_⟩; have n0_ := Aside0.mk (Kd.R_reok rfl hy0 (fun k_ e_ => HO_5.out.1 k_ e_)); have n1_ := Aside0.mk (hb); clear HO_5; clear HB; have HO_5 := n0_; have HB := n1_; clear n0_ n1_; (try clear hb); (try clear hkp); (try clear hy0)) | ((with_reducible refine gate_callee (f := 118) rfl ?_); refine goesL_ (some 38) rfl rfl Try.func118 (by kernel_rfl) rfl #[.slice Ao31 x5_1.length co31] rfl (by (try simp only [List.map_toArray, List.map_cons, List.map_nil]); first | done | rfl | (simp only [List.length_drop, List.length_take]; rfl)) ?_; (with_reducible refine (slices_Compact_Cell.calls (fun k_ => some k_ = (.slice Ao31 x5_1.length co31 : Value).ownBlock) (.slice Ao31 x5_1.length co31) t816 t817 w _ ?side1 ?side2 A30.out).mono ?_); (case side1 => repeat (first | (with_reducible first | exact HB.out | apply below_alloc | apply pw_below_drewN | apply below_drew1) | exact HB.out)); (case side2 => exact Kd.R_tight rfl HO_5.out); rintro e w33 ⟨v818, rfl, ho0, hb, hkp⟩; refine ⟨_, rfl, ?_⟩; have n0_ := Aside0.mk (Kd.R_mono (ok' := fun k_ => True) ho0 (fun k_ hk_ => trivial)); have n1_ := Aside0.mk (hb); clear HB; clear HO_5; have HO819 := n0_; have HB := n1_; clear n0_ n1_; (try clear hb); (try clear hkp); (try clear ho0)))
        go_ret
        exact ⟨_, by first | rfl | (simp [errW_none, errW_some] <;> rfl) | (simp [*, errW_none, errW_some] <;> rfl), by (with_reducible repeat (first | apply Kd.R_alloc | apply Kd.R_drewN | apply Kd.R_drew)); exact HO819.out, by repeat (first | (with_reducible first | exact HB.out | apply below_alloc | apply pw_below_drewN | apply below_drew1) | exact HB.out)⟩

/-! ### impl_NeighboursOf: function 46 -/
def impl_NeighboursOf.f (k : Nat) (l0 : List (S57)) : Option ((List (S57)) × Int) := (impl_IsShape.f k l0).bind fun t831 => (if t831 = true then ((impl_beside.f k l0).bind fun t832 => (some (t832, 0))) else (some (([] : List (S57)), 1)))
theorem impl_NeighboursOf.mono : ∀ a0 k, LeO (impl_NeighboursOf.f k a0) (impl_NeighboursOf.f (k + 1) a0) := by
  intro a0 k
  unfold impl_NeighboursOf.f
  repeat' first
      | (with_reducible exact impl_IsShape.mono _ _)
      | (with_reducible exact impl_beside.mono _ _)
      | (with_reducible exact LeO.refl _)
      | (with_reducible exact LeO.none _)
      | (with_reducible refine LeO.ite ?_ ?_)
      | (with_reducible refine LeO.bind ?_ (fun _ => ?_))
      | exact impl_IsShape.mono _ _
      | exact impl_beside.mono _ _
      | exact LeO.none _
      | refine LeO.ite ?_ ?_
      | refine LeO.bind ?_ (fun _ => ?_)
set_option maxHeartbeats 8000000 in
set_option maxRecDepth 100000 in
theorem impl_NeighboursOf.calls (k : Nat) (A0 : Option Addr) (c0 : Nat) (l0 : List (S57)) (r1 : List (S57)) (r2 : Int) (w : World) (hr0 : Kd.C k57 w A0 l0.length l0) (hc0 : l0.length ≤ c0) (h : impl_NeighboursOf.f k l0 = some (r1, r2)) :
    Calls Try.prog 46 #[.slice A0 l0.length c0] w fun e w' => ∃ v0_ : Value, e = .returned (.tuple #[v0_, .int .i64 r2]) ∧ Kd.R k57 57 w' w.heap.size (fun _ => True) v0_ r1 ∧ Below w.heap.size w w' := by
  have HR0 := Aside0.mk hr0
  have HC0 := Aside0.mk hc0
  clear hr0 hc0
  have HB := Aside0.mk (Below.refl w.heap.size w)
  have H : ((impl_IsShape.f k l0).bind fun t831 => (if t831 = true then ((impl_beside.f k l0).bind fun t832 => (some (t832, 0))) else (some (([] : List (S57)), 1)))) = some (r1, r2) := h
  clear h
  replace H := Option.bind_eq_some_iff.mp H
  obtain ⟨t831, A20, H⟩ := H
  replace H : (if t831 = true then ((impl_beside.f k l0).bind fun t832 => (some (t832, 0))) else (some (([] : List (S57)), 1))) = some (r1, r2) := H
  have A2 := Aside0.mk A20
  clear A20
  by_cases c3 : t831 = true
  · subst c3
    have H1 : ((impl_beside.f k l0).bind fun t832 => (some (t832, 0))) = some (r1, r2) := by rw [if_pos rfl] at H; exact H
    clear H
    have H := H1
    clear H1
    replace H := Option.bind_eq_some_iff.mp H
    obtain ⟨t832, A40, H⟩ := H
    replace H : (some (t832, 0)) = some (r1, r2) := H
    have A4 := Aside0.mk A40
    clear A40
    simp only [Option.some.injEq, Prod.mk.injEq] at H
    obtain ⟨rfl, rfl⟩ := H
    go_enter Try.func46, Try.ntmps46
    go_wp2_with (first | ((with_reducible refine gate_callee (f := 60) rfl ?_); refine goesL_ (some 5) rfl rfl Try.func60 (by kernel_rfl) rfl #[.slice A0 l0.length c0] rfl (by (try simp only [List.map_toArray, List.map_cons, List.map_nil]); first | done | rfl | (simp only [List.length_drop, List.length_take]; rfl)) ?_; (with_reducible refine (impl_IsShape.calls k _ _ l0 true _ ?side1 ?side2 A2.out).mono ?_); (case side1 => repeat (first | exact HR0.out | (with_reducible refine Kd.C_alloc ?_ _) | (with_reducible refine Kd.C_drewN ?_ _) | (with_reducible refine Kd.C_drew ?_))); (case side2 => exact HC0.out); rintro e w5 ⟨rfl, hb⟩; refine ⟨_, rfl, ?_⟩; have n0_ := Aside0.mk (below_step (by repeat (first | (with_reducible first | exact HB.out | apply below_alloc | apply pw_below_drewN | apply below_drew1) | exact HB.out)) hb); clear HB; have HB := n0_; clear n0_; (try clear hb); (try clear hb2); (try clear hk); (try clear hi)) | ((with_reducible refine gate_callee (f := 89) rfl ?_); refine goesL_ (some 8) rfl rfl Try.func89 (by kernel_rfl) rfl #[.slice A0 l0.length c0, .func (.func 73) #[] #[]] rfl (by (try simp only [List.map_toArray, List.map_cons, List.map_nil]); first | done | rfl | (simp only [List.length_drop, List.length_take]; rfl)) ?_; (with_reducible refine (impl_beside.calls k _ _ l0  t832 _ ?side1 ?side2 A4.out).mono ?_); (case side1 => repeat (first | exact (Kd.C_below HR0.out HB.out) | (with_reducible refine Kd.C_alloc ?_ _) | (with_reducible refine Kd.C_drewN ?_ _) | (with_reducible refine Kd.C_drew ?_))); (case side2 => exact HC0.out); rintro e w6 ⟨v833, rfl, ho0, hb⟩; refine ⟨_, rfl, ?_⟩; have n0_ := Aside0.mk (Kd.R_lower ho0 (below_size (by repeat (first | (with_reducible first | exact HB.out | apply below_alloc | apply pw_below_drewN | apply below_drew1) | exact HB.out)))); have n1_ := Aside0.mk (below_step (by repeat (first | (with_reducible first | exact HB.out | apply below_alloc | apply pw_below_drewN | apply below_drew1) | exact HB.out)) hb); clear HB; have HO834 := n0_; have HB := n1_; clear n0_ n1_; (try clear hb); (try clear hb2); (try clear hk); (try clear hi); (try clear ho0)))
    go_ret2
    exact ⟨_, by first | rfl | (simp [errW_none, errW_some] <;> rfl) | (simp [*, errW_none, errW_some] <;> rfl), by (with_reducible repeat (first | apply Kd.R_alloc | apply Kd.R_drewN | apply Kd.R_drew)); exact HO834.out, by repeat (first | (with_reducible first | exact HB.out | apply below_alloc | apply pw_below_drewN | apply below_drew1) | exact HB.out)⟩
  · replace c3 := Bool.eq_false_iff.mpr c3
    subst c3
    have H1 : (some (([] : List (S57)), 1)) = some (r1, r2) := by rw [if_neg (show ¬ (false = true) by decide)] at H; exact H
    clear H
    have H := H1
    clear H1
    simp only [Option.some.injEq, Prod.mk.injEq] at H
    obtain ⟨rfl, rfl⟩ := H
    go_enter Try.func46, Try.ntmps46
    go_wp2_with (first | ((with_reducible refine gate_callee (f := 60) rfl ?_); refine goesL_ (some 5) rfl rfl Try.func60 (by kernel_rfl) rfl #[.slice A0 l0.length c0] rfl (by (try simp only [List.map_toArray, List.map_cons, List.map_nil]); first | done | rfl | (simp only [List.length_drop, List.length_take]; rfl)) ?_; (with_reducible refine (impl_IsShape.calls k _ _ l0 false _ ?side1 ?side2 A2.out).mono ?_); (case side1 => repeat (first | exact HR0.out | (with_reducible refine Kd.C_alloc ?_ _) | (with_reducible refine Kd.C_drewN ?_ _) | (with_reducible refine Kd.C_drew ?_))); (case side2 => exact HC0.out); rintro e w7 ⟨rfl, hb⟩; refine ⟨_, rfl, ?_⟩; have n0_ := Aside0.mk (below_step (by repeat (first | (with_reducible first | exact HB.out | apply below_alloc | apply pw_below_drewN | apply below_drew1) | exact HB.out)) hb); clear HB; have HB := n0_; clear n0_; (try clear hb); (try clear hb2); (try clear hk); (try clear hi)))
    go_ret2
    exact ⟨_, by first | rfl | (simp [errW_none, errW_some] <;> rfl) | (simp [*, errW_none, errW_some] <;> rfl), by first | exact Kd.R_nil _ _ _ _ _ | exact Kd.N_nil _ _ _ _ _ | exact Kd.V_nil _ _ _ _ _ | exact Kd.Q_nil _ _ _ _ _ | exact Kd.S_nil _ _ _ _ _, by repeat (first | (with_reducible first | exact HB.out | apply below_alloc | apply pw_below_drewN | apply below_drew1) | exact HB.out)⟩

end Go.Proofs.Ytbfmocohknadkaa.X
