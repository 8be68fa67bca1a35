-- Written by xprint.py, a program of this session, on the kit's print.py: functions of the seat in one namespace.
import Derived.Test.YtlhlilgienicfaaXx0
import Derived.Test.YtlhlilgienicfaaXx5
namespace Go.Proofs.Ytlhlilgienicfaa.X
open Go.RowKit Go.Proofs.YtlhlilgienicfaaW.PrintWords Go.Proofs.YtlhlilgienicfaaW.PrintLast Go.Proofs.YtlhlilgienicfaaW.PrintMore
attribute [local go_sem] max2_int min2_int max_two min_two max_three min_three max_four min_four   -- for this text's walks alone
set_option linter.unusedVariables false
set_option linter.unusedSimpArgs false

/-! ### impl_around: function 74 -/
def impl_around.f (a0_0 : Int) (a0_1 : Int) : Option ((List (S34))) := some (([(⟨a0_0, wrap64 (a0_1 - 1)⟩ : S34), (⟨wrap64 (a0_0 - 1), a0_1⟩ : S34), (⟨wrap64 (a0_0 + 1), a0_1⟩ : S34), (⟨a0_0, wrap64 (a0_1 + 1)⟩ : S34)] : List (S34)))
set_option maxHeartbeats 8000000 in
set_option maxRecDepth 100000 in
theorem impl_around.calls (a0_0 : Int) (a0_1 : Int) (r : List (S34)) (w : World) (h : impl_around.f a0_0 a0_1 = some r) :
    Calls Try.prog 74 #[.agg #[.int .i64 a0_0, .int .i64 a0_1]] w fun e w' => ∃ v0_ : Value, e = .returned (v0_) ∧ Kd.R k34 34 w' w.heap.size (fun _ => True) v0_ r ∧ Below w.heap.size w w' := by
  have hu34 := Try.underlying34
  have HB := Aside0.mk (Below.refl w.heap.size w)
  have H : (some (([(⟨a0_0, wrap64 (a0_1 - 1)⟩ : S34), (⟨wrap64 (a0_0 - 1), a0_1⟩ : S34), (⟨wrap64 (a0_0 + 1), a0_1⟩ : S34), (⟨a0_0, wrap64 (a0_1 + 1)⟩ : S34)] : List (S34)))) = some r := h
  clear h
  obtain ⟨y251, hy251⟩ : ∃ y_ : List (S34), y_ = (([(⟨a0_0, wrap64 (a0_1 - 1)⟩ : S34), (⟨wrap64 (a0_0 - 1), a0_1⟩ : S34), (⟨wrap64 (a0_0 + 1), a0_1⟩ : S34), (⟨a0_0, wrap64 (a0_1 + 1)⟩ : S34)] : List (S34))) := ⟨_, rfl⟩
  replace H : (some y251) = some r := by first | (rw [hy251]; with_reducible exact H) | (have H2_ := (Option.bind_some _ _).symm.trans H; rw [hy251]; with_reducible exact H2_) | (have H2_ := (Option.bind_some _ _).symm.trans H; with_reducible exact H2_) | with_reducible exact H | (rw [hy251]; exact H) | exact H
  have Ny251 := Aside0.mk hy251
  clear hy251
  obtain rfl := Option.some.inj H
  go_enter Try.func74, Try.ntmps74
  go_wp2_with (first | ((with_reducible refine gate_dst (N := 1) rfl ?_); refine box_event ?hg (N := 1) ?hd (cs := #[.int .i64 a0_0, .int .i64 a0_1]) (t := 34) ?hr ?_; (case hd => rfl); (case hg => rfl); (case hr => first | (go_simp; done) | (go_simp; rfl)); intro gb250 hg w2 hbox hb; have n0_ := Aside0.mk (below_step (by repeat (first | (with_reducible first | exact HB.out | apply below_alloc | apply pw_below_drewN | apply below_drew1) | exact HB.out)) hb); have n1_ := Aside0.mk (hbox); have n2_ := Aside0.mk ((by rw [hg]; exact (below_size (by repeat (first | (with_reducible first | exact HB.out | apply below_alloc | apply pw_below_drewN | apply below_drew1) | exact HB.out))) : w.heap.size ≤ gb250)); have n3_ := Aside0.mk ((by rw [hg]; exact (below_size (by repeat (first | (with_reducible first | exact HB.out | apply below_alloc | apply pw_below_drewN | apply below_drew1) | exact HB.out))) : w.heap.size ≤ gb250)); clear HB; have HB := n0_; have BK250 := n1_; have GW250 := n2_; have GE250 := n3_; clear n0_ n1_ n2_ n3_; clear hb hbox hg; have hcz3_0 : w2.cell? ⟨gb250, 0, none⟩ = some (.int .i64 a0_0) := (blk_cell BK250.out 0).trans rfl; have hcz3_1 : w2.cell? ⟨gb250, 1, none⟩ = some (.int .i64 a0_1) := (blk_cell BK250.out 1).trans rfl; have hfz3_0 := blk_frozen BK250.out 0; have hfz3_1 := blk_frozen BK250.out 1) | ((with_reducible refine gate_dst (N := 27) rfl ?_); refine Kd.R_lit k34 _ 34 ?hg (N := 27) ?hd (xs := ([(⟨a0_0, wrap64 (a0_1 - 1)⟩ : S34), (⟨wrap64 (a0_0 - 1), a0_1⟩ : S34), (⟨wrap64 (a0_0 + 1), a0_1⟩ : S34), (⟨a0_0, wrap64 (a0_1 + 1)⟩ : S34)] : List (S34))) (inner := [.int .i64 a0_0, .int .i64 (wrap64 (a0_1 - 1)), .int .i64 (wrap64 (a0_0 - 1)), .int .i64 a0_1, .int .i64 (wrap64 (a0_0 + 1)), .int .i64 a0_1, .int .i64 a0_0, .int .i64 (wrap64 (a0_1 + 1))]) (ok := fun _ => True) (okp := fun _ => True) ?hr ?hp (fun _ hk => hk) trivial (Below.refl _ _) (Nat.le_refl _) (by simp) ?_; (case hd => rfl); (case hg => rfl); (case hr => first | (go_simp; done) | (go_simp; rfl)); (case hp => exact (Reps.c2 (show Kd.M k34 _ _ _ (⟨a0_0, wrap64 (a0_1 - 1)⟩ : S34) [.int .i64 a0_0, .int .i64 (wrap64 (a0_1 - 1))] from (k34_mkM _ _ _ (⟨a0_0, wrap64 (a0_1 - 1)⟩ : S34) )) (Reps.c2 (show Kd.M k34 _ _ _ (⟨wrap64 (a0_0 - 1), a0_1⟩ : S34) [.int .i64 (wrap64 (a0_0 - 1)), .int .i64 a0_1] from (k34_mkM _ _ _ (⟨wrap64 (a0_0 - 1), a0_1⟩ : S34) )) (Reps.c2 (show Kd.M k34 _ _ _ (⟨wrap64 (a0_0 + 1), a0_1⟩ : S34) [.int .i64 (wrap64 (a0_0 + 1)), .int .i64 a0_1] from (k34_mkM _ _ _ (⟨wrap64 (a0_0 + 1), a0_1⟩ : S34) )) (Reps.c2 (show Kd.M k34 _ _ _ (⟨a0_0, wrap64 (a0_1 + 1)⟩ : S34) [.int .i64 a0_0, .int .i64 (wrap64 (a0_1 + 1))] from (k34_mkM _ _ _ (⟨a0_0, wrap64 (a0_1 + 1)⟩ : S34) )) (Reps.none _ _)))))); intro v252 w4 ho5 hb hg_ hnew_; clear hg_ hnew_; (first | rw [← Ny251.out] at ho5 | (simp only [Int.reduceToNat] at ho5; rw [← Ny251.out] at ho5)); have n0_ := Aside0.mk (Kd.R_lower (Kd.R_newB ho5 (g := gb250) (o := .cells #[.int .i64 a0_0, .int .i64 a0_1] 34 (0, 0)) (by (with_reducible repeat (first | refine blk_drewN ?_ _ | refine blk_drew ?_ | refine blk_alloc ?_ _)); exact BK250.out)) (below_size (by repeat (first | (with_reducible first | exact HB.out | apply below_alloc | apply pw_below_drewN | apply below_drew1 | refine below_set ?_ GE250.out) | exact HB.out)))); have n1_ := Aside0.mk (blk_below (g := gb250) (o := .cells #[.int .i64 a0_0, .int .i64 a0_1] 34 (0, 0)) (by (with_reducible repeat (first | refine blk_drewN ?_ _ | refine blk_drew ?_ | refine blk_alloc ?_ _)); exact BK250.out) hb); have n2_ := Aside0.mk (below_step (by repeat (first | (with_reducible first | exact HB.out | apply below_alloc | apply pw_below_drewN | apply below_drew1 | refine below_set ?_ GE250.out) | exact HB.out)) hb); clear BK250; clear HB; have HO253 := n0_; have BK250 := n1_; have HB := n2_; clear n0_ n1_ n2_; clear hb ho5))
  go_ret
  exact ⟨_, by first | rfl | (simp [errW_none, errW_some] <;> rfl) | (simp [*, errW_none, errW_some] <;> rfl), by (with_reducible repeat (first | apply Kd.R_alloc | apply Kd.R_drewN | apply Kd.R_drew)); exact Kd.R_mono HO253.out (fun _ hk => trivial), by repeat (first | (with_reducible first | exact HB.out | apply below_alloc | apply pw_below_drewN | apply below_drew1 | refine below_set ?_ GE250.out) | exact HB.out)⟩

/-! ### impl_touches: function 61, by hand -/
def impl_touches.cnt (k : Nat) (l0 : List S34) : List S34 → Int → Option Int
  | [], n => some n
  | d :: r, n => (slices_Contains_Cell.f k l0 d.f0 d.f1).bind fun t => impl_touches.cnt k l0 r (if t = true then wrap64 (n + 1) else n)
def impl_touches.go (k : Nat) (l0 : List S34) : List S34 → Int → Option Int
  | [], n => some n
  | c :: r, n => (impl_around.f c.f0 c.f1).bind fun ds => (impl_touches.cnt k l0 (ds.drop 2) n).bind fun m => impl_touches.go k l0 r m
def impl_touches.f (k : Nat) (l0 : List S34) : Option Int := impl_touches.go k l0 l0 0
theorem impl_touches.mono_cnt (l0 : List S34) (k : Nat) : ∀ r n, LeO (impl_touches.cnt k l0 r n) (impl_touches.cnt (k + 1) l0 r n) := by
  intro r
  induction r with
  | nil => intro n; exact LeO.refl _
  | cons d r ih => intro n; exact LeO.bind (slices_Contains_Cell.mono _ _ _ k) (fun t => ih _)
theorem impl_touches.mono : ∀ a0 k, LeO (impl_touches.f k a0) (impl_touches.f (k + 1) a0) := by
  intro a0 k
  have h : ∀ r n, LeO (impl_touches.go k a0 r n) (impl_touches.go (k + 1) a0 r n) := by
    intro r
    induction r with
    | nil => intro n; exact LeO.refl _
    | cons d r ih => intro n; exact LeO.bind (LeO.refl _) (fun ds => LeO.bind (impl_touches.mono_cnt a0 k _ _) (fun m => ih m))
  exact h a0 0
set_option maxHeartbeats 4000000 in
set_option maxRecDepth 100000 in
theorem impl_touches.calls (k : Nat) (A0 : Option Addr) (c0 : Nat) (l0 : List S34) (r : Int) (w : World) (hr0 : Kd.C k34 w A0 l0.length l0) (hc0 : l0.length ≤ c0) (h : impl_touches.f k l0 = some r) :
    Calls Try.prog 61 #[.slice A0 l0.length c0] w fun e w' => e = .returned (.int .i64 r) ∧ Below w.heap.size w w' := by
  have HR0 := Aside0.mk hr0
  have HC0 := Aside0.mk hc0
  have hlen : l0.length ≤ 9223372036854775807 := hr0.2.1
  clear hr0 hc0
  have HB := Aside0.mk (Below.refl w.heap.size w)
  have H0 : Aside0 (impl_touches.go k l0 (l0.drop 0) 0 = some r) := ⟨h⟩
  clear h
  go_enter Try.func61, Try.ntmps61
  go_wp2
  go_loopg [3, 10] l0.length (fun gk v3 v10 w' => ∃ (j : Nat) (n : Int), v3 = .int .i64 n ∧ v10 = .int .i64 j ∧ Aside0 (gk + j = l0.length) ∧ Aside0 (impl_touches.go k l0 (l0.drop j) n = some r) ∧ Aside0 (Below w.heap.size w w'))
  case atStart => exact ⟨0, 0, rfl, rfl, ⟨rfl⟩, H0, HB⟩
  case round =>
    clear H0 HB
    obtain ⟨j, n, rfl, rfl, HK, HG, HB⟩ := hrel
    cases gk with
    | zero =>
      have hj : j = l0.length := by have := HK.out; omega
      have c1 : decide ((j : Int) < (l0.length : Int)) = false := decide_eq_false (by omega)
      have c2 : decide (j < l0.length) = false := decide_eq_false (by omega)
      have HJ := Aside0.mk hj
      clear hj
      go_wp2
      go_ret
      refine ⟨?_, HB.out⟩
      have h := HG.out
      rw [HJ.out, List.drop_length] at h
      rw [Option.some.inj h]; rfl
    | succ gko =>
      have hj : j < l0.length := by have := HK.out; omega
      have HJ := Aside0.mk hj
      have p1 : 0 ≤ (j : Int) := by omega
      have q1 : (j : Int) < (l0.length : Int) := by omega
      obtain ⟨ad, e1, hx0, hx1⟩ := at_T34 HR0.out j p1 q1
      cases e1
      replace hx0 := (HB.out.cell (World.block_lt_of_cell? w _ hx0)).trans hx0
      replace hx1 := (HB.out.cell (World.block_lt_of_cell? w _ hx1)).trans hx1
      rw [Int.toNat_natCast] at hx0 hx1
      have c1 : decide ((j : Int) < (l0.length : Int)) = true := decide_eq_true q1
      have c2 : decide (j < l0.length) = true := decide_eq_true hj
      have hd : l0.drop j = rd_T34 l0 j :: l0.drop (j + 1) := by
        rw [List.drop_eq_getElem_cons hj]; congr 1
        unfold rd_T34; rw [List.getD_eq_getElem?_getD, Int.toNat_natCast, List.getElem?_eq_getElem hj]; rfl
      have HG2 := HG.out
      rw [hd] at HG2
      clear hd HG
      generalize hcc : rd_T34 l0 (j : Int) = cc at *
      clear hcc
      replace HG2 : ((impl_around.f cc.f0 cc.f1).bind fun ds => (impl_touches.cnt k l0 (ds.drop 2) n).bind fun m => impl_touches.go k l0 (l0.drop (j + 1)) m) = some r := HG2
      obtain ⟨ds, hds, HG3⟩ := Option.bind_eq_some_iff.mp HG2
      obtain ⟨m, hm, HG4⟩ := Option.bind_eq_some_iff.mp HG3
      have HDS := Aside0.mk hds
      obtain rfl := Option.some.inj hds
      have HM := Aside0.mk hm
      have HN := Aside0.mk HG4
      clear HG2 HG3 HG4 hm hj
      go_wp2_with fail
      refine (impl_around.calls cc.f0 cc.f1 _ _ HDS.out).mono ?_
      rintro e w1 ⟨v0, rfl, ho, hb⟩
      obtain ⟨A1, c3, rfl, hc3, hC⟩ := Kd.R_reads ho
      obtain ⟨ad1, e1, _⟩ := hC.2.2 (by simp)
      subst e1
      simp only [List.length_cons, List.length_nil] at hC hc3 ⊢
      have HC1 := Aside0.mk hC
      have hb2 := below_step (below_alloc HB.out _) hb
      have HB1 := Aside0.mk hb2
      have hne : ¬ c3 = 2 := by omega
      clear hC ho hb hb2
      have HM0 : Aside0 (impl_touches.cnt k l0 [(⟨wrap64 (cc.f0 + 1), cc.f1⟩ : S34), ⟨cc.f0, wrap64 (cc.f1 + 1)⟩] n = some m) := HM
      obtain ⟨_, e2, y0, y1⟩ := at_T34 HC1.out 2 (by omega) (by simp)
      cases e2
      obtain ⟨_, e3, z0, z1⟩ := at_T34 HC1.out 3 (by omega) (by simp)
      cases e3
      have Y0 : w1.cell? ⟨ad1.block, ad1.off + 4, none⟩ = some (.int .i64 (wrap64 (cc.f0 + 1))) := y0
      have Y1 : w1.cell? ⟨ad1.block, ad1.off + 5, none⟩ = some (.int .i64 cc.f1) := y1
      have Z0 : w1.cell? ⟨ad1.block, ad1.off + 6, none⟩ = some (.int .i64 cc.f0) := z0
      have Z1 : w1.cell? ⟨ad1.block, ad1.off + 7, none⟩ = some (.int .i64 (wrap64 (cc.f1 + 1))) := z1
      clear y0 y1 z0 z1 HM
      generalize wrap64 (cc.f0 + 1) = X1 at Y0 HM0
      generalize wrap64 (cc.f1 + 1) = X2 at Z1 HM0
      have HBw := Aside0.mk (Below.refl w1.heap.size w1)
      go_wp2_with fail
      go_loopg [3, 18] 2 (fun gk v3 v18 w' => ∃ (i : Nat) (q : Int), v3 = .int .i64 q ∧ v18 = .int .i64 i ∧ Aside0 (gk + i = 2) ∧ Aside0 (impl_touches.cnt k l0 ([(⟨X1, cc.f1⟩ : S34), ⟨cc.f0, X2⟩].drop i) q = some m) ∧ Aside0 (Below w1.heap.size w1 w'))
      case atStart => exact ⟨0, n, rfl, rfl, ⟨rfl⟩, HM0, HBw⟩
      case round =>
        clear HM0 HBw
        obtain ⟨i, q, rfl, rfl, HI, HQ, HBw⟩ := hrel
        have hik : gk = 2 - i := by have := HI.out; omega
        match i, HI, HQ, hik with
        | 0, HI, HQ, hik =>
          subst hik
          replace Y0 := (HBw.out.cell (World.block_lt_of_cell? w1 _ Y0)).trans Y0
          replace Y1 := (HBw.out.cell (World.block_lt_of_cell? w1 _ Y1)).trans Y1
          clear Z0 Z1
          have hq : ((slices_Contains_Cell.f k l0 X1 cc.f1).bind fun t => impl_touches.cnt k l0 [(⟨cc.f0, X2⟩ : S34)] (if t = true then wrap64 (q + 1) else q)) = some m := HQ.out
          obtain ⟨t, ht, hq⟩ := Option.bind_eq_some_iff.mp hq
          have HT := Aside0.mk ht
          have HQ2 := Aside0.mk hq
          clear hq ht HQ
          have HB2 := Aside0.mk (below_step HB1.out HBw.out)
          go_wp2_with fail
          refine (slices_Contains_Cell.calls k (some ad) c0 l0 X1 cc.f1 t _ (Kd.C_below HR0.out (below_alloc HB2.out _)) HC0.out HT.out).mono ?_
          rintro e w2 ⟨rfl, hb⟩
          have hb2 := below_step (below_alloc HBw.out _) hb
          have HB3 := Aside0.mk hb2
          clear hb hb2
          cases t with
          | true =>
            have HQ3 := HQ2.out
            rw [if_pos rfl] at HQ3
            have HQ4 := Aside0.mk HQ3
            clear HQ3 HQ2
            go_wp2_with fail
            go_roundg (1)
            case measure => omega
            case rel => exact ⟨1, wrap64 (q + 1), rfl, rfl, ⟨rfl⟩, HQ4, HB3⟩
          | false =>
            have HQ3 := HQ2.out
            rw [if_neg (by simp)] at HQ3
            have HQ4 := Aside0.mk HQ3
            clear HQ3 HQ2
            go_wp2_with fail
            go_roundg (1)
            case measure => omega
            case rel => exact ⟨1, q, rfl, rfl, ⟨rfl⟩, HQ4, HB3⟩
        | 1, HI, HQ, hik =>
          subst hik
          replace Z0 := (HBw.out.cell (World.block_lt_of_cell? w1 _ Z0)).trans Z0
          replace Z1 := (HBw.out.cell (World.block_lt_of_cell? w1 _ Z1)).trans Z1
          clear Y0 Y1
          have hq : ((slices_Contains_Cell.f k l0 cc.f0 X2).bind fun t => impl_touches.cnt k l0 [] (if t = true then wrap64 (q + 1) else q)) = some m := HQ.out
          obtain ⟨t, ht, hq⟩ := Option.bind_eq_some_iff.mp hq
          have HT := Aside0.mk ht
          have HQ2 := Aside0.mk hq
          clear hq ht HQ
          have HB2 := Aside0.mk (below_step HB1.out HBw.out)
          go_wp2_with fail
          refine (slices_Contains_Cell.calls k (some ad) c0 l0 cc.f0 X2 t _ (Kd.C_below HR0.out (below_alloc HB2.out _)) HC0.out HT.out).mono ?_
          rintro e w2 ⟨rfl, hb⟩
          have hb2 := below_step (below_alloc HBw.out _) hb
          have HB3 := Aside0.mk hb2
          clear hb hb2
          cases t with
          | true =>
            have HQ3 := HQ2.out
            rw [if_pos rfl] at HQ3
            have HQ4 := Aside0.mk HQ3
            clear HQ3 HQ2
            go_wp2_with fail
            go_roundg (0)
            case measure => omega
            case rel => exact ⟨2, wrap64 (q + 1), rfl, rfl, ⟨rfl⟩, HQ4, HB3⟩
          | false =>
            have HQ3 := HQ2.out
            rw [if_neg (by simp)] at HQ3
            have HQ4 := Aside0.mk HQ3
            clear HQ3 HQ2
            go_wp2_with fail
            go_roundg (0)
            case measure => omega
            case rel => exact ⟨2, q, rfl, rfl, ⟨rfl⟩, HQ4, HB3⟩
        | 2, HI, HQ, hik =>
          have hqm : q = m := Option.some.inj HQ.out
          subst hqm
          have HB2 := Aside0.mk (below_step HB1.out HBw.out)
          have HJ2 := Aside0.mk (show gko + (j + 1) = l0.length by have := HK.out; omega)
          clear HQ
          go_wp2_with fail
          go_roundg gko
          case measure => omega
          case rel => exact ⟨j + 1, q, rfl, by go_num, HJ2, HN, HB2⟩
        | i + 3, HI, HQ, hik => exact absurd HI.out (by omega)

end Go.Proofs.Ytlhlilgienicfaa.X
