-- xprint.py
import Derived.Test.YtbfmocohknadkaaXx0
namespace Go.Proofs.Ytbfmocohknadkaa.X
open Go.RowKit Go.Proofs.YtbfmocohknadkaaW.PrintWords Go.Proofs.YtbfmocohknadkaaW.PrintLast Go.Proofs.YtbfmocohknadkaaW.PrintMore
attribute [local go_sem] max2_int min2_int max_two min_two max_three min_three max_four min_four   -- for this text's walks alone
set_option linter.unusedVariables false
set_option linter.unusedSimpArgs false

/-! ### spec_l02Around: function 108 -/
def spec_l02Around.f (a0_0 : Int) (a0_1 : Int) : Option ((List (S57))) := some (([(⟨a0_0, wrap64 (a0_1 - 1)⟩ : S57), (⟨wrap64 (a0_0 - 1), a0_1⟩ : S57), (⟨wrap64 (a0_0 + 1), a0_1⟩ : S57), (⟨a0_0, wrap64 (a0_1 + 1)⟩ : S57)] : List (S57)))
set_option maxHeartbeats 8000000 in
set_option maxRecDepth 100000 in
theorem spec_l02Around.calls (a0_0 : Int) (a0_1 : Int) (r : List (S57)) (w : World) (h : spec_l02Around.f a0_0 a0_1 = some r) :
  Calls Try.prog 108 #[.agg #[.int .i64 a0_0, .int .i64 a0_1]] w fun e w' => ∃ v0_ : Value, e = .returned (v0_) ∧ Kd.R k57 57 w' w.heap.size (fun _ => True) v0_ r ∧ Below w.heap.size w w' := by
 have hu57 := Try.underlying57
 have HB := Aside0.mk (Below.refl w.heap.size w)
 have H : (some (([(⟨a0_0, wrap64 (a0_1 - 1)⟩ : S57), (⟨wrap64 (a0_0 - 1), a0_1⟩ : S57), (⟨wrap64 (a0_0 + 1), a0_1⟩ : S57), (⟨a0_0, wrap64 (a0_1 + 1)⟩ : S57)] : List (S57)))) = some r := h
 clear h
 obtain ⟨y174, hY_⟩ : ∃ y_ : List (S57), y_ = (([(⟨a0_0, wrap64 (a0_1 - 1)⟩ : S57), (⟨wrap64 (a0_0 - 1), a0_1⟩ : S57), (⟨wrap64 (a0_0 + 1), a0_1⟩ : S57), (⟨a0_0, wrap64 (a0_1 + 1)⟩ : S57)] : List (S57))) := ⟨_, rfl⟩
 replace H : (some y174) = some r := yY_
 have Ny174 := Aside0.mk hY_
 clear hY_
 obtain rfl := Option.some.inj H
 go_enter Try.func108, Try.ntmps108
 go_wp2_with (first | ((with_reducible refine gate_dst (N := 1) rfl ?_); refine box_event ?hg (N := 1) ?hd (cs := #[.int .i64 a0_0, .int .i64 a0_1]) (t := 57) ?hr ?_; (case hd => rfl); (case hg => rfl); (case hr => first | (go_simp; done) | (go_simp; rfl)); intro gb173 hg w2 hbox hb; have BK173 := Aside0.mk (hbox); have GW173 := Aside0.mk ((by rw [hg]; exact (below_size bB_) : w.heap.size ≤ gb173)); have GE173 := Aside0.mk ((by rw [hg]; exact (below_size bB_) : w.heap.size ≤ gb173)); replace HB := Aside0.mk (below_step bB_ hb); clear hb hbox hg; have hcz3_0 : w2.cell? ⟨gb173, 0, none⟩ = some (.int .i64 a0_0) := (blk_cell BK173.out 0).trans rfl; have hcz3_1 : w2.cell? ⟨gb173, 1, none⟩ = some (.int .i64 a0_1) := (blk_cell BK173.out 1).trans rfl; have hfz3_0 := blk_frozen BK173.out 0; have hfz3_1 := blk_frozen BK173.out 1) | ((with_reducible refine gate_dst (N := 27) rfl ?_); refine Kd.R_lit k57 _ 57 ?hg (N := 27) ?hd (xs := ([(⟨a0_0, wrap64 (a0_1 - 1)⟩ : S57), (⟨wrap64 (a0_0 - 1), a0_1⟩ : S57), (⟨wrap64 (a0_0 + 1), a0_1⟩ : S57), (⟨a0_0, wrap64 (a0_1 + 1)⟩ : S57)] : List (S57))) (inner := [.int .i64 a0_0, .int .i64 (wrap64 (a0_1 - 1)), .int .i64 (wrap64 (a0_0 - 1)), .int .i64 a0_1, .int .i64 (wrap64 (a0_0 + 1)), .int .i64 a0_1, .int .i64 a0_0, .int .i64 (wrap64 (a0_1 + 1))]) (ok := fun _ => True) (okp := fun _ => True) ?hr ?hp (fun _ hk => hk) trivial (Below.refl _ _) (Nat.le_refl _) (by simp) ?_; (case hd => rfl); (case hg => rfl); (case hr => first | (go_simp; done) | (go_simp; rfl)); (case hp => exact (Reps.c2 (show Kd.M k57 _ _ _ (⟨a0_0, wrap64 (a0_1 - 1)⟩ : S57) [.int .i64 a0_0, .int .i64 (wrap64 (a0_1 - 1))] from (k57_mkM _ _ _ (⟨a0_0, wrap64 (a0_1 - 1)⟩ : S57) )) (Reps.c2 (show Kd.M k57 _ _ _ (⟨wrap64 (a0_0 - 1), a0_1⟩ : S57) [.int .i64 (wrap64 (a0_0 - 1)), .int .i64 a0_1] from (k57_mkM _ _ _ (⟨wrap64 (a0_0 - 1), a0_1⟩ : S57) )) (Reps.c2 (show Kd.M k57 _ _ _ (⟨wrap64 (a0_0 + 1), a0_1⟩ : S57) [.int .i64 (wrap64 (a0_0 + 1)), .int .i64 a0_1] from (k57_mkM _ _ _ (⟨wrap64 (a0_0 + 1), a0_1⟩ : S57) )) (Reps.c2 (show Kd.M k57 _ _ _ (⟨a0_0, wrap64 (a0_1 + 1)⟩ : S57) [.int .i64 a0_0, .int .i64 (wrap64 (a0_1 + 1))] from (k57_mkM _ _ _ (⟨a0_0, wrap64 (a0_1 + 1)⟩ : S57) )) (Reps.none _ _)))))); intro v175 w4 ho5 hb hg_ hnew_; clear hg_ hnew_; (first | rw [← Ny174.out] at ho5 | (simp only [Int.reduceToNat] at ho5; rw [← Ny174.out] at ho5)); have HO176 := Aside0.mk (Kd.R_lower (Kd.R_newB ho5 (g := gb173) (o := .cells #[.int .i64 a0_0, .int .i64 a0_1] 57 (0, 0)) (by (with_reducible repeat (first | refine blk_drewN ?_ _ | refine blk_drew ?_ | refine blk_alloc ?_ _)); exact BK173.out)) (below_size (by repeat (first | (with_reducible first | exact HB.out | apply below_alloc | apply pw_below_drewN | apply below_drew1 | refine below_set ?_ GE173.out) | exact HB.out)))); replace BK173 := Aside0.mk (blk_below (g := gb173) (o := .cells #[.int .i64 a0_0, .int .i64 a0_1] 57 (0, 0)) (by (with_reducible repeat (first | refine blk_drewN ?_ _ | refine blk_drew ?_ | refine blk_alloc ?_ _)); exact BK173.out) hb); replace HB := Aside0.mk (below_step (by repeat (first | (with_reducible first | exact HB.out | apply below_alloc | apply pw_below_drewN | apply below_drew1 | refine below_set ?_ GE173.out) | exact HB.out)) hb); clear hb ho5))
 go_ret
 exact ⟨_, r2_, rS_ (Kd.R_mono HO176.out (fun _ hk => trivial)), by repeat (first | (with_reducible first | exact HB.out | apply below_alloc | apply pw_below_drewN | apply below_drew1 | refine below_set ?_ GE173.out) | exact HB.out)⟩

end Go.Proofs.Ytbfmocohknadkaa.X
