-- xprint.py
import Derived.DeepKeys4
import Derived.Maps.OwnSet
import Derived.Test.YtbkafaoehheioaaGreatXx0
import Derived.Test.YtbkafaoehheioaaGreatXx2
import Derived.Test.YtbkafaoehheioaaGreatXx4
namespace Go.Proofs.YtbkafaoehheioaaGreat.X
open Go.RowKit Go.Proofs.YtbkafaoehheioaaGreatW.PrintWords Go.Proofs.YtbkafaoehheioaaGreatW.PrintLast Go.Proofs.YtbkafaoehheioaaGreatW.PrintMore
attribute [local go_sem] max2_int min2_int max_two min_two max_three min_three max_four min_four   -- for this text's walks alone
set_option linter.unusedVariables false
set_option linter.unusedSimpArgs false

/-! ### impl_parts: function 41, by hand -/
-- IMPORT Derived.Maps.OwnSet
-- IMPORT Derived.DeepKeys4
/-- the place that the map holds for a cell behind n rounds: the last one -/
def plN_ (l : List S39) : Nat → Int → Int → Option Nat
 | 0, _, _ => none
 | i + 1, x, y => if (rd_T39 l (i : Nat)).f0 = x ∧ (rd_T39 l (i : Nat)).f1 = y then some i else plN_ l i x y
/-- the neighbours of one cell, one by one -/
def impl_parts.near (l : List S39) (i : Int) : List S39 → List Int → List Int → Option (List Int × List Int)
 | [], out, q => some (out, q)
 | d :: r, out, q => match plN_ l l.length d.f0 d.f1 with
  | some j => if rd out (j : Nat) < 0 then (if q.length < 1000000 then impl_parts.near l i r (out.set j i) (q ++ [(j : Int)]) else none) else impl_parts.near l i r out q
  | none => impl_parts.near l i r out q
/-- the list of the reached places, from the a-th on -/
def impl_parts.bfs : Nat → List S39 → Int → Nat → List Int → List Int → Option (List Int)
 | 0, _, _, _, _, _ => none
 | k + 1, l, i, a, out, q => if a < q.length then (if 0 ≤ rd q (a : Nat) then (if rd q (a : Nat) < (l.length : Int) then ((impl_around.f (rd_T39 l (rd q (a : Nat))).f0 (rd_T39 l (rd q (a : Nat))).f1).bind fun ds => ((impl_parts.near l i ds out q).bind fun z => impl_parts.bfs k l i (a + 1) z.1 z.2)) else none) else none) else some out
def impl_parts.outer (k : Nat) (l : List S39) : Nat → Nat → List Int → Option (List Int)
 | 0, _, out => some out
 | d + 1, i, out => if rd out (i : Nat) ≥ 0 then impl_parts.outer k l d (i + 1) out else ((impl_parts.bfs k l (i : Nat) 0 (out.set i (i : Nat)) [(i : Int)]).bind fun out => impl_parts.outer k l d (i + 1) out)
def wfC_ (l : List S39) : Bool := l.all fun c => decide (-1000000 ≤ c.f0 ∧ c.f0 ≤ 1000000 ∧ -1000000 ≤ c.f1 ∧ c.f1 ≤ 1000000)
def impl_parts.f (k : Nat) (l0 : List S39) : Option (List Int) := if l0.length ≤ 1000000 then (if wfC_ l0 = true then impl_parts.outer k l0 l0.length 0 (List.replicate l0.length (-1)) else none) else none
theorem impl_parts.mono : ∀ a0 k, LeO (impl_parts.f k a0) (impl_parts.f (k + 1) a0) := by
 have hb : ∀ k l i a out q, LeO (impl_parts.bfs k l i a out q) (impl_parts.bfs (k + 1) l i a out q) := by
  intro k
  induction k with
  | zero => intro l i a out q r h; simp [impl_parts.bfs] at h
  | succ k ih =>
   intro l i a out q
   unfold impl_parts.bfs
   exact LeO.ite (LeO.ite (LeO.ite (LeO.bind (LeO.refl _) (fun ds => LeO.bind (LeO.refl _) (fun z => ih _ _ _ _ _))) (LeO.refl _)) (LeO.refl _)) (LeO.refl _)
 have ho : ∀ k l d i out, LeO (impl_parts.outer k l d i out) (impl_parts.outer (k + 1) l d i out) := by
  intro k l d
  induction d with
  | zero => intro i out; exact LeO.refl _
  | succ d ih =>
   intro i out
   unfold impl_parts.outer
   exact LeO.ite (ih _ _) (LeO.bind (hb _ _ _ _ _ _) (fun z => ih _ _))
 intro a0 k
 unfold impl_parts.f
 exact LeO.ite (LeO.ite (ho _ _ _ _ _) (LeO.refl _)) (LeO.refl _)
section
open Go.Maps
theorem laidC_ : laidOutB Tryz.prog = true := by kernel_rfl
theorem lawC_ : Keyed Tryz.prog 39 := Keyed.of_law (deep_law_laid laidC_ (m := 2) (by omega) (of_decide_eq_true (by kernel_rfl)) (by kernel_rfl) (by kernel_rfl))
theorem zeroI_ (w : World) : (zeroValue 3).run Tryz.prog w = .ok (.int .i64 0) w := by kernel_rfl
theorem wfI_ {x : Int} (h1 : -9223372036854775808 ≤ x) (h2 : x ≤ 9223372036854775807) : (Lit.int .i64 x).wf = true := by
 simp only [Lit.wf, Bool.and_eq_true, decide_eq_true_eq]; exact ⟨h1, h2⟩
theorem keyGen_ {P : Program} {t : TypeId} {f0 f1 : Field} (hu : P.underlying t = some (.struct #[f0, f1])) (u0 : P.underlying f0.type = some (.int .i64)) (u1 : P.underlying f1.type = some (.int .i64)) (ct : P.cellsOf t = 2) (c0 : P.cellsOf f0.type = 1) (c1 : P.cellsOf f1.type = 1)
  (o0 : f0.offset = 0) (o1 : f1.offset = 1) (n0 : (f0.name != "_") = true) (n1 : (f1.name != "_") = true) (hk : P.keyType t = true) (hs : 0 < P.types.size) (x y : Int) (hx : (Lit.int .i64 x).wf = true) (hy : (Lit.int .i64 y).wf = true) : ∃ kl, keyOf P t (.agg #[.int .i64 x, .int .i64 y]) = some kl := by
 have e3 : (Value.agg #[.int .i64 x, .int .i64 y]).formed P t = true := by simp [Value.formed, hu, ct]
 obtain ⟨m, hm⟩ : ∃ m, P.types.size = m + 1 := ⟨P.types.size - 1, by omega⟩
 unfold keyOf
 simp only [hu, hk, e3, hm, Bool.and_self, if_true]
 have k0 : P.keyLits (m + 1) f0.type [.int .i64 x] = some [.int .i64 x] := by unfold Program.keyLits; simp only [u0, hx, and_self, if_true]
 have k1 : P.keyLits (m + 1) f1.type [.int .i64 y] = some [.int .i64 y] := by unfold Program.keyLits; simp only [u1, hy, and_self, if_true]
 have kk : P.keyLits (m + 1 + 1) t [.int .i64 x, .int .i64 y] = some [.int .i64 x, .int .i64 y] := by
  unfold Program.keyLits
  simp only [hu]
  simp [ct, n0, n1, o0, o1, c0, c1, k0, k1]
 exact ⟨_, by simp only [Value.cells]; rw [kk]; rfl⟩
theorem keyC_ (x y : Int) (hx : (Lit.int .i64 x).wf = true) (hy : (Lit.int .i64 y).wf = true) : ∃ kl, keyOf Tryz.prog 39 (.agg #[.int .i64 x, .int .i64 y]) = some kl :=
 keyGen_ Tryz.underlying39 Tryz.underlying2 Tryz.underlying2 (by kernel_rfl) (by kernel_rfl) (by kernel_rfl) rfl rfl (by decide) (by decide) (by kernel_rfl) (of_decide_eq_true (by kernel_rfl)) x y hx hy
/-- what the map says behind n rounds -/
def PlOk_ (D : DataW Unit) (l : List S39) (n : Nat) : Prop := Maps.IsMap D ∧ ∀ x y kl, keyOf Tryz.prog 39 (.agg #[.int .i64 x, .int .i64 y]) = some kl → (∀ j, plN_ l n x y = some j → Maps.has D kl = true ∧ D.atKey kl (.lit (.int .i64 0)) = .lit (.int .i64 (j : Nat))) ∧ (plN_ l n x y = none → Maps.has D kl = false)
theorem PlOk_.start (l : List S39) : PlOk_ (.map []) l 0 := ⟨⟨[], rfl⟩, fun x y kl _ => ⟨fun j h => by simp [plN_] at h, fun _ => rfl⟩⟩
theorem PlOk_.step {D : DataW Unit} {l : List S39} {n : Nat} (h : PlOk_ D l n) {kl0 : Lit} (hk : keyOf Tryz.prog 39 (.agg #[.int .i64 (rd_T39 l (n : Nat)).f0, .int .i64 (rd_T39 l (n : Nat)).f1]) = some kl0) : PlOk_ (D.put kl0 (.lit (.int .i64 (n : Nat)))) l (n + 1) := by
 refine ⟨h.1.put _ _, fun x y kl hkl => ?_⟩
 have e : plN_ l (n + 1) x y = if (rd_T39 l (n : Nat)).f0 = x ∧ (rd_T39 l (n : Nat)).f1 = y then some n else plN_ l n x y := rfl
 rw [e]
 by_cases c : (rd_T39 l (n : Nat)).f0 = x ∧ (rd_T39 l (n : Nat)).f1 = y
 ·rw [if_pos c]
  rw [c.1, c.2, hkl] at hk
  obtain rfl := Option.some.inj hk
  refine ⟨fun j hj => ?_, fun hj => absurd hj (by simp)⟩
  obtain rfl := Option.some.inj hj
  exact ⟨has_put_same h.1 (lawC_.key hkl) _, atKey_put_same h.1 (lawC_.key hkl) _ _⟩
 ·rw [if_neg c]
  have hne : kl ≠ kl0 := fun he => by
   subst he
   have := lawC_.inj hkl hk
   injection this with this
   simp at this
   exact c ⟨this.1.symm, this.2.symm⟩
  obtain ⟨a, b⟩ := h.2 x y kl hkl
  refine ⟨fun j hj => ?_, fun hj => ?_⟩
  ·rw [has_put_other hne, atKey_put_other hne]; exact a j hj
  ·rw [has_put_other hne]; exact b hj
theorem ownsMap_below {w w' : World} {b n : Nat} {D : DataW Unit} (h : w.ownsMap Tryz.prog 39 (plainElem Tryz.prog 3) b n D) (hb : Below w.heap.size w w') : w'.ownsMap Tryz.prog 39 (plainElem Tryz.prog 3) b n D := h.kept (grown_of_below hb none) (by simp)
/-- a row is no map's block -/
theorem R_notmap {α : Type} {d : Kd α} {e : Nat} {w : World} {base : Nat} {ok : Nat → Prop} {v : Value} {xs : List α} {B n : Nat} {D : DataW Unit} (h : d.R e w base ok v xs) (hm : w.ownsMap Tryz.prog 39 (plainElem Tryz.prog 3) B n D) : d.R e w base (fun k => ok k ∧ k ≠ B) v xs := by
 obtain ⟨es, clock, hb, _⟩ := hm
 refine Kd.R_mono (Kd.R_bound h) fun k hk => ⟨hk.1, ?_⟩
 obtain ⟨_, _, _, q, _, cells, hc⟩ := hk
 rintro rfl
 rw [hb] at hc
 exact absurd (Option.some.inj hc) (by simp)
theorem R_update {α : Type} {d : Kd α} {e : Nat} {w w' : World} {base : Nat} {v : Value} {xs : List α} {B n : Nat} {D : DataW Unit} (h : d.R e w base (fun _ => True) v xs) (hm : w.ownsMap Tryz.prog 39 (plainElem Tryz.prog 3) B n D) (hg : w.grownBy w' (some B)) : d.R e w' base (fun _ => True) v xs :=
 Kd.R_mono (Kd.R_grown (R_notmap h hm) hg (fun k hk he => hk.2 (Option.some.inj he))) (fun _ _ => trivial)
theorem R_madeAt {α : Type} {d : Kd α} {e : Nat} {w : World} {base : Nat} {ok : Nat → Prop} {v : Value} {xs : List α} (h : d.R e w base ok v xs) {b : Nat} (hb : v.ownBlock = some b) : ∃ co, v = .slice (some ⟨b, 0, none⟩) xs.length co ∧ base ≤ b := by
 obtain ⟨inner, h1, h2⟩ := Kd.R_own h
 rcases h2 with ⟨rfl, _⟩ | ⟨g, cap, cur, rfl, hge, _⟩
 ·simp [Value.ownBlock] at hb
 ·have : g = b := by simpa [Value.ownBlock] using hb
  subst this; exact ⟨cap, rfl, hge⟩
theorem wfC_at {l : List S39} (h : wfC_ l = true) (j : Nat) (hj : j < l.length) : (Lit.int .i64 (rd_T39 l (j : Nat)).f0).wf = true ∧ (Lit.int .i64 (rd_T39 l (j : Nat)).f1).wf = true := by
 unfold wfC_ at h
 rw [List.all_eq_true] at h
 have hm : rd_T39 l (j : Nat) ∈ l := by
  unfold rd_T39; rw [List.getD_eq_getElem?_getD, Int.toNat_natCast, List.getElem?_eq_getElem hj]; exact List.getElem_mem hj
 have := of_decide_eq_true (h _ hm)
 exact ⟨wfI_ (by omega) (by omega), wfI_ (by omega) (by omega)⟩
theorem rdn_get (l : List Int) (j : Nat) (hj : j < l.length) : l[j]? = some (rd l (j : Nat)) := by
 unfold rd; rw [List.getD_eq_getElem?_getD, Int.toNat_natCast, List.getElem?_eq_getElem hj]; rfl
theorem rep_of_get (z : List Int) (n : Nat) (hn : z.length = n) (h : ∀ j, j < n → z[j]? = some (-1)) : z = List.replicate n (-1) := by
 apply List.ext_getElem?
 intro j
 by_cases hj : j < n
 ·rw [h j hj, List.getElem?_replicate, if_pos hj]
 ·rw [List.getElem?_eq_none (by omega), List.getElem?_eq_none (by simp; omega)]
theorem infoI_ : (Tryz.prog.info? 3).map (fun i => (i.zero, i.size, i.bytes)) = some (some (.int .i64 0), 1, 8) := by kernel_rfl
theorem map_ne {α : Type} {d : Kd α} {e : Nat} {w : World} {base : Nat} {ok : Nat → Prop} {v : Value} {xs : List α} {B n : Nat} {D : DataW Unit} (h : d.R e w base ok v xs) (hm : w.ownsMap Tryz.prog 39 (plainElem Tryz.prog 3) B n D) : some B ≠ v.ownBlock := fun he => ((R_notmap h hm).1 B he.symm).2 rfl
theorem around_wf {x y : Int} {ds : List S39} (h : impl_around.f x y = some ds) (hx : (Lit.int .i64 x).wf = true) (hy : (Lit.int .i64 y).wf = true) : ds.length = 4 ∧ ∀ j, j < ds.length → (Lit.int .i64 (rd_T39 ds (j : Nat)).f0).wf = true ∧ (Lit.int .i64 (rd_T39 ds (j : Nat)).f1).wf = true := by
 unfold impl_around.f at h
 obtain rfl := Option.some.inj h
 refine ⟨rfl, fun j hj => ?_⟩
 have : j = 0 ∨ j = 1 ∨ j = 2 ∨ j = 3 := by simp at hj; omega
 rcases this with rfl | rfl | rfl | rfl
 ·exact ⟨hx, wrap64_wf _⟩
 ·exact ⟨wrap64_wf _, hy⟩
 ·exact ⟨wrap64_wf _, hy⟩
 ·exact ⟨hx, wrap64_wf _⟩
theorem dropC_cons (l : List S39) (j : Nat) (hj : j < l.length) : l.drop j = rd_T39 l (j : Nat) :: l.drop (j + 1) := by
 rw [List.drop_eq_getElem_cons hj]; congr 1
 unfold rd_T39; rw [List.getD_eq_getElem?_getD, Int.toNat_natCast, List.getElem?_eq_getElem hj]; rfl
theorem plN_lt (l : List S39) (x y : Int) : ∀ (n j : Nat), plN_ l n x y = some j → j < n := by
 intro n
 induction n with
 | zero => intro j h; simp [plN_] at h
 | succ n ih =>
  intro j h
  unfold plN_ at h
  split at h
  ·obtain rfl := Option.some.inj h; omega
  ·have := ih j h; omega
set_option maxHeartbeats 8000000 in
set_option maxRecDepth 100000 in
theorem impl_parts.calls (k : Nat) (A0 : Option Addr) (c0 : Nat) (l0 : List S39) (r : List Int) (w : World) (hr0 : Kd.C k39 w A0 l0.length l0) (hc0 : l0.length ≤ c0) (h : impl_parts.f k l0 = some r) :
  Calls Tryz.prog 41 #[.slice A0 l0.length c0, .func (.func 20) #[] #[]] w fun e w' => ∃ v0_ : Value, e = .returned (v0_) ∧ Kd.R (Kd.int .i64) 2 w' w.heap.size (fun _ => True) v0_ r ∧ Below w.heap.size w w' := by
 have hu1 := Tryz.underlying46
 have hu2 := Tryz.underlying39
 have hmm := @run_makeMap Tryz.prog
 have HR0 := Aside0.mk hr0
 have HC0 := Aside0.mk hc0
 clear hr0 hc0
 unfold impl_parts.f at h
 by_cases hb : l0.length ≤ 1000000
 rotate_left
 ·rw [if_neg hb] at h; exact absurd h (by simp)
 rw [if_pos hb] at h
 by_cases hw : wfC_ l0 = true
 rotate_left
 ·rw [if_neg hw] at h; exact absurd h (by simp)
 rw [if_pos hw] at h
 have H := Aside0.mk h
 have HW := Aside0.mk hw
 clear h hw
 go_enter Tryz.func41, Tryz.ntmps41
 go_wp2_with ((with_reducible refine gate_dst (N := 19) rfl ?_); refine Kd.R_make (Kd.int .i64) (w0 := w) w.heap.size 2 rfl (N := 19) rfl 46 _ _ rfl (l0.length : Int) rfl rfl hu1 (.int .i64 0) 8 info2 rfl (by decide) (by decide) 0 (ok := fun _ => True) (okp := fun _ => True) rfl (fun _ hk => hk) trivial (by omega) (by simp only [Int.toNat_natCast]; omega) (below_alloc (Below.refl _ _) _) (by simp) ?_)
 intro vo w1 hR hB1 hg g hgb hgs
 obtain ⟨co, rfl, hgw⟩ := R_madeAt hR hgb
 rw [List.length_replicate] at *
 clear hgs
 have HO := Aside0.mk hR
 have HB := Aside0.mk hB1
 have HM := Aside0.mk ((World.ownsMap_made (H := Unit) w Tryz.prog 39 (plainElem Tryz.prog 3)).kept hg (by simp))
 have HG := Aside0.mk hgw
 clear hR hB1 hg hgb hgw
 go_wp2_with fail
 go_loopg [22] l0.length (fun gk v22 wr => ∃ (i : Nat) (z : List Int) (D : DataW Unit), v22 = .int .i64 i ∧ Aside0 (gk + i = l0.length) ∧ Aside0 (PlOk_ D l0 i) ∧ Aside0 (wr.ownsMap Tryz.prog 39 (plainElem Tryz.prog 3) w.heap.size i D) ∧ Aside0 (Kd.R (Kd.int .i64) 2 wr w.heap.size (fun _ => True) (.slice (some ⟨g, 0, none⟩) l0.length co) z) ∧ Aside0 (∀ j, j < i → z[j]? = some (-1)) ∧ Aside0 (Below w.heap.size w wr))
 case atStart => exact ⟨0, List.replicate l0.length 0, .map [], rfl, ⟨rfl⟩, ⟨PlOk_.start l0⟩, HM, HO, ⟨fun j hj => by omega⟩, HB⟩
 case round =>
  clear HM HO HB
  obtain ⟨i, z, D, rfl, HK, HP, HM, HO, HZ, HB⟩ := hrel
  have hzl := (Kd.R_reads' HO.out).1
  have HZL := Aside0.mk hzl
  cases gk with
  | zero =>
   have hi : i = l0.length := by have := HK.out; omega
   have d1 : decide ((i : Int) < (l0.length : Int)) = false := decide_eq_false (by omega)
   have d2 : decide (i < l0.length) = false := decide_eq_false (by omega)
   have hz : z = List.replicate l0.length (-1) := rep_of_get z _ hzl.symm (fun j hj => HZ.out j (by omega))
   have H2 : Aside0 (impl_parts.outer k l0 l0.length 0 z = some r) := ⟨by rw [hz]; exact H.out⟩
   have HP2 : Aside0 (PlOk_ D l0 l0.length) := ⟨by rw [← hi]; exact HP.out⟩
   have HI := Aside0.mk hi
   clear hzl hz H HP HZ hi
   go_wp2_with fail
   go_loopg [36] l0.length (fun gk v36 wr => ∃ (i2 : Nat) (z2 : List Int), v36 = .int .i64 i2 ∧ Aside0 (gk + i2 = l0.length) ∧ Aside0 (impl_parts.outer k l0 gk i2 z2 = some r) ∧ Aside0 (wr.ownsMap Tryz.prog 39 (plainElem Tryz.prog 3) w.heap.size i D) ∧ Aside0 (Kd.R (Kd.int .i64) 2 wr w.heap.size (fun _ => True) (.slice (some ⟨g, 0, none⟩) l0.length co) z2) ∧ Aside0 (Below w.heap.size w wr))
   case atStart => exact ⟨0, z, rfl, ⟨rfl⟩, H2, HM, HO, HB⟩
   case round =>
    clear H2 HM HO HB HZL
    obtain ⟨i2, z2, rfl, HK2, H2, HM, HO, HB⟩ := hrel
    cases gk with
    | zero =>
     have hi2 : i2 = l0.length := by have := HK2.out; omega
     have e1 : decide ((i2 : Int) < (l0.length : Int)) = false := decide_eq_false (by omega)
     have e2 : decide (i2 < l0.length) = false := decide_eq_false (by omega)
     have hz2 : some z2 = some r := H2.out
     obtain rfl := Option.some.inj hz2
     clear hz2 H2 hi2
     go_wp2_with fail
     go_ret
     exact ⟨_, rfl, HO.out, HB.out⟩
    | succ gk2 =>
     have hi2 : i2 < l0.length := by have := HK2.out; omega
     have p1 : 0 ≤ (i2 : Int) := by omega
     have q1 : (i2 : Int) < (l0.length : Int) := by omega
     have e1 : decide ((i2 : Int) < (l0.length : Int)) = true := decide_eq_true q1
     have e2 : decide (i2 < l0.length) = true := decide_eq_true hi2
     obtain ⟨hy, hz⟩ := Kd.R_celln 0 HO.out (i2 : Int) p1 q1
     rw [Int.toNat_natCast] at hy hz
     replace hy : wr.cell? ⟨g, i2, none⟩ = some (.int .i64 (rd z2 i2)) := hy
     have hH : (if rd z2 (i2 : Nat) ≥ 0 then impl_parts.outer k l0 gk2 (i2 + 1) z2 else ((impl_parts.bfs k l0 (i2 : Nat) 0 (z2.set i2 (i2 : Nat)) [(i2 : Int)]).bind fun out => impl_parts.outer k l0 gk2 (i2 + 1) out)) = some r := H2.out
     clear H2 d1 d2
     by_cases c : rd z2 (i2 : Nat) ≥ 0
     ·rw [if_pos c] at hH
      have H2 := Aside0.mk hH
      have c1 : decide (0 ≤ rd z2 (i2 : Nat)) = true := decide_eq_true c
      clear hH c
      go_wp2_with fail
      go_roundg gk2
      case measure => omega
      case rel => exact ⟨i2 + 1, z2, by go_num, ⟨by have := HK2.out; omega⟩, H2, HM, HO, HB⟩
     ·rw [if_neg c] at hH
      have c1 : decide (0 ≤ rd z2 (i2 : Nat)) = false := decide_eq_false c
      obtain ⟨z3, hz3, hH3⟩ := Option.bind_eq_some_iff.mp hH
      have H2 := Aside0.mk hH3
      have HZ3 := Aside0.mk hz3
      clear hH c hH3 hz3
      have HPG := Aside0.mk (Kd.R_putg HO.out (i2 : Int) (i2 : Int))
      rw [Int.toNat_natCast] at HPG
      generalize rd z2 (i2 : Nat) = zz at *
      go_wp2_with ((with_reducible refine gate_store (t := 2) (p := 47) rfl ?_); refine store_event (t := 2) (p := 47) (v := .tmp 46) (w1 := wr.setCell ⟨g, i2, none⟩ (.int .i64 (i2 : Int))) rfl rfl rfl (by first | (go_simp; done) | (go_simp; rfl)) ?_)
      intro w3 hw3
      have hne := (R_notmap HO.out HM.out).1 g (by simp [Value.ownBlock])
      have HO3 : Aside0 (Kd.R (Kd.int .i64) 2 w3 w.heap.size (fun _ => True) (.slice (some ⟨g, 0, none⟩) l0.length co) (z2.set i2 (i2 : Int))) := ⟨by rw [hw3]; exact HPG.out.1⟩
      have HM3 : Aside0 (w3.ownsMap Tryz.prog 39 (plainElem Tryz.prog 3) w.heap.size i D) := ⟨by rw [hw3]; exact HM.out.setCell (fun e => hne.2 e.symm) _⟩
      have HB3 : Aside0 (Below w.heap.size w w3) := ⟨by rw [hw3]; exact below_set HB.out HG.out⟩
      clear HPG HM HB HO hy hz hw3 hne
      go_wp2_with ((with_reducible refine gate_dst (N := 49) rfl ?_); refine Kd.R_lit (Kd.int .i64) _ 3 ?hg (N := 49) ?hd (xs := ([(i2 : Int)] : List Int)) (inner := [.int .i64 (i2 : Int)]) (ok := fun _ => True) (okp := fun _ => True) ?hr ?hp (fun _ hk => hk) trivial (Below.refl _ _) (Nat.le_refl _) (by simp) ?_; (case hd => rfl); (case hg => rfl); (case hr => first | (go_simp; done) | (go_simp; rfl)); (case hp => exact (Reps.one (show Kd.M (Kd.int .i64) _ _ _ (i2 : Int) [.int .i64 (i2 : Int)] from rfl) (Reps.none _ _))))
      intro vq w4 ho hb4 hg4 nb hnb hns
      have HQ : Aside0 (Kd.R (Kd.int .i64) 3 w4 w.heap.size (fun _ => True) vq [(i2 : Int)]) := ⟨Kd.R_lower ho HB3.out.size⟩
      have HO4 := Aside0.mk (Kd.R_below HO3.out hb4)
      have HM4 := Aside0.mk (ownsMap_below HM3.out hb4)
      have HB4 := Aside0.mk (below_step HB3.out hb4)
      clear ho hb4 hg4 hnb hns HO3 HM3 HB3
      go_wp2_with fail
      go_loopg [10, 11] k (fun kq v10 v11 wr => ∃ (a : Nat) (out q : List Int), v11 = .int .i64 a ∧ Aside0 (impl_parts.bfs kq l0 (i2 : Nat) a out q = some z3) ∧ Aside0 (wr.ownsMap Tryz.prog 39 (plainElem Tryz.prog 3) w.heap.size i D) ∧ Aside0 (Kd.R (Kd.int .i64) 2 wr w.heap.size (fun _ => True) (.slice (some ⟨g, 0, none⟩) l0.length co) out) ∧ Aside0 (Kd.R (Kd.int .i64) 3 wr w.heap.size (fun _ => True) v10 q) ∧ Aside0 (Below w.heap.size w wr))
      case atStart => exact ⟨0, _, _, rfl, HZ3, HM4, HO4, HQ, HB4⟩
      case round =>
       clear HZ3 HM4 HO4 HQ HB4
       obtain ⟨a, out, q, rfl, HF, HM, HO, HQ, HB⟩ := hrel
       obtain ⟨Aq, cq, rfl, hcq, hCq⟩ := Kd.R_reads HQ.out
       have HCQ := Aside0.mk hCq
       have hql : q.length ≤ 9223372036854775807 := hCq.2.1
       clear hCq hcq
       cases gk with
       | zero => exact absurd HF.out (by simp [impl_parts.bfs])
       | succ kq =>
        have hF := HF.out
        clear HF
        simp only [impl_parts.bfs] at hF
        by_cases ca : a < q.length
        ·rw [if_pos ca] at hF
         have f1 : decide ((a : Int) < (q.length : Int)) = true := decide_eq_true (by omega)
         have f2 : decide (a < q.length) = true := decide_eq_true ca
         have pa : 0 ≤ (a : Int) := by omega
         have qa : (a : Int) < (q.length : Int) := by omega
         by_cases cb : 0 ≤ rd q (a : Nat)
         rotate_left
         ·rw [if_neg cb] at hF; exact absurd hF (by simp)
         rw [if_pos cb] at hF
         by_cases cc : rd q (a : Nat) < (l0.length : Int)
         rotate_left
         ·rw [if_neg cc] at hF; exact absurd hF (by simp)
         rw [if_pos cc] at hF
         obtain ⟨ds, hds, hF⟩ := Option.bind_eq_some_iff.mp hF
         obtain ⟨⟨o', q'⟩, hnear, hF⟩ := Option.bind_eq_some_iff.mp hF
         replace hF : impl_parts.bfs kq l0 (i2 : Nat) (a + 1) o' q' = some z3 := hF
         obtain ⟨m, hm⟩ := Int.eq_ofNat_of_zero_le cb
         obtain ⟨adq, eq1, hq0⟩ := Kd.at_int HCQ.out (a : Int) pa qa
         subst eq1
         rw [Int.toNat_natCast, hm] at hq0
         rw [hm] at cb cc hds
         obtain ⟨wf0, wf1⟩ := wfC_at HW.out m (by omega)
         obtain ⟨ds4, dswf⟩ := around_wf hds wf0 wf1
         obtain ⟨ad, e3, hx0, hx1⟩ := at_T39 HR0.out (m : Int) cb cc
         subst e3
         rw [Int.toNat_natCast] at hx0 hx1
         replace hx0 := (HB.out.cell (World.block_lt_of_cell? w _ hx0)).trans hx0
         replace hx1 := (HB.out.cell (World.block_lt_of_cell? w _ hx1)).trans hx1
         have g1 : decide ((m : Int) < (l0.length : Int)) = true := decide_eq_true cc
         have g2 : decide (m < l0.length) = true := decide_eq_true (by omega)
         have HDS := Aside0.mk hds
         have HDW := Aside0.mk dswf
         have HD4 := Aside0.mk ds4
         have HF := Aside0.mk hF
         have HN : Aside0 (impl_parts.near l0 (i2 : Nat) (ds.drop 0) out q = some (o', q')) := ⟨hnear⟩
         clear hF hnear hds dswf ds4 hm wf0 wf1 ca
         generalize rd_T39 l0 (m : Int) = cm at *
         go_wp2_with fail
         refine (impl_around.calls cm.f0 cm.f1 ds _ HDS.out).mono ?_
         rintro e w5 ⟨vd, rfl, hRd, hb5⟩
         obtain ⟨Ad, cd, rfl, hcd, hCd⟩ := Kd.R_reads hRd
         have HD := Aside0.mk (Kd.R_lower hRd HB.out.size)
         have HO5 := Aside0.mk (Kd.R_below HO.out hb5)
         have HQ5 := Aside0.mk (Kd.R_below HQ.out hb5)
         have HM5 := Aside0.mk (ownsMap_below HM.out hb5)
         have HB5 := Aside0.mk (below_step HB.out hb5)
         have hdl : ds.length ≤ 9223372036854775807 := hCd.2.1
         clear hRd hb5 hcd hCd HO HQ HM HB hq0 hx0 hx1 HCQ
         go_wp2_with fail
         go_loopg [10, 66] ds.length (fun gk v10 v66 wr => ∃ (j : Nat) (out q : List Int), v66 = .int .i64 j ∧ Aside0 (gk + j = ds.length) ∧ Aside0 (impl_parts.near l0 (i2 : Nat) (ds.drop j) out q = some (o', q')) ∧ Aside0 (wr.ownsMap Tryz.prog 39 (plainElem Tryz.prog 3) w.heap.size i D) ∧ Aside0 (Kd.R (Kd.int .i64) 2 wr w.heap.size (fun _ => True) (.slice (some ⟨g, 0, none⟩) l0.length co) out) ∧ Aside0 (Kd.R (Kd.int .i64) 3 wr w.heap.size (fun _ => True) v10 q) ∧ Aside0 (Kd.R k39 39 wr w.heap.size (fun _ => True) (.slice Ad ds.length cd) ds) ∧ Aside0 (Below w.heap.size w wr))
         case atStart => exact ⟨0, out, q, rfl, ⟨rfl⟩, HN, HM5, HO5, HQ5, HD, HB5⟩
         case round =>
          clear HN HM5 HO5 HQ5 HD HB5
          obtain ⟨j, out, q, rfl, HKJ, HN, HM, HO, HQ, HD, HB⟩ := hrel
          cases gk with
          | zero =>
           have hj : j = ds.length := by have := HKJ.out; omega
           have h1 : decide ((j : Int) < (ds.length : Int)) = false := decide_eq_false (by omega)
           have h2 : decide (j < ds.length) = false := decide_eq_false (by omega)
           have hn := HN.out
           rw [hj, List.drop_length] at hn
           have hn2 : some (out, q) = some (o', q') := hn
           obtain ⟨rfl, rfl⟩ := Prod.mk.inj (Option.some.inj hn2)
           clear hn hn2 HN hj
           go_wp2_with fail
           go_roundg kq
           case measure => omega
           case rel => exact ⟨a + 1, out, q, by go_num, HF, HM, HO, HQ, HB⟩
          | succ gk3 =>
           have hj : j < ds.length := by have := HKJ.out; omega
           have h1 : decide ((j : Int) < (ds.length : Int)) = true := decide_eq_true (by omega)
           have h2 : decide (j < ds.length) = true := decide_eq_true hj
           have pj : 0 ≤ (j : Int) := by omega
           have qj : (j : Int) < (ds.length : Int) := by omega
           obtain ⟨ad, e3, hx0, hx1⟩ := at_T39 (Kd.R_reads' HD.out).2.2 j pj qj
           subst e3
           rw [Int.toNat_natCast] at hx0 hx1
           obtain ⟨wf0, wf1⟩ := HDW.out j hj
           obtain ⟨kl, hkl⟩ := keyC_ _ _ wf0 wf1
           have hn := HN.out
           rw [dropC_cons ds j hj] at hn
           have HKL := Aside0.mk hkl
           obtain ⟨px, py⟩ := HP2.out.2 _ _ kl hkl
           clear hkl wf0 wf1 HN
           generalize rd_T39 ds (j : Int) = cj at *
           obtain ⟨jj, hjj⟩ : ∃ jj, jj = j := ⟨j, rfl⟩
           rw [← hjj] at hn
           have hn2 : (match plN_ l0 l0.length cj.f0 cj.f1 with
            | some j => if rd out (j : Nat) < 0 then (if q.length < 1000000 then impl_parts.near l0 (i2 : Nat) (ds.drop (jj + 1)) (out.set j (i2 : Nat)) (q ++ [(j : Int)]) else none) else impl_parts.near l0 (i2 : Nat) (ds.drop (jj + 1)) out q
            | none => impl_parts.near l0 (i2 : Nat) (ds.drop (jj + 1)) out q) = some (o', q') := hn
           clear hn
           rw [hjj] at hn2
           clear hjj
           cases hpl : plN_ l0 l0.length cj.f0 cj.f1 with
           | none =>
            have hh := py hpl
            rw [hpl] at hn2
            have HN := Aside0.mk hn2
            clear hn2 px py hpl
            go_wp2_with (at_lookup; refine wpList_lookup_own_ok_int _ rfl _ _ 70 rfl 39 3 .i64 lawC_ Tryz.underlying70 Tryz.underlying3 (zeroI_ _) w.heap.size i D rfl (HM.out.alloc _) _ _ rfl HKL.out ?_)
            intro c hat hwc
            clear hat hwc hh
            go_wp2_with fail
            go_roundg gk3
            case measure => omega
            case rel => exact ⟨j + 1, out, q, by go_num, ⟨by have := HKJ.out; omega⟩, HN, ⟨HM.out.alloc _⟩, ⟨Kd.R_alloc HO.out _⟩, ⟨Kd.R_alloc HQ.out _⟩, ⟨Kd.R_alloc HD.out _⟩, ⟨below_alloc HB.out _⟩⟩
           | some jx =>
            obtain ⟨hh, hat0⟩ := px jx hpl
            have hjx := plN_lt l0 _ _ _ _ hpl
            rw [hpl] at hn2
            have hn3 : (if rd out (jx : Nat) < 0 then (if q.length < 1000000 then impl_parts.near l0 (i2 : Nat) (ds.drop (j + 1)) (out.set jx (i2 : Nat)) (q ++ [(jx : Int)]) else none) else impl_parts.near l0 (i2 : Nat) (ds.drop (j + 1)) out q) = some (o', q') := hn2
            have HT := Aside0.mk hat0
            clear hn2 px py hpl hat0
            have px : 0 ≤ (jx : Int) := by omega
            have qx : (jx : Int) < (l0.length : Int) := by omega
            have g3 : decide ((jx : Int) < (l0.length : Int)) = true := decide_eq_true qx
            have g4 : decide (jx < l0.length) = true := decide_eq_true hjx
            have HOA := Aside0.mk (Kd.R_alloc HO.out (.cells #[.int .i64 cj.f0, .int .i64 cj.f1] 39 (0, 0)))
            obtain ⟨hy, hz⟩ := Kd.R_celln 0 HOA.out (jx : Int) px qx
            rw [Int.toNat_natCast] at hy hz
            replace hy : (wr.alloc (.cells #[.int .i64 cj.f0, .int .i64 cj.f1] 39 (0, 0))).cell? ⟨g, jx, none⟩ = some (.int .i64 (rd out jx)) := hy
            have HPG := Aside0.mk (Kd.R_putg HOA.out (jx : Int) (i2 : Int))
            rw [Int.toNat_natCast] at HPG
            by_cases cn : rd out (jx : Nat) < 0
            ·rw [if_pos cn] at hn3
             have cn1 : decide (rd out (jx : Nat) < 0) = true := decide_eq_true cn
             by_cases cq2 : q.length < 1000000
             rotate_left
             ·rw [if_neg cq2] at hn3; exact absurd hn3 (by simp)
             rw [if_pos cq2] at hn3
             have HN := Aside0.mk hn3
             have HQL := Aside0.mk cq2
             clear hn3 cn cq2
             generalize rd out (jx : Nat) = zz at *
             go_wp2_with (at_lookup; refine wpList_lookup_own_ok_int _ rfl _ _ 70 rfl 39 3 .i64 lawC_ Tryz.underlying70 Tryz.underlying3 (zeroI_ _) w.heap.size i D rfl (HM.out.alloc _) _ _ rfl HKL.out ?_)
             intro c hat hwc
             have hcj : c = (jx : Int) := by
              rw [HT.out] at hat
              injection hat with hat
              injection hat with _ hat
              exact hat.symm
             subst hcj
             clear hat hwc hh
             go_wp2_with ((with_reducible refine gate_store (t := 2) (p := 87) rfl ?_); refine store_event (t := 2) (p := 87) (v := .tmp 86) (w1 := (wr.alloc (.cells #[.int .i64 cj.f0, .int .i64 cj.f1] 39 (0, 0))).setCell ⟨g, jx, none⟩ (.int .i64 (i2 : Int))) rfl rfl rfl (by first | (go_simp; done) | (go_simp; rfl)) ?_)
             intro w6 hw6
             have hne := (R_notmap HO.out HM.out).1 g (by simp [Value.ownBlock])
             have hg6 : (wr.alloc (.cells #[.int .i64 cj.f0, .int .i64 cj.f1] 39 (0, 0))).grownBy w6 (some g) := by rw [hw6]; exact HPG.out.2
             have HO6 : Aside0 (Kd.R (Kd.int .i64) 2 w6 w.heap.size (fun _ => True) (.slice (some ⟨g, 0, none⟩) l0.length co) (out.set jx (i2 : Int))) := ⟨by rw [hw6]; exact HPG.out.1⟩
             have HM6 : Aside0 (w6.ownsMap Tryz.prog 39 (plainElem Tryz.prog 3) w.heap.size i D) := ⟨by rw [hw6]; exact (HM.out.alloc _).setCell (fun e => hne.2 e.symm) _⟩
             have HQ6 : Aside0 (Kd.R (Kd.int .i64) 3 w6 w.heap.size (fun _ => True) u10 q) := ⟨Kd.R_over' (v := .slice (some ⟨g, 0, none⟩) l0.length co) (Kd.R_alloc HQ.out _) (Kd.R_typed HOA.out) (by decide) hg6⟩
             have HD6 : Aside0 (Kd.R k39 39 w6 w.heap.size (fun _ => True) (.slice (some ad) ds.length cd) ds) := ⟨Kd.R_over' (v := .slice (some ⟨g, 0, none⟩) l0.length co) (Kd.R_alloc HD.out _) (Kd.R_typed HOA.out) (by decide) hg6⟩
             have HB6 : Aside0 (Below w.heap.size w w6) := ⟨by rw [hw6]; exact below_set (below_alloc HB.out _) HG.out⟩
             clear HPG HM HB HO HQ HD HOA hy hz hw6 hne hg6 hx0 hx1
             go_wp2_with ((with_reducible refine gate_builtin (b := .append) (xs := #[.tmp 88, .tmp 90]) rfl ?_); at_builtin; refine Kd.R_append (Kd.int .i64) (w0 := w) w.heap.size rfl (.tmp 88) (.tmp 90) 71 3 (.int .i64 0) 8 rfl Tryz.underlying71 infoI_ rfl (by decide) (by omega) u10 q (jx : Int) [.int .i64 (jx : Int)] (fun _ => True) (fun _ => False) rfl rfl ?aP (fun _ hk => hk.elim) ?aF ?aO ?aB ?aS ?aL ?_; (case aP => exact rfl); (case aB => exact HB6.out); (case aF => exact (fun _ _ => trivial)); (case aO => exact HQ6.out); (case aS => exact HB6.out.size); (case aL => have := HQL.out; omega))
             intro v7 w7 ho hb7 hg7 hat7
             have HO7 := Aside0.mk (Kd.R_over' HO6.out (Kd.R_typed HQ6.out) (by decide) hg7)
             have HD7 := Aside0.mk (Kd.R_over' HD6.out (Kd.R_typed HQ6.out) (by decide) hg7)
             have HM7 := Aside0.mk (HM6.out.kept hg7 (map_ne HQ6.out HM6.out))
             have HQ7 := Aside0.mk ho
             have HB7 := Aside0.mk hb7
             clear ho hb7 hg7 hat7 HO6 HD6 HM6 HQ6 HB6
             go_wp2_with fail
             go_roundg gk3
             case measure => omega
             case rel => exact ⟨j + 1, out.set jx (i2 : Int), q ++ [(jx : Int)], by go_num, ⟨by have := HKJ.out; omega⟩, HN, HM7, HO7, HQ7, HD7, HB7⟩
            ·rw [if_neg cn] at hn3
             have cn1 : decide (rd out (jx : Nat) < 0) = false := decide_eq_false cn
             have HN := Aside0.mk hn3
             clear hn3 cn HPG
             generalize rd out (jx : Nat) = zz at *
             go_wp2_with (at_lookup; refine wpList_lookup_own_ok_int _ rfl _ _ 70 rfl 39 3 .i64 lawC_ Tryz.underlying70 Tryz.underlying3 (zeroI_ _) w.heap.size i D rfl (HM.out.alloc _) _ _ rfl HKL.out ?_)
             intro c hat hwc
             have hcj : c = (jx : Int) := by
              rw [HT.out] at hat
              injection hat with hat
              injection hat with _ hat
              exact hat.symm
             subst hcj
             clear hat hwc hh
             go_wp2_with fail
             go_roundg gk3
             case measure => omega
             case rel => exact ⟨j + 1, out, q, by go_num, ⟨by have := HKJ.out; omega⟩, HN, ⟨HM.out.alloc _⟩, HOA, ⟨Kd.R_alloc HQ.out _⟩, ⟨Kd.R_alloc HD.out _⟩, ⟨below_alloc HB.out _⟩⟩
        ·rw [if_neg ca] at hF
         obtain rfl := Option.some.inj hF
         have f1 : decide ((a : Int) < (q.length : Int)) = false := decide_eq_false (by omega)
         have f2 : decide (a < q.length) = false := decide_eq_false ca
         clear hF ca
         go_wp2_with fail
         go_roundg gk2
         case measure => omega
         case rel => exact ⟨i2 + 1, out, by go_num, ⟨by have := HK2.out; omega⟩, H2, HM, HO, HB⟩
  | succ gk2 =>
   have hi : i < l0.length := by have := HK.out; omega
   have p1 : 0 ≤ (i : Int) := by omega
   have q1 : (i : Int) < (l0.length : Int) := by omega
   obtain ⟨ad, e1, hx0, hx1⟩ := at_T39 HR0.out i p1 q1
   subst e1
   rw [Int.toNat_natCast] at hx0 hx1
   have d1 : decide ((i : Int) < (l0.length : Int)) = true := decide_eq_true q1
   have d2 : decide (i < l0.length) = true := decide_eq_true hi
   obtain ⟨wf0, wf1⟩ := wfC_at HW.out i hi
   obtain ⟨kl, hkl⟩ := keyC_ _ _ wf0 wf1
   have HP2 := Aside0.mk (HP.out.step hkl)
   replace hx0 := (HB.out.cell (World.block_lt_of_cell? w _ hx0)).trans hx0
   replace hx1 := (HB.out.cell (World.block_lt_of_cell? w _ hx1)).trans hx1
   have HKL := Aside0.mk hkl
   have hlm : i < maxLen := by simp only [maxLen]; omega
   clear HP hkl wf0 wf1 hzl
   generalize rd_T39 l0 (i : Int) = cc at *
   have wfi : (Lit.int .i64 (i : Int)).wf = true := wfI_ (by omega) (by omega)
   go_wp2_with (at_mapUpdate; refine wpList_mapUpdate_own _ rfl _ _ _ 70 rfl 39 3 lawC_ Tryz.underlying70 _ w.heap.size i _ rfl (HM.out.alloc _) hlm _ _ _ rfl rfl HKL.out _ [] (plainElem_int Tryz.underlying3 wfi) ?_)
   intro w2 hown hg
   have HO2 := Aside0.mk (R_update (Kd.R_alloc HO.out _) (HM.out.alloc _) hg)
   have hne := (R_notmap HO2.out hown).1 g (by simp [Value.ownBlock])
   have HB2 := Aside0.mk ((below_alloc HB.out (.cells #[.int .i64 cc.f0, .int .i64 cc.f1] 39 (0, 0))).grown hg (below_alloc HB.out _).size (by intro k hk; cases hk; exact Nat.le_refl _))
   obtain ⟨hy, hz⟩ := Kd.R_celln 0 HO2.out (i : Int) p1 q1
   have HPG := Aside0.mk (Kd.R_putg HO2.out (i : Int) (-1))
   have HM2 := Aside0.mk hown
   have HNE := Aside0.mk hne.2
   clear HO HM HB hg hown hne
   rw [Int.toNat_natCast] at hy hz HPG
   go_wp2_with ((with_reducible refine gate_store (t := 2) (p := 32) rfl ?_); refine store_event (t := 2) (p := 32) (v := .const (.int .i64 (-1))) (w1 := w2.setCell ⟨g, i, none⟩ (.int .i64 (-1))) rfl rfl rfl (by first | (go_simp; done) | (go_simp; rfl)) ?_)
   intro w3 hw3
   have HO3 : Aside0 (Kd.R (Kd.int .i64) 2 w3 w.heap.size (fun _ => True) (.slice (some ⟨g, 0, none⟩) l0.length co) (z.set i (-1))) := ⟨by rw [hw3]; exact HPG.out.1⟩
   have HM3 : Aside0 (w3.ownsMap Tryz.prog 39 (plainElem Tryz.prog 3) w.heap.size (i + 1) (D.put kl (.lit (.int .i64 (i : Nat))))) := ⟨by rw [hw3]; exact HM2.out.setCell (fun e => HNE.out e.symm) _⟩
   have HB3 : Aside0 (Below w.heap.size w w3) := ⟨by rw [hw3]; exact below_set HB2.out HG.out⟩
   clear HPG HM2 HB2 HO2 hy hz hw3 hx0 hx1
   go_wp2_with fail
   go_roundg gk2
   case measure => omega
   case rel => exact ⟨i + 1, z.set i (-1), _, by go_num, ⟨by have := HK.out; omega⟩, HP2, HM3, HO3, ⟨fun j hj => by
    rw [List.getElem?_set]
    by_cases e : i = j
    ·rw [if_pos e, if_pos (by have := HZL.out; omega)]
    ·rw [if_neg e]; exact HZ.out j (by omega)⟩, HB3⟩
end

/-! ### impl_connected: function 19 -/
def impl_connected.f (k : Nat) (l0 : List (S39))  : Option (Bool) := (impl_parts.f k l0).bind fun t262 => ((slices_Max_int64.f k t262).bind fun t265 => (some (t265 == 0)))
theorem impl_connected.mono : ∀ a0 k, LeO (impl_connected.f k a0) (impl_connected.f (k + 1) a0) := by
 intro a0 k
 unfold impl_connected.f
 repeat' first
   | (with_reducible exact impl_parts.mono _ _)
   | (with_reducible exact slices_Max_int64.mono _ _)
   | (with_reducible exact LeO.refl _)
   | (with_reducible exact LeO.none _)
   | (with_reducible refine LeO.ite ?_ ?_)
   | (with_reducible refine LeO.bind ?_ (fun _ => ?_))
   | exact impl_parts.mono _ _
   | exact slices_Max_int64.mono _ _
   | exact LeO.none _
   | refine LeO.ite ?_ ?_
   | refine LeO.bind ?_ (fun _ => ?_)
set_option maxHeartbeats 8000000 in
set_option maxRecDepth 100000 in
theorem impl_connected.calls (k : Nat) (A0 : Option Addr) (c0 : Nat) (l0 : List (S39))  (r : Bool) (w : World) (hr0 : Kd.C k39 w A0 l0.length l0) (hc0 : l0.length ≤ c0) (h : impl_connected.f k l0 = some r) :
  Calls Tryz.prog 19 #[.slice A0 l0.length c0, .func (.func 20) #[] #[]] w fun e w' => e = .returned (.bool r) ∧ Below w.heap.size w w' := by
 have HR0 := Aside0.mk hr0
 have HC0 := Aside0.mk hc0
 clear hr0 hc0
 have HB := Aside0.mk (Below.refl w.heap.size w)
 have H : ((impl_parts.f k l0).bind fun t262 => ((slices_Max_int64.f k t262).bind fun t265 => (some (t265 == 0)))) = some r := h
 clear h
 replace H := Option.bind_eq_some_iff.mp H
 obtain ⟨t262, A30, H⟩ := H
 try dsimp only at H
 have A3 := Aside0.mk A30
 clear A30
 replace H := Option.bind_eq_some_iff.mp H
 obtain ⟨t265, A40, H⟩ := H
 try dsimp only at H
 have A4 := Aside0.mk A40
 clear A40
 obtain rfl := Option.some.inj H
 go_enter Tryz.func19, Tryz.ntmps19
 go_wp2_with (first | ((with_reducible refine gate_callee (f := 41) rfl ?_); refine gL_ (some 7) Tryz.func41 #[.slice A0 l0.length c0, .func (.func 20) #[] #[]] ?_; (with_reducible refine (impl_parts.calls k _ _ l0  t262 _ ?side1 ?side2 A3.out).mono ?_); (case side1 => exact cS_ HR0.out); (case side2 => exact HC0.out); rintro e w5 ⟨v263, rfl, ho0, hb⟩; refine ⟨_, rfl, ?_⟩; have HO264 := Aside0.mk (Kd.R_lower ho0 (below_size bB_)); replace HB := Aside0.mk (below_step bB_ hb); (try clear hb ho0); obtain ⟨Ao6, co6, eo6⟩ := Kd.R_slice HO264.out; subst eo6) | ((with_reducible refine gate_callee (f := 40) rfl ?_); refine gL_ (some 8) Tryz.func40 #[.slice Ao6 t262.length co6] ?_; (with_reducible refine (slices_Max_int64.calls k _ _ t262 t265 _ ?side1 ?side2 A4.out).mono ?_); (case side1 => exact cS_ ((Kd.R_reads' HO264.out).2.2)); (case side2 => exact (Kd.R_reads' HO264.out).2.1); rintro e w7 ⟨rfl, hb⟩; refine ⟨_, rfl, ?_⟩; replace HO264 := Aside0.mk (Kd.R_below (rS_ HO264.out) hb); replace HB := Aside0.mk (below_step bB_ hb); (try clear hb)))
 go_ret
 exact ⟨r2_, bB_⟩

/-! ### impl_within: function 70 -/
def impl_within.f (a0 : Int) (a1 : Int) (a2 : Int) : Option (Bool) := if a0 ≥ a1 then (some (decide (a0 ≤ a2))) else (some false)
set_option maxHeartbeats 8000000 in
set_option maxRecDepth 100000 in
theorem impl_within.calls (a0 : Int) (a1 : Int) (a2 : Int) (r : Bool) (w : World) (h : impl_within.f a0 a1 a2 = some r) :
  Calls Tryz.prog 70 #[.int .i64 a0, .int .i64 a1, .int .i64 a2] w fun e w' => e = .returned (.bool r) ∧ Drawn0 w w' := by
 have H : (if a0 ≥ a1 then (some (decide (a0 ≤ a2))) else (some false)) = some r := h
 clear h
 by_cases c4 : a0 ≥ a1
 ·rw [if_pos c4] at H
  have c4b0 : decide (a1 ≤ a0) = true := decide_eq_true c4
  clear c4
  obtain rfl := Option.some.inj H
  go_enter Tryz.func70, Tryz.ntmps70
  go_wp2
  go_ret
  exact ⟨r3_, by repeat (first | exact Drawn0.refl _ | apply Drawn0.step)⟩
 ·rw [if_neg c4] at H
  have c4b0 : decide (a1 ≤ a0) = false := decide_eq_false c4
  clear c4
  obtain rfl := Option.some.inj H
  go_enter Tryz.func70, Tryz.ntmps70
  go_wp2
  go_ret
  exact ⟨r3_, by repeat (first | exact Drawn0.refl _ | apply Drawn0.step)⟩

/-! ### impl_isCoordinate: function 59 -/
def impl_isCoordinate.f (a0 : Int) : Option (Bool) := (impl_within.f a0 (-100) 100).bind fun t266 => (some t266)
set_option maxHeartbeats 8000000 in
set_option maxRecDepth 100000 in
theorem impl_isCoordinate.calls (a0 : Int) (r : Bool) (w : World) (h : impl_isCoordinate.f a0 = some r) :
  Calls Tryz.prog 59 #[.int .i64 a0] w fun e w' => e = .returned (.bool r) ∧ Drawn0 w w' := by
 have H : ((impl_within.f a0 (-100) 100).bind fun t266 => (some t266)) = some r := h
 clear h
 replace H := Option.bind_eq_some_iff.mp H
 obtain ⟨t266, A20, H⟩ := H
 try dsimp only at H
 have A2 := Aside0.mk A20
 clear A20
 obtain rfl := Option.some.inj H
 go_enter Tryz.func59, Tryz.ntmps59
 go_wp2_with (first | ((with_reducible refine gate_callee (f := 70) rfl ?_); refine gL_ (some 4) Tryz.func70 #[.int .i64 a0, .int .i64 (-100), .int .i64 100] ?_; (with_reducible refine (impl_within.calls a0 (-100) 100 t266 _ A2.out).mono ?_); rintro e w' ⟨rfl, ⟨nd, rfl⟩⟩; refine ⟨_, rfl, ?_⟩))
 go_ret
 exact ⟨r3_, by repeat (first | exact Drawn0.refl _ | apply Drawn0.step)⟩

/-! ### impl_compareCells: function 60 -/
def impl_compareCells.f (a0_0 : Int) (a0_1 : Int) (a1_0 : Int) (a1_1 : Int) : Option (Int) := (cmp_Compare_int64.f a0_1 a1_1).bind fun t271 => (if t271 = 0 then ((cmp_Compare_int64.f a0_0 a1_0).bind fun t272 => (some t272)) else (some t271))
set_option maxHeartbeats 8000000 in
set_option maxRecDepth 100000 in
theorem impl_compareCells.calls (a0_0 : Int) (a0_1 : Int) (a1_0 : Int) (a1_1 : Int) (r : Int) (w : World) (h : impl_compareCells.f a0_0 a0_1 a1_0 a1_1 = some r) :
  Calls Tryz.prog 60 #[.agg #[.int .i64 a0_0, .int .i64 a0_1], .agg #[.int .i64 a1_0, .int .i64 a1_1]] w fun e w' => e = .returned (.int .i64 r) ∧ Below w.heap.size w w' := by
 have hu39 := Tryz.underlying39
 have HB := Aside0.mk (Below.refl w.heap.size w)
 have H : ((cmp_Compare_int64.f a0_1 a1_1).bind fun t271 => (if t271 = 0 then ((cmp_Compare_int64.f a0_0 a1_0).bind fun t272 => (some t272)) else (some t271))) = some r := h
 clear h
 replace H := Option.bind_eq_some_iff.mp H
 obtain ⟨t271, A30, H⟩ := H
 try dsimp only at H
 have A3 := Aside0.mk A30
 clear A30
 by_cases c4 : t271 = 0
 ·rw [if_pos c4] at H
  have c4b0 : (t271 == 0) = true := beq_iff_eq.mpr c4
  have c4b1 : (t271 != 0) = false := bne_eq_false_iff_eq.mpr c4
  clear c4
  replace H := Option.bind_eq_some_iff.mp H
  obtain ⟨t272, A50, H⟩ := H
  try dsimp only at H
  have A5 := Aside0.mk A50
  clear A50
  obtain rfl := Option.some.inj H
  go_enter Tryz.func60, Tryz.ntmps60
  go_wp2_with (first | ((with_reducible refine gate_dst (N := 2) rfl ?_); refine box_event ?hg (N := 2) ?hd (cs := #[.int .i64 a0_0, .int .i64 a0_1]) (t := 39) ?hr ?_; (case hd => rfl); (case hg => rfl); (case hr => first | (go_simp; done) | (go_simp; rfl)); intro gb269 hg w6 hbox hb; have BK269 := Aside0.mk (hbox); have GW269 := Aside0.mk ((by rw [hg]; exact (below_size bB_) : w.heap.size ≤ gb269)); have GE269 := Aside0.mk ((by rw [hg]; exact (below_size bB_) : w.heap.size ≤ gb269)); replace HB := Aside0.mk (below_step bB_ hb); clear hb hbox hg) | ((with_reducible refine gate_dst (N := 3) rfl ?_); refine box_event ?hg (N := 3) ?hd (cs := #[.int .i64 a1_0, .int .i64 a1_1]) (t := 39) ?hr ?_; (case hd => rfl); (case hg => rfl); (case hr => first | (go_simp; done) | (go_simp; rfl)); intro gb270 hg w7 hbox hb; have BK270 := Aside0.mk (hbox); have GW270 := Aside0.mk ((by rw [hg]; exact (below_size (by repeat (first | (with_reducible first | exact HB.out | apply below_alloc | apply pw_below_drewN | apply below_drew1 | refine below_set ?_ GE269.out) | exact HB.out))) : w.heap.size ≤ gb270)); have GE270 := Aside0.mk ((by rw [hg]; exact (below_size (by repeat (first | (with_reducible first | exact HB.out | apply below_alloc | apply pw_below_drewN | apply below_drew1 | refine below_set ?_ GE269.out) | exact HB.out))) : w.heap.size ≤ gb270)); replace HB := Aside0.mk (below_step (by repeat (first | (with_reducible first | exact HB.out | apply below_alloc | apply pw_below_drewN | apply below_drew1 | refine below_set ?_ GE269.out) | exact HB.out)) hb); have NB269_270 := Aside0.mk ((by rw [hg]; exact Nat.ne_of_lt (blk_lt (g := gb269) (o := .cells #[.int .i64 a0_0, .int .i64 a0_1] 39 (0, 0)) (by (with_reducible repeat (first | refine blk_drewN ?_ _ | refine blk_drew ?_ | refine blk_alloc ?_ _)); exact BK269.out)) : gb269 ≠ gb270)); have NB270_269 := Aside0.mk ((by rw [hg]; exact Nat.ne_of_gt (blk_lt (g := gb269) (o := .cells #[.int .i64 a0_0, .int .i64 a0_1] 39 (0, 0)) (by (with_reducible repeat (first | refine blk_drewN ?_ _ | refine blk_drew ?_ | refine blk_alloc ?_ _)); exact BK269.out)) : gb270 ≠ gb269)); replace BK269 := Aside0.mk (blk_below (g := gb269) (o := .cells #[.int .i64 a0_0, .int .i64 a0_1] 39 (0, 0)) (by (with_reducible repeat (first | refine blk_drewN ?_ _ | refine blk_drew ?_ | refine blk_alloc ?_ _)); exact BK269.out) hb); clear hb hbox hg; have hnb8 := NB269_270.out; have hnc8 := NB270_269.out; have hcz9_0 : w7.cell? ⟨gb269, 0, none⟩ = some (.int .i64 a0_0) := (blk_cell BK269.out 0).trans rfl; have hcz9_1 : w7.cell? ⟨gb269, 1, none⟩ = some (.int .i64 a0_1) := (blk_cell BK269.out 1).trans rfl; have hfz9_0 := blk_frozen BK269.out 0; have hfz9_1 := blk_frozen BK269.out 1; have hcz10_0 : w7.cell? ⟨gb270, 0, none⟩ = some (.int .i64 a1_0) := (blk_cell BK270.out 0).trans rfl; have hcz10_1 : w7.cell? ⟨gb270, 1, none⟩ = some (.int .i64 a1_1) := (blk_cell BK270.out 1).trans rfl; have hfz10_0 := blk_frozen BK270.out 0; have hfz10_1 := blk_frozen BK270.out 1) | ((with_reducible refine gate_callee (f := 71) rfl ?_); refine gL_ (some 10) Tryz.func71 #[.int .i64 a0_1, .int .i64 a1_1] ?_; (with_reducible refine (cmp_Compare_int64.calls a0_1 a1_1 t271 _ A3.out).mono ?_); rintro e w' ⟨rfl, ⟨nd, rfl⟩⟩; refine ⟨_, rfl, ?_⟩) | ((with_reducible refine gate_callee (f := 71) rfl ?_); refine gL_ (some 18) Tryz.func71 #[.int .i64 a0_0, .int .i64 a1_0] ?_; (with_reducible refine (cmp_Compare_int64.calls a0_0 a1_0 t272 _ A5.out).mono ?_); rintro e w' ⟨rfl, ⟨nd, rfl⟩⟩; refine ⟨_, rfl, ?_⟩))
  go_ret
  exact ⟨r2_, by repeat (first | (with_reducible first | exact HB.out | apply below_alloc | apply pw_below_drewN | apply below_drew1 | refine below_set ?_ GE269.out | refine below_set ?_ GE270.out) | exact HB.out)⟩
 ·rw [if_neg c4] at H
  have c4b0 : (t271 == 0) = false := beq_eq_false_iff_ne.mpr c4
  have c4b1 : (t271 != 0) = true := bne_iff_ne.mpr c4
  obtain rfl := Option.some.inj H
  go_enter Tryz.func60, Tryz.ntmps60
  go_wp2_with (first | ((with_reducible refine gate_dst (N := 2) rfl ?_); refine box_event ?hg (N := 2) ?hd (cs := #[.int .i64 a0_0, .int .i64 a0_1]) (t := 39) ?hr ?_; (case hd => rfl); (case hg => rfl); (case hr => first | (go_simp; done) | (go_simp; rfl)); intro gb269 hg w11 hbox hb; have BK269 := Aside0.mk (hbox); have GW269 := Aside0.mk ((by rw [hg]; exact (below_size bB_) : w.heap.size ≤ gb269)); have GE269 := Aside0.mk ((by rw [hg]; exact (below_size bB_) : w.heap.size ≤ gb269)); replace HB := Aside0.mk (below_step bB_ hb); clear hb hbox hg) | ((with_reducible refine gate_dst (N := 3) rfl ?_); refine box_event ?hg (N := 3) ?hd (cs := #[.int .i64 a1_0, .int .i64 a1_1]) (t := 39) ?hr ?_; (case hd => rfl); (case hg => rfl); (case hr => first | (go_simp; done) | (go_simp; rfl)); intro gb270 hg w12 hbox hb; have BK270 := Aside0.mk (hbox); have GW270 := Aside0.mk ((by rw [hg]; exact (below_size (by repeat (first | (with_reducible first | exact HB.out | apply below_alloc | apply pw_below_drewN | apply below_drew1 | refine below_set ?_ GE269.out) | exact HB.out))) : w.heap.size ≤ gb270)); have GE270 := Aside0.mk ((by rw [hg]; exact (below_size (by repeat (first | (with_reducible first | exact HB.out | apply below_alloc | apply pw_below_drewN | apply below_drew1 | refine below_set ?_ GE269.out) | exact HB.out))) : w.heap.size ≤ gb270)); replace HB := Aside0.mk (below_step (by repeat (first | (with_reducible first | exact HB.out | apply below_alloc | apply pw_below_drewN | apply below_drew1 | refine below_set ?_ GE269.out) | exact HB.out)) hb); have NB269_270 := Aside0.mk ((by rw [hg]; exact Nat.ne_of_lt (blk_lt (g := gb269) (o := .cells #[.int .i64 a0_0, .int .i64 a0_1] 39 (0, 0)) (by (with_reducible repeat (first | refine blk_drewN ?_ _ | refine blk_drew ?_ | refine blk_alloc ?_ _)); exact BK269.out)) : gb269 ≠ gb270)); have NB270_269 := Aside0.mk ((by rw [hg]; exact Nat.ne_of_gt (blk_lt (g := gb269) (o := .cells #[.int .i64 a0_0, .int .i64 a0_1] 39 (0, 0)) (by (with_reducible repeat (first | refine blk_drewN ?_ _ | refine blk_drew ?_ | refine blk_alloc ?_ _)); exact BK269.out)) : gb270 ≠ gb269)); replace BK269 := Aside0.mk (blk_below (g := gb269) (o := .cells #[.int .i64 a0_0, .int .i64 a0_1] 39 (0, 0)) (by (with_reducible repeat (first | refine blk_drewN ?_ _ | refine blk_drew ?_ | refine blk_alloc ?_ _)); exact BK269.out) hb); clear hb hbox hg; have hnb13 := NB269_270.out; have hnc13 := NB270_269.out; have hcz14_0 : w12.cell? ⟨gb269, 0, none⟩ = some (.int .i64 a0_0) := (blk_cell BK269.out 0).trans rfl; have hcz14_1 : w12.cell? ⟨gb269, 1, none⟩ = some (.int .i64 a0_1) := (blk_cell BK269.out 1).trans rfl; have hfz14_0 := blk_frozen BK269.out 0; have hfz14_1 := blk_frozen BK269.out 1; have hcz15_0 : w12.cell? ⟨gb270, 0, none⟩ = some (.int .i64 a1_0) := (blk_cell BK270.out 0).trans rfl; have hcz15_1 : w12.cell? ⟨gb270, 1, none⟩ = some (.int .i64 a1_1) := (blk_cell BK270.out 1).trans rfl; have hfz15_0 := blk_frozen BK270.out 0; have hfz15_1 := blk_frozen BK270.out 1) | ((with_reducible refine gate_callee (f := 71) rfl ?_); refine gL_ (some 10) Tryz.func71 #[.int .i64 a0_1, .int .i64 a1_1] ?_; (with_reducible refine (cmp_Compare_int64.calls a0_1 a1_1 t271 _ A3.out).mono ?_); rintro e w' ⟨rfl, ⟨nd, rfl⟩⟩; refine ⟨_, rfl, ?_⟩))
  go_ret
  exact ⟨r2_, by repeat (first | (with_reducible first | exact HB.out | apply below_alloc | apply pw_below_drewN | apply below_drew1 | refine below_set ?_ GE269.out | refine below_set ?_ GE270.out) | exact HB.out)⟩

/-! ### impl_IsShape: function 33 -/
def impl_IsShape.l0 : Nat → List (S39) → List (S39) → Int → Int → Option (Bool)
 | 0, _, _, _, _ => none
 | k + 1, x0, x5, x6, x7 => if x7 < x6 then (if 0 ≤ x7 then (if x7 < (x5.length : Int) then ((impl_isCoordinate.f ((rd_T39 x5 x7).f0)).bind fun t275 => (if t275 = true then ((impl_isCoordinate.f ((rd_T39 x5 x7).f1)).bind fun t276 => (if t276 = true then (if x7 > 0 then (if 0 ≤ (wrap64 (x7 - 1)) then (if (wrap64 (x7 - 1)) < (x0.length : Int) then ((impl_compareCells.f ((rd_T39 x0 (wrap64 (x7 - 1))).f0) ((rd_T39 x0 (wrap64 (x7 - 1))).f1) ((rd_T39 x5 x7).f0) ((rd_T39 x5 x7).f1)).bind fun t278 => (if t278 ≥ 0 then (some false) else (impl_IsShape.l0 k x0 x5 x6 (wrap64 (x7 + 1))))) else (none)) else (none)) else (impl_IsShape.l0 k x0 x5 x6 (wrap64 (x7 + 1)))) else (some false))) else (some false))) else (none)) else (none)) else (if (x0.length : Int) ≥ 1 then (some (decide ((x0.length : Int) ≤ 40))) else (some false))
def impl_IsShape.f (k : Nat) (l0 : List (S39)) : Option (Bool) := impl_IsShape.l0 k l0 l0 (l0.length : Int) 0
theorem impl_IsShape.mono_l : ∀ k, (∀ y0 y1 y2 y3, LeO (impl_IsShape.l0 k y0 y1 y2 y3) (impl_IsShape.l0 (k + 1) y0 y1 y2 y3))
 | 0 => fun _ _ _ _ r h => by simp [impl_IsShape.l0] at h
 | k + 1 => by
  have ih0 := impl_IsShape.mono_l k
  ·intro y0 y1 y2 y3
   unfold impl_IsShape.l0
   repeat' first
   | (with_reducible exact ih0 _ _ _ _)
   | (with_reducible exact LeO.refl _)
   | (with_reducible exact LeO.none _)
   | (with_reducible refine LeO.ite ?_ ?_)
   | (with_reducible refine LeO.bind ?_ (fun _ => ?_))
   | exact ih0 _ _ _ _
   | exact LeO.none _
   | refine LeO.ite ?_ ?_
   | refine LeO.bind ?_ (fun _ => ?_)
theorem impl_IsShape.mono : ∀ a0 k, LeO (impl_IsShape.f k a0) (impl_IsShape.f (k + 1) a0) := by
 intro a0 k
 have ih0 := impl_IsShape.mono_l k
 unfold impl_IsShape.f
 repeat' first
   | (with_reducible exact ih0 _ _ _ _)
   | (with_reducible exact LeO.refl _)
   | (with_reducible exact LeO.none _)
   | (with_reducible refine LeO.ite ?_ ?_)
   | (with_reducible refine LeO.bind ?_ (fun _ => ?_))
   | exact ih0 _ _ _ _
   | exact LeO.none _
   | refine LeO.ite ?_ ?_
   | refine LeO.bind ?_ (fun _ => ?_)
def impl_IsShape.T4 : Bool × List (List Nat × List Nat) := (true, [([], []), ([0], [0]), ([1], [1]), ([2], [2]), ([3, 2], [3]), ([4], [4]), ([5, 4], [4, 5]), ([6, 4, 4], [4, 6]), ([7, 4], [4, 7]), ([4, 8], [4, 8]), ([9, 7], [9]), ([10], [10]), ([11, 10], [10, 11]), ([12, 10, 10], [10, 12]), ([13], [13]), ([13], [13]), ([15, 13], [13, 15]), ([14, 16, 13], [13, 14, 16]), ([17, 13], [13, 17]), ([13], [13]), ([18, 19, 13, 13], [13, 18, 19]), ([20, 13], [13, 20]), ([13, 21, 10], [10, 13, 21]), ([10, 22], [10, 22])])
def impl_IsShape.B4 : List Nat := [0, 1, 3, 7, 15, 31, 63, 127, 255, 511, 1023, 2047, 4095, 8191, 16383, 16383, 49151, 131071, 262143, 16383, 1048575, 2097151, 4194303, 8388607]
theorem impl_IsShape.tab4 : rtab .any (opsOf Tryz.f33 4) = impl_IsShape.T4 := by kernel_rfl
theorem impl_IsShape.bits4 : waitsOk impl_IsShape.T4.2 impl_IsShape.B4 = true := by kernel_rfl
set_option maxHeartbeats 8000000 in
set_option maxRecDepth 100000 in
theorem impl_IsShape.calls (k : Nat) (A0 : Option Addr) (c0 : Nat) (l0 : List (S39)) (r : Bool) (w : World) (hr0 : Kd.C k39 w A0 l0.length l0) (hc0 : l0.length ≤ c0) (h : impl_IsShape.f k l0 = some r) :
  Calls Tryz.prog 33 #[.slice A0 l0.length c0] w fun e w' => e = .returned (.bool r) ∧ Below w.heap.size w w' := by
 have hu39 := Tryz.underlying39
 have HR0 := Aside0.mk hr0
 have HC0 := Aside0.mk hc0
 clear hr0 hc0
 have HB := Aside0.mk (Below.refl w.heap.size w)
 have H : (impl_IsShape.l0 k l0 l0 (l0.length : Int) 0) = some r := h
 clear h
 have H' := Aside0.mk H
 clear H
 go_enter Tryz.func33, Tryz.ntmps33
 go_wp2
 go_loopg [7] k (fun kq v7 w' => ∃ (x7_1 : Int), v7 = .int .i64 x7_1 ∧ Aside0 (impl_IsShape.l0 kq l0 l0 (l0.length : Int) x7_1 = some r) ∧ Aside0 (kq ≤ k) ∧ Aside0 (Below w.heap.size w w'))
 case atStart => exact ⟨(0), r3_, H', ⟨Nat.le_refl _⟩, ⟨bB_⟩⟩
 case round =>
  clear H'
  obtain ⟨x7_1, rfl, HA, HK1, HB⟩ := hrel
  cases gk with
  | zero => exact absurd HA.out (by simp [impl_IsShape.l0])
  | succ k1 =>
   have H := HA.out
   clear HA
   simp only [impl_IsShape.l0] at H
   by_cases c2 : x7_1 < (l0.length : Int)
   ·rw [if_pos c2] at H
    have c2b0 : decide (x7_1 < (l0.length : Int)) = true := decide_eq_true c2
    clear c2
    by_cases c3 : 0 ≤ x7_1
    ·rw [if_pos c3] at H
     have c3b0 : decide (0 ≤ x7_1) = true := decide_eq_true c3
     clear c3
     by_cases c4 : x7_1 < (l0.length : Int)
     ·rw [if_pos c4] at H
      have c4b0 : decide (x7_1 < (l0.length : Int)) = true := decide_eq_true c4
      clear c4
      replace H := Option.bind_eq_some_iff.mp H
      obtain ⟨t275, A50, H⟩ := H
      try dsimp only at H
      have A5 := Aside0.mk A50
      clear A50
      by_cases c6 : t275 = true
      ·subst c6
       have H1 : ((impl_isCoordinate.f ((rd_T39 l0 x7_1).f1)).bind fun t276 => (if t276 = true then (if x7_1 > 0 then (if 0 ≤ (wrap64 (x7_1 - 1)) then (if (wrap64 (x7_1 - 1)) < (l0.length : Int) then ((impl_compareCells.f ((rd_T39 l0 (wrap64 (x7_1 - 1))).f0) ((rd_T39 l0 (wrap64 (x7_1 - 1))).f1) ((rd_T39 l0 x7_1).f0) ((rd_T39 l0 x7_1).f1)).bind fun t278 => (if t278 ≥ 0 then (some false) else (impl_IsShape.l0 k1 l0 l0 (l0.length : Int) (wrap64 (x7_1 + 1))))) else (none)) else (none)) else (impl_IsShape.l0 k1 l0 l0 (l0.length : Int) (wrap64 (x7_1 + 1)))) else (some false))) = some r := by rw [if_pos rfl] at H; exact H
       clear H
       have H := H1
       clear H1
       replace H := Option.bind_eq_some_iff.mp H
       obtain ⟨t276, A70, H⟩ := H
       try dsimp only at H
       have A7 := Aside0.mk A70
       clear A70
       by_cases c8 : t276 = true
       ·subst c8
        have H1 : (if x7_1 > 0 then (if 0 ≤ (wrap64 (x7_1 - 1)) then (if (wrap64 (x7_1 - 1)) < (l0.length : Int) then ((impl_compareCells.f ((rd_T39 l0 (wrap64 (x7_1 - 1))).f0) ((rd_T39 l0 (wrap64 (x7_1 - 1))).f1) ((rd_T39 l0 x7_1).f0) ((rd_T39 l0 x7_1).f1)).bind fun t278 => (if t278 ≥ 0 then (some false) else (impl_IsShape.l0 k1 l0 l0 (l0.length : Int) (wrap64 (x7_1 + 1))))) else (none)) else (none)) else (impl_IsShape.l0 k1 l0 l0 (l0.length : Int) (wrap64 (x7_1 + 1)))) = some r := by rw [if_pos rfl] at H; exact H
        clear H
        have H := H1
        clear H1
        by_cases c9 : x7_1 > 0
        ·rw [if_pos c9] at H
         have c9b0 : decide (0 < x7_1) = true := decide_eq_true c9
         clear c9
         obtain ⟨ji10, hji10⟩ : ∃ j_ : Int, (wrap64 (x7_1 - 1)) = j_ := ⟨_, rfl⟩
         replace H : (if 0 ≤ (ji10) then (if (ji10) < (l0.length : Int) then ((impl_compareCells.f ((rd_T39 l0 (ji10)).f0) ((rd_T39 l0 (ji10)).f1) ((rd_T39 l0 x7_1).f0) ((rd_T39 l0 x7_1).f1)).bind fun t278 => (if t278 ≥ 0 then (some false) else (impl_IsShape.l0 k1 l0 l0 (l0.length : Int) (wrap64 (x7_1 + 1))))) else (none)) else (none)) = some r := by first | (rw [hji10] at H; exact H) | (simp only [hji10] at H ⊢; exact H)
         (try rw [hji10] at A5)
         (try rw [hji10] at A7)
         have hji10w : (IntKind.i64.wrap (x7_1 - 1)) = ji10 := (i64_w _).trans hji10
         by_cases c11 : 0 ≤ (ji10)
         ·rw [if_pos c11] at H
          have c11b0 : decide (0 ≤ (ji10)) = true := decide_eq_true c11
          clear c11
          by_cases c12 : (ji10) < (l0.length : Int)
          ·rw [if_pos c12] at H
           have c12b0 : decide ((ji10) < (l0.length : Int)) = true := decide_eq_true c12
           clear c12
           replace H := Option.bind_eq_some_iff.mp H
           obtain ⟨t278, A130, H⟩ := H
           try dsimp only at H
           have A13 := Aside0.mk A130
           clear A130
           by_cases c14 : t278 ≥ 0
           ·rw [if_pos c14] at H
            have c14b0 : decide (0 ≤ t278) = true := decide_eq_true c14
            clear c14
            obtain rfl := Option.some.inj H
            have p273 : 0 ≤ (x7_1 : Int) := of_decide_eq_true aS_
            have q273 : x7_1 < (l0.length : Int) := of_decide_eq_true aS_
            obtain ⟨ad273, e273, hx273_0, hx273_1⟩ := at_T39 HR0.out x7_1 p273 q273
            cases e273
            replace hx273_0 := (HB.out.cell (World.block_lt_of_cell? w _ hx273_0)).trans hx273_0
            replace hx273_1 := (HB.out.cell (World.block_lt_of_cell? w _ hx273_1)).trans hx273_1
            replace p273 := eq_true p273
            replace q273 := eq_true q273
            try go_wp2_with (first | ((with_reducible refine gate_dst (N := 4) rfl ?_); refine box_event ?hg (N := 4) ?hd (cs := #[.int .i64 0, .int .i64 0]) (t := 39) ?hr ?_; (case hd => rfl); (case hg => rfl); (case hr => first | (go_simp; done) | (go_simp; rfl)); intro gb274 hg w15 hbox hb; have BK274 := Aside0.mk (hbox); have GW274 := Aside0.mk ((by rw [hg]; exact (below_size bB_) : w.heap.size ≤ gb274)); have GE274 := Aside0.mk ((by rw [hg]; exact (below_size bB_) : w.heap.size ≤ gb274)); replace HB := Aside0.mk (below_step bB_ hb); clear hb hbox hg; have hcz16_0 : w15.cell? ⟨gb274, 0, none⟩ = some (.int .i64 0) := (blk_cell BK274.out 0).trans rfl; have hcz16_1 : w15.cell? ⟨gb274, 1, none⟩ = some (.int .i64 0) := (blk_cell BK274.out 1).trans rfl; have hfz16_0 := blk_frozen BK274.out 0; have hfz16_1 := blk_frozen BK274.out 1))
            have n0_ : Aside0 (((w15.setCell ⟨gb274, 0, none⟩ (.int .i64 ((rd_T39 l0 x7_1).f0))).setCell ⟨gb274, 1, none⟩ (.int .i64 ((rd_T39 l0 x7_1).f1))).heap[gb274]? = some (.cells #[.int .i64 ((rd_T39 l0 x7_1).f0), .int .i64 ((rd_T39 l0 x7_1).f1)] 39 (0, 0))) := ⟨by (with_reducible repeat (first | refine blk_drewN ?_ _ | refine blk_drew ?_ | refine blk_alloc ?_ _)); refine blk_put (cs := #[.int .i64 ((rd_T39 l0 x7_1).f0), .int .i64 0]) ?_ 1 _ rfl; (with_reducible repeat (first | refine blk_drewN ?_ _ | refine blk_drew ?_ | refine blk_alloc ?_ _)); refine blk_put (cs := #[.int .i64 0, .int .i64 0]) ?_ 0 _ rfl; (with_reducible repeat (first | refine blk_drewN ?_ _ | refine blk_drew ?_ | refine blk_alloc ?_ _)); exact BK274.out⟩
            have n1_ : Aside0 (Below w.heap.size w ((w15.setCell ⟨gb274, 0, none⟩ (.int .i64 ((rd_T39 l0 x7_1).f0))).setCell ⟨gb274, 1, none⟩ (.int .i64 ((rd_T39 l0 x7_1).f1)))) := ⟨by repeat (first | (with_reducible first | exact HB.out | apply below_alloc | apply pw_below_drewN | apply below_drew1 | refine below_set ?_ GE274.out) | exact HB.out)⟩
            (try clear BK274)
            (try clear HB)
            generalize ((w15.setCell ⟨gb274, 0, none⟩ (.int .i64 ((rd_T39 l0 x7_1).f0))).setCell ⟨gb274, 1, none⟩ (.int .i64 ((rd_T39 l0 x7_1).f1))) = w17 at n0_ n1_ ⊢
            have BK274 := n0_
            have HB := n1_
            clear n0_ n1_
            replace BK274 := Aside0.mk (blk_drew BK274.out)
            replace HB := Aside0.mk (below_drew1 HB.out)
            have p277 : 0 ≤ ((ji10) : Int) := of_decide_eq_true aS_
            have q277 : (ji10) < (l0.length : Int) := of_decide_eq_true aS_
            obtain ⟨ad277, e277, hx277_0, hx277_1⟩ := at_T39 HR0.out (ji10) p277 q277
            have hw277_1 := hx277_1
            have hw277_0 := hx277_0
            obtain rfl : ad273 = ad277 := (by injection e277)
            replace hx277_0 := (HB.out.cell (World.block_lt_of_cell? w _ hx277_0)).trans hx277_0
            replace hx277_1 := (HB.out.cell (World.block_lt_of_cell? w _ hx277_1)).trans hx277_1
            replace p277 := eq_true p277
            replace q277 := eq_true q277
            refine start_ (n := 24) (S := fun w' => w'.cell? ⟨gb274, 0, none⟩ = some (.int .i64 ((rd_T39 l0 x7_1).f0)) ∧ w'.cell? ⟨gb274, 1, none⟩ = some (.int .i64 ((rd_T39 l0 x7_1).f1)) ∧ w'.cell? (ad273.add (((ji10)).toNat * 2)) = some (.int .i64 ((rd_T39 l0 (ji10)).f0)) ∧ w'.cell? ⟨(ad273.add (((ji10)).toNat * 2)).block, (ad273.add (((ji10)).toNat * 2)).off + 1, none⟩ = some (.int .i64 ((rd_T39 l0 (ji10)).f1))) (ds := []) #[F, F, F, F, F, F, F, F, F, F, F, F, F, F, F, F, F, F, F, F, F, F, F, F] (by kernel_rfl) rfl rfl ⟨(blk_cell BK274.out 0).trans rfl, (blk_cell BK274.out 1).trans rfl, ((HB.out.cell (World.block_lt_of_cell? w _ hw277_0)).trans hw277_0), ((HB.out.cell (World.block_lt_of_cell? w _ hw277_1)).trans hw277_1)⟩ (fun hHeld => ?_); refine with_tabW impl_IsShape.tab4 impl_IsShape.bits4 (fun HT_ HW_ => ?_)
            generalize w17.drew = w18 at BK274 HB hx277_0 hx277_1 hHeld ⊢
            refine pu_ HT_ 0 (some 12) #[T,F,F,F,F,F,F,F,F,F,F,F,F,F,F,F,F,F,F,F,F,F,F,F] ?_
            refine take_ (i := 1) (N := some 13) (v := ?_) (a' := ?_) #[T, T, F, F, F, F, F, F, F, F, F, F, F, F, F, F, F, F, F, F, F, F, F, F] rfl rfl (take_ofW HT_.out HW_.out (by kernel_rfl)) (fun _ _ _ h => h) (Or.inl ⟨by rfl, ?_⟩) hHeld ?_ ?_
            rotate_left
            ·rintro w' ⟨s0, s1, s2, s3⟩
             go_simp
             with_reducible rfl
            rotate_left
            ·simp only [Act.put, List.setIfInBounds_toArray, List.set_cons_zero, List.set_cons_succ, i64_w, i32_w]
             rfl
            refine one_ (i := 2) (N := some 14) #[T, T, T, F, F, F, F, F, F, F, F, F, F, F, F, F, F, F, F, F, F, F, F, F] rfl rfl (one_of HT_.out (by kernel_rfl)) (by decide) (fun K hK => ?_)
            refine goes_ Tryz.func59 (by kernel_rfl) rfl #[.int .i64 ((rd_T39 l0 x7_1).f0)] (by rfl) rfl rfl mA_ ?_
            with_reducible refine (impl_isCoordinate.calls ((rd_T39 l0 x7_1).f0) true _ A5.out).mono ?_
            rintro e w' ⟨rfl, ⟨nd, rfl⟩⟩
            refine ⟨_, rfl, ?_⟩
            refine hK.out _ _ ⟨(blk_cell BK274.out 0).trans rfl, (blk_cell BK274.out 1).trans rfl, ((HB.out.cell (World.block_lt_of_cell? w _ hw277_0)).trans hw277_0), ((HB.out.cell (World.block_lt_of_cell? w _ hw277_1)).trans hw277_1)⟩ (fun hHeld => ?_)
            clear hK K
            refine no_ (some 14) ?_
            refine pu_ HT_ 3 (some 15) #[T,T,T,T,F,F,F,F,F,F,F,F,F,F,F,F,F,F,F,F,F,F,F,F] ?_
            refine pu_ HT_ 4 (some 16) #[T,T,T,T,T,F,F,F,F,F,F,F,F,F,F,F,F,F,F,F,F,F,F,F] ?_
            refine pu_ HT_ 5 (some 17) #[T,T,T,T,T,T,F,F,F,F,F,F,F,F,F,F,F,F,F,F,F,F,F,F] ?_
            refine take_ (i := 6) (N := some 18) (v := ?_) (a' := ?_) #[T, T, T, T, T, T, T, F, F, F, F, F, F, F, F, F, F, F, F, F, F, F, F, F] rfl rfl (take_ofW HT_.out HW_.out (by kernel_rfl)) (fun _ _ _ h => h) (Or.inl ⟨by rfl, ?_⟩) hHeld ?_ ?_
            rotate_left
            ·rintro w' ⟨s0, s1, s2, s3⟩
             go_simp
             with_reducible rfl
            rotate_left
            ·simp only [Act.put, List.setIfInBounds_toArray, List.set_cons_zero, List.set_cons_succ, i64_w, i32_w]
             rfl
            refine one_ (i := 7) (N := some 19) #[T, T, T, T, T, T, T, T, F, F, F, F, F, F, F, F, F, F, F, F, F, F, F, F] rfl rfl (one_of HT_.out (by kernel_rfl)) (by decide) (fun K hK => ?_)
            refine goes_ Tryz.func59 (by kernel_rfl) rfl #[.int .i64 ((rd_T39 l0 x7_1).f1)] (by rfl) rfl rfl mA_ ?_
            with_reducible refine (impl_isCoordinate.calls ((rd_T39 l0 x7_1).f1) true _ A7.out).mono ?_
            rintro e w' ⟨rfl, ⟨nd, rfl⟩⟩
            refine ⟨_, rfl, ?_⟩
            refine hK.out _ _ ⟨(blk_cell BK274.out 0).trans rfl, (blk_cell BK274.out 1).trans rfl, ((HB.out.cell (World.block_lt_of_cell? w _ hw277_0)).trans hw277_0), ((HB.out.cell (World.block_lt_of_cell? w _ hw277_1)).trans hw277_1)⟩ (fun hHeld => ?_)
            clear hK K
            refine no_ (some 19) ?_
            refine pu_ HT_ 8 (some 20) #[T,T,T,T,T,T,T,T,T,F,F,F,F,F,F,F,F,F,F,F,F,F,F,F] ?_
            refine pu_ HT_ 9 (some 21) #[T,T,T,T,T,T,T,T,T,T,F,F,F,F,F,F,F,F,F,F,F,F,F,F] ?_
            refine pu_ HT_ 10 (some 22) #[T,T,T,T,T,T,T,T,T,T,T,F,F,F,F,F,F,F,F,F,F,F,F,F] ?_
            refine pu_ HT_ 11 (some 23) #[T,T,T,T,T,T,T,T,T,T,T,T,F,F,F,F,F,F,F,F,F,F,F,F] ?_
            refine pu_ HT_ 12 (some 24) #[T,T,T,T,T,T,T,T,T,T,T,T,T,F,F,F,F,F,F,F,F,F,F,F] ?_
            refine pu_ HT_ 13 (some 25) #[T,T,T,T,T,T,T,T,T,T,T,T,T,T,F,F,F,F,F,F,F,F,F,F] ?_
            refine pu_ HT_ 14 (some 26) #[T,T,T,T,T,T,T,T,T,T,T,T,T,T,T,F,F,F,F,F,F,F,F,F] ?_
            refine pu_ HT_ 15 (some 27) #[T,T,T,T,T,T,T,T,T,T,T,T,T,T,T,T,F,F,F,F,F,F,F,F] ?_
            refine pu_ HT_ 16 (some 28) #[T,T,T,T,T,T,T,T,T,T,T,T,T,T,T,T,T,F,F,F,F,F,F,F] ?_
            refine pu_ HT_ 17 (some 29) #[T,T,T,T,T,T,T,T,T,T,T,T,T,T,T,T,T,T,F,F,F,F,F,F] ?_
            refine take_ (i := 18) (N := some 30) (v := ?_) (a' := ?_) #[T, T, T, T, T, T, T, T, T, T, T, T, T, T, T, T, T, T, T, F, F, F, F, F] rfl rfl (take_ofW HT_.out HW_.out (by kernel_rfl)) (fun _ _ _ h => h) (Or.inl ⟨by rfl, ?_⟩) hHeld ?_ ?_
            rotate_left
            ·rintro w' ⟨s0, s1, s2, s3⟩
             go_simp
             with_reducible rfl
            rotate_left
            ·simp only [Act.put, List.setIfInBounds_toArray, List.set_cons_zero, List.set_cons_succ, i64_w, i32_w]
             rfl
            refine take_ (i := 19) (N := some 31) (v := ?_) (a' := ?_) #[T, T, T, T, T, T, T, T, T, T, T, T, T, T, T, T, T, T, T, T, F, F, F, F] rfl rfl (take_ofW HT_.out HW_.out (by kernel_rfl)) (fun _ _ _ h => h) (Or.inl ⟨by rfl, ?_⟩) hHeld ?_ ?_
            rotate_left
            ·rintro w' ⟨s0, s1, s2, s3⟩
             go_simp
             with_reducible rfl
            rotate_left
            ·simp only [Act.put, List.setIfInBounds_toArray, List.set_cons_zero, List.set_cons_succ, i64_w, i32_w]
             rfl
            refine one_ (i := 20) (N := some 32) #[T, T, T, T, T, T, T, T, T, T, T, T, T, T, T, T, T, T, T, T, T, F, F, F] rfl rfl (one_of HT_.out (by kernel_rfl)) (by decide) (fun K hK => ?_)
            refine goes_ Tryz.func60 (by kernel_rfl) rfl #[.agg #[.int .i64 ((rd_T39 l0 (ji10)).f0), .int .i64 ((rd_T39 l0 (ji10)).f1)], .agg #[.int .i64 ((rd_T39 l0 x7_1).f0), .int .i64 ((rd_T39 l0 x7_1).f1)]] (by rfl) rfl rfl (by (try simp only [List.map_toArray, List.map_cons, List.map_nil]); first | done | (simp only [hji10]; rfl) | rfl | (simp only [List.length_drop, List.length_take]; rfl)) ?_
            with_reducible refine (impl_compareCells.calls ((rd_T39 l0 (ji10)).f0) ((rd_T39 l0 (ji10)).f1) ((rd_T39 l0 x7_1).f0) ((rd_T39 l0 x7_1).f1) t278 _ A13.out).mono ?_
            rintro e w19 ⟨rfl, hb⟩
            refine ⟨_, rfl, ?_⟩
            replace BK274 := Aside0.mk (blk_below (g := gb274) (o := .cells #[.int .i64 ((rd_T39 l0 x7_1).f0), .int .i64 ((rd_T39 l0 x7_1).f1)] 39 (0, 0)) (by (with_reducible repeat (first | refine blk_drewN ?_ _ | refine blk_drew ?_ | refine blk_alloc ?_ _)); exact BK274.out) hb)
            replace HB := Aside0.mk (below_step (by repeat (first | (with_reducible first | exact HB.out | apply below_alloc | apply pw_below_drewN | apply below_drew1 | refine below_set ?_ GE274.out) | exact HB.out)) hb)
            (try clear hb)
            refine hK.out _ _ ⟨(blk_cell BK274.out 0).trans rfl, (blk_cell BK274.out 1).trans rfl, ((HB.out.cell (World.block_lt_of_cell? w _ hw277_0)).trans hw277_0), ((HB.out.cell (World.block_lt_of_cell? w _ hw277_1)).trans hw277_1)⟩ (fun hHeld => ?_)
            clear hK K
            refine no_ (some 32) ?_
            refine pu_ HT_ 21 (some 33) #[T,T,T,T,T,T,T,T,T,T,T,T,T,T,T,T,T,T,T,T,T,T,F,F] ?_
            refine pu_ HT_ 22 (some 34) #[T,T,T,T,T,T,T,T,T,T,T,T,T,T,T,T,T,T,T,T,T,T,T,F] ?_
            refine pu_ HT_ 23 (some 35) #[T,T,T,T,T,T,T,T,T,T,T,T,T,T,T,T,T,T,T,T,T,T,T,T] ?_
            refine done_ (done_of HT_.out (by kernel_rfl)) ?_
            try go_wp2
            go_ret
            exact ⟨by first | rfl | (simp [errW_none, errW_some] <;> rfl) | (simp only [← hji10]; first | rfl | (simp [errW_none, errW_some] <;> rfl)) | (simp [*, errW_none, errW_some] <;> rfl), by repeat (first | (with_reducible first | exact HB.out | apply below_alloc | apply pw_below_drewN | apply below_drew1 | refine below_set ?_ GE274.out) | exact HB.out)⟩
           ·rw [if_neg c14] at H
            have c14b0 : decide (0 ≤ t278) = false := decide_eq_false c14
            clear c14
            have H' := Aside0.mk H
            clear H
            have p273 : 0 ≤ (x7_1 : Int) := of_decide_eq_true aS_
            have q273 : x7_1 < (l0.length : Int) := of_decide_eq_true aS_
            obtain ⟨ad273, e273, hx273_0, hx273_1⟩ := at_T39 HR0.out x7_1 p273 q273
            cases e273
            replace hx273_0 := (HB.out.cell (World.block_lt_of_cell? w _ hx273_0)).trans hx273_0
            replace hx273_1 := (HB.out.cell (World.block_lt_of_cell? w _ hx273_1)).trans hx273_1
            replace p273 := eq_true p273
            replace q273 := eq_true q273
            try go_wp2_with (first | ((with_reducible refine gate_dst (N := 4) rfl ?_); refine box_event ?hg (N := 4) ?hd (cs := #[.int .i64 0, .int .i64 0]) (t := 39) ?hr ?_; (case hd => rfl); (case hg => rfl); (case hr => first | (go_simp; done) | (go_simp; rfl)); intro gb274 hg w20 hbox hb; have BK274 := Aside0.mk (hbox); have GW274 := Aside0.mk ((by rw [hg]; exact (below_size bB_) : w.heap.size ≤ gb274)); have GE274 := Aside0.mk ((by rw [hg]; exact (below_size bB_) : w.heap.size ≤ gb274)); replace HB := Aside0.mk (below_step bB_ hb); clear hb hbox hg; have hcz21_0 : w20.cell? ⟨gb274, 0, none⟩ = some (.int .i64 0) := (blk_cell BK274.out 0).trans rfl; have hcz21_1 : w20.cell? ⟨gb274, 1, none⟩ = some (.int .i64 0) := (blk_cell BK274.out 1).trans rfl; have hfz21_0 := blk_frozen BK274.out 0; have hfz21_1 := blk_frozen BK274.out 1))
            have n0_ : Aside0 (((w20.setCell ⟨gb274, 0, none⟩ (.int .i64 ((rd_T39 l0 x7_1).f0))).setCell ⟨gb274, 1, none⟩ (.int .i64 ((rd_T39 l0 x7_1).f1))).heap[gb274]? = some (.cells #[.int .i64 ((rd_T39 l0 x7_1).f0), .int .i64 ((rd_T39 l0 x7_1).f1)] 39 (0, 0))) := ⟨by (with_reducible repeat (first | refine blk_drewN ?_ _ | refine blk_drew ?_ | refine blk_alloc ?_ _)); refine blk_put (cs := #[.int .i64 ((rd_T39 l0 x7_1).f0), .int .i64 0]) ?_ 1 _ rfl; (with_reducible repeat (first | refine blk_drewN ?_ _ | refine blk_drew ?_ | refine blk_alloc ?_ _)); refine blk_put (cs := #[.int .i64 0, .int .i64 0]) ?_ 0 _ rfl; (with_reducible repeat (first | refine blk_drewN ?_ _ | refine blk_drew ?_ | refine blk_alloc ?_ _)); exact BK274.out⟩
            have n1_ : Aside0 (Below w.heap.size w ((w20.setCell ⟨gb274, 0, none⟩ (.int .i64 ((rd_T39 l0 x7_1).f0))).setCell ⟨gb274, 1, none⟩ (.int .i64 ((rd_T39 l0 x7_1).f1)))) := ⟨by repeat (first | (with_reducible first | exact HB.out | apply below_alloc | apply pw_below_drewN | apply below_drew1 | refine below_set ?_ GE274.out) | exact HB.out)⟩
            (try clear BK274)
            (try clear HB)
            generalize ((w20.setCell ⟨gb274, 0, none⟩ (.int .i64 ((rd_T39 l0 x7_1).f0))).setCell ⟨gb274, 1, none⟩ (.int .i64 ((rd_T39 l0 x7_1).f1))) = w22 at n0_ n1_ ⊢
            have BK274 := n0_
            have HB := n1_
            clear n0_ n1_
            replace BK274 := Aside0.mk (blk_drew BK274.out)
            replace HB := Aside0.mk (below_drew1 HB.out)
            have p277 : 0 ≤ ((ji10) : Int) := of_decide_eq_true aS_
            have q277 : (ji10) < (l0.length : Int) := of_decide_eq_true aS_
            obtain ⟨ad277, e277, hx277_0, hx277_1⟩ := at_T39 HR0.out (ji10) p277 q277
            have hw277_1 := hx277_1
            have hw277_0 := hx277_0
            obtain rfl : ad273 = ad277 := (by injection e277)
            replace hx277_0 := (HB.out.cell (World.block_lt_of_cell? w _ hx277_0)).trans hx277_0
            replace hx277_1 := (HB.out.cell (World.block_lt_of_cell? w _ hx277_1)).trans hx277_1
            replace p277 := eq_true p277
            replace q277 := eq_true q277
            refine start_ (n := 24) (S := fun w' => w'.cell? ⟨gb274, 0, none⟩ = some (.int .i64 ((rd_T39 l0 x7_1).f0)) ∧ w'.cell? ⟨gb274, 1, none⟩ = some (.int .i64 ((rd_T39 l0 x7_1).f1)) ∧ w'.cell? (ad273.add (((ji10)).toNat * 2)) = some (.int .i64 ((rd_T39 l0 (ji10)).f0)) ∧ w'.cell? ⟨(ad273.add (((ji10)).toNat * 2)).block, (ad273.add (((ji10)).toNat * 2)).off + 1, none⟩ = some (.int .i64 ((rd_T39 l0 (ji10)).f1))) (ds := []) #[F, F, F, F, F, F, F, F, F, F, F, F, F, F, F, F, F, F, F, F, F, F, F, F] (by kernel_rfl) rfl rfl ⟨(blk_cell BK274.out 0).trans rfl, (blk_cell BK274.out 1).trans rfl, ((HB.out.cell (World.block_lt_of_cell? w _ hw277_0)).trans hw277_0), ((HB.out.cell (World.block_lt_of_cell? w _ hw277_1)).trans hw277_1)⟩ (fun hHeld => ?_); refine with_tabW impl_IsShape.tab4 impl_IsShape.bits4 (fun HT_ HW_ => ?_)
            generalize w22.drew = w23 at BK274 HB hx277_0 hx277_1 hHeld ⊢
            refine pu_ HT_ 0 (some 12) #[T,F,F,F,F,F,F,F,F,F,F,F,F,F,F,F,F,F,F,F,F,F,F,F] ?_
            refine take_ (i := 1) (N := some 13) (v := ?_) (a' := ?_) #[T, T, F, F, F, F, F, F, F, F, F, F, F, F, F, F, F, F, F, F, F, F, F, F] rfl rfl (take_ofW HT_.out HW_.out (by kernel_rfl)) (fun _ _ _ h => h) (Or.inl ⟨by rfl, ?_⟩) hHeld ?_ ?_
            rotate_left
            ·rintro w' ⟨s0, s1, s2, s3⟩
             go_simp
             with_reducible rfl
            rotate_left
            ·simp only [Act.put, List.setIfInBounds_toArray, List.set_cons_zero, List.set_cons_succ, i64_w, i32_w]
             rfl
            refine one_ (i := 2) (N := some 14) #[T, T, T, F, F, F, F, F, F, F, F, F, F, F, F, F, F, F, F, F, F, F, F, F] rfl rfl (one_of HT_.out (by kernel_rfl)) (by decide) (fun K hK => ?_)
            refine goes_ Tryz.func59 (by kernel_rfl) rfl #[.int .i64 ((rd_T39 l0 x7_1).f0)] (by rfl) rfl rfl mA_ ?_
            with_reducible refine (impl_isCoordinate.calls ((rd_T39 l0 x7_1).f0) true _ A5.out).mono ?_
            rintro e w' ⟨rfl, ⟨nd, rfl⟩⟩
            refine ⟨_, rfl, ?_⟩
            refine hK.out _ _ ⟨(blk_cell BK274.out 0).trans rfl, (blk_cell BK274.out 1).trans rfl, ((HB.out.cell (World.block_lt_of_cell? w _ hw277_0)).trans hw277_0), ((HB.out.cell (World.block_lt_of_cell? w _ hw277_1)).trans hw277_1)⟩ (fun hHeld => ?_)
            clear hK K
            refine no_ (some 14) ?_
            refine pu_ HT_ 3 (some 15) #[T,T,T,T,F,F,F,F,F,F,F,F,F,F,F,F,F,F,F,F,F,F,F,F] ?_
            refine pu_ HT_ 4 (some 16) #[T,T,T,T,T,F,F,F,F,F,F,F,F,F,F,F,F,F,F,F,F,F,F,F] ?_
            refine pu_ HT_ 5 (some 17) #[T,T,T,T,T,T,F,F,F,F,F,F,F,F,F,F,F,F,F,F,F,F,F,F] ?_
            refine take_ (i := 6) (N := some 18) (v := ?_) (a' := ?_) #[T, T, T, T, T, T, T, F, F, F, F, F, F, F, F, F, F, F, F, F, F, F, F, F] rfl rfl (take_ofW HT_.out HW_.out (by kernel_rfl)) (fun _ _ _ h => h) (Or.inl ⟨by rfl, ?_⟩) hHeld ?_ ?_
            rotate_left
            ·rintro w' ⟨s0, s1, s2, s3⟩
             go_simp
             with_reducible rfl
            rotate_left
            ·simp only [Act.put, List.setIfInBounds_toArray, List.set_cons_zero, List.set_cons_succ, i64_w, i32_w]
             rfl
            refine one_ (i := 7) (N := some 19) #[T, T, T, T, T, T, T, T, F, F, F, F, F, F, F, F, F, F, F, F, F, F, F, F] rfl rfl (one_of HT_.out (by kernel_rfl)) (by decide) (fun K hK => ?_)
            refine goes_ Tryz.func59 (by kernel_rfl) rfl #[.int .i64 ((rd_T39 l0 x7_1).f1)] (by rfl) rfl rfl mA_ ?_
            with_reducible refine (impl_isCoordinate.calls ((rd_T39 l0 x7_1).f1) true _ A7.out).mono ?_
            rintro e w' ⟨rfl, ⟨nd, rfl⟩⟩
            refine ⟨_, rfl, ?_⟩
            refine hK.out _ _ ⟨(blk_cell BK274.out 0).trans rfl, (blk_cell BK274.out 1).trans rfl, ((HB.out.cell (World.block_lt_of_cell? w _ hw277_0)).trans hw277_0), ((HB.out.cell (World.block_lt_of_cell? w _ hw277_1)).trans hw277_1)⟩ (fun hHeld => ?_)
            clear hK K
            refine no_ (some 19) ?_
            refine pu_ HT_ 8 (some 20) #[T,T,T,T,T,T,T,T,T,F,F,F,F,F,F,F,F,F,F,F,F,F,F,F] ?_
            refine pu_ HT_ 9 (some 21) #[T,T,T,T,T,T,T,T,T,T,F,F,F,F,F,F,F,F,F,F,F,F,F,F] ?_
            refine pu_ HT_ 10 (some 22) #[T,T,T,T,T,T,T,T,T,T,T,F,F,F,F,F,F,F,F,F,F,F,F,F] ?_
            refine pu_ HT_ 11 (some 23) #[T,T,T,T,T,T,T,T,T,T,T,T,F,F,F,F,F,F,F,F,F,F,F,F] ?_
            refine pu_ HT_ 12 (some 24) #[T,T,T,T,T,T,T,T,T,T,T,T,T,F,F,F,F,F,F,F,F,F,F,F] ?_
            refine pu_ HT_ 13 (some 25) #[T,T,T,T,T,T,T,T,T,T,T,T,T,T,F,F,F,F,F,F,F,F,F,F] ?_
            refine pu_ HT_ 14 (some 26) #[T,T,T,T,T,T,T,T,T,T,T,T,T,T,T,F,F,F,F,F,F,F,F,F] ?_
            refine pu_ HT_ 15 (some 27) #[T,T,T,T,T,T,T,T,T,T,T,T,T,T,T,T,F,F,F,F,F,F,F,F] ?_
            refine pu_ HT_ 16 (some 28) #[T,T,T,T,T,T,T,T,T,T,T,T,T,T,T,T,T,F,F,F,F,F,F,F] ?_
            refine pu_ HT_ 17 (some 29) #[T,T,T,T,T,T,T,T,T,T,T,T,T,T,T,T,T,T,F,F,F,F,F,F] ?_
            refine take_ (i := 18) (N := some 30) (v := ?_) (a' := ?_) #[T, T, T, T, T, T, T, T, T, T, T, T, T, T, T, T, T, T, T, F, F, F, F, F] rfl rfl (take_ofW HT_.out HW_.out (by kernel_rfl)) (fun _ _ _ h => h) (Or.inl ⟨by rfl, ?_⟩) hHeld ?_ ?_
            rotate_left
            ·rintro w' ⟨s0, s1, s2, s3⟩
             go_simp
             with_reducible rfl
            rotate_left
            ·simp only [Act.put, List.setIfInBounds_toArray, List.set_cons_zero, List.set_cons_succ, i64_w, i32_w]
             rfl
            refine take_ (i := 19) (N := some 31) (v := ?_) (a' := ?_) #[T, T, T, T, T, T, T, T, T, T, T, T, T, T, T, T, T, T, T, T, F, F, F, F] rfl rfl (take_ofW HT_.out HW_.out (by kernel_rfl)) (fun _ _ _ h => h) (Or.inl ⟨by rfl, ?_⟩) hHeld ?_ ?_
            rotate_left
            ·rintro w' ⟨s0, s1, s2, s3⟩
             go_simp
             with_reducible rfl
            rotate_left
            ·simp only [Act.put, List.setIfInBounds_toArray, List.set_cons_zero, List.set_cons_succ, i64_w, i32_w]
             rfl
            refine one_ (i := 20) (N := some 32) #[T, T, T, T, T, T, T, T, T, T, T, T, T, T, T, T, T, T, T, T, T, F, F, F] rfl rfl (one_of HT_.out (by kernel_rfl)) (by decide) (fun K hK => ?_)
            refine goes_ Tryz.func60 (by kernel_rfl) rfl #[.agg #[.int .i64 ((rd_T39 l0 (ji10)).f0), .int .i64 ((rd_T39 l0 (ji10)).f1)], .agg #[.int .i64 ((rd_T39 l0 x7_1).f0), .int .i64 ((rd_T39 l0 x7_1).f1)]] (by rfl) rfl rfl (by (try simp only [List.map_toArray, List.map_cons, List.map_nil]); first | done | (simp only [hji10]; rfl) | rfl | (simp only [List.length_drop, List.length_take]; rfl)) ?_
            with_reducible refine (impl_compareCells.calls ((rd_T39 l0 (ji10)).f0) ((rd_T39 l0 (ji10)).f1) ((rd_T39 l0 x7_1).f0) ((rd_T39 l0 x7_1).f1) t278 _ A13.out).mono ?_
            rintro e w24 ⟨rfl, hb⟩
            refine ⟨_, rfl, ?_⟩
            replace BK274 := Aside0.mk (blk_below (g := gb274) (o := .cells #[.int .i64 ((rd_T39 l0 x7_1).f0), .int .i64 ((rd_T39 l0 x7_1).f1)] 39 (0, 0)) (by (with_reducible repeat (first | refine blk_drewN ?_ _ | refine blk_drew ?_ | refine blk_alloc ?_ _)); exact BK274.out) hb)
            replace HB := Aside0.mk (below_step (by repeat (first | (with_reducible first | exact HB.out | apply below_alloc | apply pw_below_drewN | apply below_drew1 | refine below_set ?_ GE274.out) | exact HB.out)) hb)
            (try clear hb)
            refine hK.out _ _ ⟨(blk_cell BK274.out 0).trans rfl, (blk_cell BK274.out 1).trans rfl, ((HB.out.cell (World.block_lt_of_cell? w _ hw277_0)).trans hw277_0), ((HB.out.cell (World.block_lt_of_cell? w _ hw277_1)).trans hw277_1)⟩ (fun hHeld => ?_)
            clear hK K
            refine no_ (some 32) ?_
            refine pu_ HT_ 21 (some 33) #[T,T,T,T,T,T,T,T,T,T,T,T,T,T,T,T,T,T,T,T,T,T,F,F] ?_
            refine pu_ HT_ 22 (some 34) #[T,T,T,T,T,T,T,T,T,T,T,T,T,T,T,T,T,T,T,T,T,T,T,F] ?_
            refine pu_ HT_ 23 (some 35) #[T,T,T,T,T,T,T,T,T,T,T,T,T,T,T,T,T,T,T,T,T,T,T,T] ?_
            refine done_ (done_of HT_.out (by kernel_rfl)) ?_
            try go_wp2
            go_roundg k1
            case measure => have := HK1.out; omega
            case rel => exact ⟨(wrap64 (x7_1 + 1)), r3_, H', ⟨by have := HK1.out; omega⟩, ⟨by repeat (first | (with_reducible first | exact HB.out | apply below_alloc | apply pw_below_drewN | apply below_drew1 | refine below_set ?_ GE274.out) | exact HB.out)⟩⟩
          ·rw [if_neg c12] at H
           exact absurd H (by simp)
         ·rw [if_neg c11] at H
          exact absurd H (by simp)
        ·rw [if_neg c9] at H
         have c9b0 : decide (0 < x7_1) = false := decide_eq_false c9
         clear c9
         have H' := Aside0.mk H
         clear H
         have p273 : 0 ≤ (x7_1 : Int) := of_decide_eq_true aS_
         have q273 : x7_1 < (l0.length : Int) := of_decide_eq_true aS_
         obtain ⟨ad273, e273, hx273_0, hx273_1⟩ := at_T39 HR0.out x7_1 p273 q273
         cases e273
         replace hx273_0 := (HB.out.cell (World.block_lt_of_cell? w _ hx273_0)).trans hx273_0
         replace hx273_1 := (HB.out.cell (World.block_lt_of_cell? w _ hx273_1)).trans hx273_1
         replace p273 := eq_true p273
         replace q273 := eq_true q273
         try go_wp2_with (first | ((with_reducible refine gate_dst (N := 4) rfl ?_); refine box_event ?hg (N := 4) ?hd (cs := #[.int .i64 0, .int .i64 0]) (t := 39) ?hr ?_; (case hd => rfl); (case hg => rfl); (case hr => first | (go_simp; done) | (go_simp; rfl)); intro gb274 hg w25 hbox hb; have BK274 := Aside0.mk (hbox); have GW274 := Aside0.mk ((by rw [hg]; exact (below_size bB_) : w.heap.size ≤ gb274)); have GE274 := Aside0.mk ((by rw [hg]; exact (below_size bB_) : w.heap.size ≤ gb274)); replace HB := Aside0.mk (below_step bB_ hb); clear hb hbox hg; have hcz26_0 : w25.cell? ⟨gb274, 0, none⟩ = some (.int .i64 0) := (blk_cell BK274.out 0).trans rfl; have hcz26_1 : w25.cell? ⟨gb274, 1, none⟩ = some (.int .i64 0) := (blk_cell BK274.out 1).trans rfl; have hfz26_0 := blk_frozen BK274.out 0; have hfz26_1 := blk_frozen BK274.out 1))
         have n0_ : Aside0 (((w25.setCell ⟨gb274, 0, none⟩ (.int .i64 ((rd_T39 l0 x7_1).f0))).setCell ⟨gb274, 1, none⟩ (.int .i64 ((rd_T39 l0 x7_1).f1))).heap[gb274]? = some (.cells #[.int .i64 ((rd_T39 l0 x7_1).f0), .int .i64 ((rd_T39 l0 x7_1).f1)] 39 (0, 0))) := ⟨by (with_reducible repeat (first | refine blk_drewN ?_ _ | refine blk_drew ?_ | refine blk_alloc ?_ _)); refine blk_put (cs := #[.int .i64 ((rd_T39 l0 x7_1).f0), .int .i64 0]) ?_ 1 _ rfl; (with_reducible repeat (first | refine blk_drewN ?_ _ | refine blk_drew ?_ | refine blk_alloc ?_ _)); refine blk_put (cs := #[.int .i64 0, .int .i64 0]) ?_ 0 _ rfl; (with_reducible repeat (first | refine blk_drewN ?_ _ | refine blk_drew ?_ | refine blk_alloc ?_ _)); exact BK274.out⟩
         have n1_ : Aside0 (Below w.heap.size w ((w25.setCell ⟨gb274, 0, none⟩ (.int .i64 ((rd_T39 l0 x7_1).f0))).setCell ⟨gb274, 1, none⟩ (.int .i64 ((rd_T39 l0 x7_1).f1)))) := ⟨by repeat (first | (with_reducible first | exact HB.out | apply below_alloc | apply pw_below_drewN | apply below_drew1 | refine below_set ?_ GE274.out) | exact HB.out)⟩
         (try clear BK274)
         (try clear HB)
         generalize ((w25.setCell ⟨gb274, 0, none⟩ (.int .i64 ((rd_T39 l0 x7_1).f0))).setCell ⟨gb274, 1, none⟩ (.int .i64 ((rd_T39 l0 x7_1).f1))) = w27 at n0_ n1_ ⊢
         have BK274 := n0_
         have HB := n1_
         clear n0_ n1_
         replace BK274 := Aside0.mk (blk_drew BK274.out)
         replace HB := Aside0.mk (below_drew1 HB.out)
         refine start_ (n := 24) (S := fun w' => w'.cell? ⟨gb274, 0, none⟩ = some (.int .i64 ((rd_T39 l0 x7_1).f0)) ∧ w'.cell? ⟨gb274, 1, none⟩ = some (.int .i64 ((rd_T39 l0 x7_1).f1))) (ds := []) #[F, F, F, F, F, F, F, F, F, F, F, F, F, F, F, F, F, F, F, F, F, F, F, F] (by kernel_rfl) rfl rfl ⟨(blk_cell BK274.out 0).trans rfl, (blk_cell BK274.out 1).trans rfl⟩ (fun hHeld => ?_); refine with_tabW impl_IsShape.tab4 impl_IsShape.bits4 (fun HT_ HW_ => ?_)
         generalize w27.drew = w28 at BK274 HB hHeld ⊢
         refine pu_ HT_ 0 (some 12) #[T,F,F,F,F,F,F,F,F,F,F,F,F,F,F,F,F,F,F,F,F,F,F,F] ?_
         refine take_ (i := 1) (N := some 13) (v := ?_) (a' := ?_) #[T, T, F, F, F, F, F, F, F, F, F, F, F, F, F, F, F, F, F, F, F, F, F, F] rfl rfl (take_ofW HT_.out HW_.out (by kernel_rfl)) (fun _ _ _ h => h) (Or.inl ⟨by rfl, ?_⟩) hHeld ?_ ?_
         rotate_left
         ·rintro w' ⟨s0, s1⟩
          go_simp
          with_reducible rfl
         rotate_left
         ·simp only [Act.put, List.setIfInBounds_toArray, List.set_cons_zero, List.set_cons_succ, i64_w, i32_w]
          rfl
         refine one_ (i := 2) (N := some 14) #[T, T, T, F, F, F, F, F, F, F, F, F, F, F, F, F, F, F, F, F, F, F, F, F] rfl rfl (one_of HT_.out (by kernel_rfl)) (by decide) (fun K hK => ?_)
         refine goes_ Tryz.func59 (by kernel_rfl) rfl #[.int .i64 ((rd_T39 l0 x7_1).f0)] (by rfl) rfl rfl mA_ ?_
         with_reducible refine (impl_isCoordinate.calls ((rd_T39 l0 x7_1).f0) true _ A5.out).mono ?_
         rintro e w' ⟨rfl, ⟨nd, rfl⟩⟩
         refine ⟨_, rfl, ?_⟩
         refine hK.out _ _ ⟨(blk_cell BK274.out 0).trans rfl, (blk_cell BK274.out 1).trans rfl⟩ (fun hHeld => ?_)
         clear hK K
         refine no_ (some 14) ?_
         refine pu_ HT_ 3 (some 15) #[T,T,T,T,F,F,F,F,F,F,F,F,F,F,F,F,F,F,F,F,F,F,F,F] ?_
         refine pu_ HT_ 4 (some 16) #[T,T,T,T,T,F,F,F,F,F,F,F,F,F,F,F,F,F,F,F,F,F,F,F] ?_
         refine pu_ HT_ 5 (some 17) #[T,T,T,T,T,T,F,F,F,F,F,F,F,F,F,F,F,F,F,F,F,F,F,F] ?_
         refine take_ (i := 6) (N := some 18) (v := ?_) (a' := ?_) #[T, T, T, T, T, T, T, F, F, F, F, F, F, F, F, F, F, F, F, F, F, F, F, F] rfl rfl (take_ofW HT_.out HW_.out (by kernel_rfl)) (fun _ _ _ h => h) (Or.inl ⟨by rfl, ?_⟩) hHeld ?_ ?_
         rotate_left
         ·rintro w' ⟨s0, s1⟩
          go_simp
          with_reducible rfl
         rotate_left
         ·simp only [Act.put, List.setIfInBounds_toArray, List.set_cons_zero, List.set_cons_succ, i64_w, i32_w]
          rfl
         refine one_ (i := 7) (N := some 19) #[T, T, T, T, T, T, T, T, F, F, F, F, F, F, F, F, F, F, F, F, F, F, F, F] rfl rfl (one_of HT_.out (by kernel_rfl)) (by decide) (fun K hK => ?_)
         refine goes_ Tryz.func59 (by kernel_rfl) rfl #[.int .i64 ((rd_T39 l0 x7_1).f1)] (by rfl) rfl rfl mA_ ?_
         with_reducible refine (impl_isCoordinate.calls ((rd_T39 l0 x7_1).f1) true _ A7.out).mono ?_
         rintro e w' ⟨rfl, ⟨nd, rfl⟩⟩
         refine ⟨_, rfl, ?_⟩
         refine hK.out _ _ ⟨(blk_cell BK274.out 0).trans rfl, (blk_cell BK274.out 1).trans rfl⟩ (fun hHeld => ?_)
         clear hK K
         refine no_ (some 19) ?_
         refine pu_ HT_ 8 (some 20) #[T,T,T,T,T,T,T,T,T,F,F,F,F,F,F,F,F,F,F,F,F,F,F,F] ?_
         refine pu_ HT_ 9 (some 21) #[T,T,T,T,T,T,T,T,T,T,F,F,F,F,F,F,F,F,F,F,F,F,F,F] ?_
         refine pu_ HT_ 10 (some 22) #[T,T,T,T,T,T,T,T,T,T,T,F,F,F,F,F,F,F,F,F,F,F,F,F] ?_
         refine pu_ HT_ 11 (some 23) #[T,T,T,T,T,T,T,T,T,T,T,T,F,F,F,F,F,F,F,F,F,F,F,F] ?_
         refine pu_ HT_ 12 (some 24) #[T,T,T,T,T,T,T,T,T,T,T,T,T,F,F,F,F,F,F,F,F,F,F,F] ?_
         refine pu_ HT_ 13 (some 25) #[T,T,T,T,T,T,T,T,T,T,T,T,T,T,F,F,F,F,F,F,F,F,F,F] ?_
         refine pn_ HT_ 14 (some 26) #[T,T,T,T,T,T,T,T,T,T,T,T,T,T,T,F,F,F,F,F,F,F,F,F] ?_
         refine pn_ HT_ 15 (some 27) #[T,T,T,T,T,T,T,T,T,T,T,T,T,T,T,T,F,F,F,F,F,F,F,F] ?_
         refine pn_ HT_ 16 (some 28) #[T,T,T,T,T,T,T,T,T,T,T,T,T,T,T,T,T,F,F,F,F,F,F,F] ?_
         refine pn_ HT_ 17 (some 29) #[T,T,T,T,T,T,T,T,T,T,T,T,T,T,T,T,T,T,F,F,F,F,F,F] ?_
         refine pn_ HT_ 18 (some 30) #[T,T,T,T,T,T,T,T,T,T,T,T,T,T,T,T,T,T,T,F,F,F,F,F] ?_
         refine pn_ HT_ 19 (some 31) #[T,T,T,T,T,T,T,T,T,T,T,T,T,T,T,T,T,T,T,T,F,F,F,F] ?_
         refine pn_ HT_ 20 (some 32) #[T,T,T,T,T,T,T,T,T,T,T,T,T,T,T,T,T,T,T,T,T,F,F,F] ?_
         refine pn_ HT_ 21 (some 33) #[T,T,T,T,T,T,T,T,T,T,T,T,T,T,T,T,T,T,T,T,T,T,F,F] ?_
         refine pu_ HT_ 22 (some 34) #[T,T,T,T,T,T,T,T,T,T,T,T,T,T,T,T,T,T,T,T,T,T,T,F] ?_
         refine pu_ HT_ 23 (some 35) #[T,T,T,T,T,T,T,T,T,T,T,T,T,T,T,T,T,T,T,T,T,T,T,T] ?_
         refine done_ (done_of HT_.out (by kernel_rfl)) ?_
         try go_wp2
         go_roundg k1
         case measure => have := HK1.out; omega
         case rel => exact ⟨(wrap64 (x7_1 + 1)), r3_, H', ⟨by have := HK1.out; omega⟩, ⟨by repeat (first | (with_reducible first | exact HB.out | apply below_alloc | apply pw_below_drewN | apply below_drew1 | refine below_set ?_ GE274.out) | exact HB.out)⟩⟩
       ·replace c8 := Bool.eq_false_iff.mpr c8
        subst c8
        have H1 : (some false) = some r := by rw [if_neg (show ¬ (false = true) by decide)] at H; exact H
        clear H
        have H := H1
        clear H1
        obtain rfl := Option.some.inj H
        have p273 : 0 ≤ (x7_1 : Int) := of_decide_eq_true aS_
        have q273 : x7_1 < (l0.length : Int) := of_decide_eq_true aS_
        obtain ⟨ad273, e273, hx273_0, hx273_1⟩ := at_T39 HR0.out x7_1 p273 q273
        cases e273
        replace hx273_0 := (HB.out.cell (World.block_lt_of_cell? w _ hx273_0)).trans hx273_0
        replace hx273_1 := (HB.out.cell (World.block_lt_of_cell? w _ hx273_1)).trans hx273_1
        replace p273 := eq_true p273
        replace q273 := eq_true q273
        try go_wp2_with (first | ((with_reducible refine gate_dst (N := 4) rfl ?_); refine box_event ?hg (N := 4) ?hd (cs := #[.int .i64 0, .int .i64 0]) (t := 39) ?hr ?_; (case hd => rfl); (case hg => rfl); (case hr => first | (go_simp; done) | (go_simp; rfl)); intro gb274 hg w29 hbox hb; have BK274 := Aside0.mk (hbox); have GW274 := Aside0.mk ((by rw [hg]; exact (below_size bB_) : w.heap.size ≤ gb274)); have GE274 := Aside0.mk ((by rw [hg]; exact (below_size bB_) : w.heap.size ≤ gb274)); replace HB := Aside0.mk (below_step bB_ hb); clear hb hbox hg; have hcz30_0 : w29.cell? ⟨gb274, 0, none⟩ = some (.int .i64 0) := (blk_cell BK274.out 0).trans rfl; have hcz30_1 : w29.cell? ⟨gb274, 1, none⟩ = some (.int .i64 0) := (blk_cell BK274.out 1).trans rfl; have hfz30_0 := blk_frozen BK274.out 0; have hfz30_1 := blk_frozen BK274.out 1))
        have n0_ : Aside0 (((w29.setCell ⟨gb274, 0, none⟩ (.int .i64 ((rd_T39 l0 x7_1).f0))).setCell ⟨gb274, 1, none⟩ (.int .i64 ((rd_T39 l0 x7_1).f1))).heap[gb274]? = some (.cells #[.int .i64 ((rd_T39 l0 x7_1).f0), .int .i64 ((rd_T39 l0 x7_1).f1)] 39 (0, 0))) := ⟨by (with_reducible repeat (first | refine blk_drewN ?_ _ | refine blk_drew ?_ | refine blk_alloc ?_ _)); refine blk_put (cs := #[.int .i64 ((rd_T39 l0 x7_1).f0), .int .i64 0]) ?_ 1 _ rfl; (with_reducible repeat (first | refine blk_drewN ?_ _ | refine blk_drew ?_ | refine blk_alloc ?_ _)); refine blk_put (cs := #[.int .i64 0, .int .i64 0]) ?_ 0 _ rfl; (with_reducible repeat (first | refine blk_drewN ?_ _ | refine blk_drew ?_ | refine blk_alloc ?_ _)); exact BK274.out⟩
        have n1_ : Aside0 (Below w.heap.size w ((w29.setCell ⟨gb274, 0, none⟩ (.int .i64 ((rd_T39 l0 x7_1).f0))).setCell ⟨gb274, 1, none⟩ (.int .i64 ((rd_T39 l0 x7_1).f1)))) := ⟨by repeat (first | (with_reducible first | exact HB.out | apply below_alloc | apply pw_below_drewN | apply below_drew1 | refine below_set ?_ GE274.out) | exact HB.out)⟩
        (try clear BK274)
        (try clear HB)
        generalize ((w29.setCell ⟨gb274, 0, none⟩ (.int .i64 ((rd_T39 l0 x7_1).f0))).setCell ⟨gb274, 1, none⟩ (.int .i64 ((rd_T39 l0 x7_1).f1))) = w31 at n0_ n1_ ⊢
        have BK274 := n0_
        have HB := n1_
        clear n0_ n1_
        replace BK274 := Aside0.mk (blk_drew BK274.out)
        replace HB := Aside0.mk (below_drew1 HB.out)
        refine start_ (n := 24) (S := fun w' => w'.cell? ⟨gb274, 0, none⟩ = some (.int .i64 ((rd_T39 l0 x7_1).f0)) ∧ w'.cell? ⟨gb274, 1, none⟩ = some (.int .i64 ((rd_T39 l0 x7_1).f1))) (ds := []) #[F, F, F, F, F, F, F, F, F, F, F, F, F, F, F, F, F, F, F, F, F, F, F, F] (by kernel_rfl) rfl rfl ⟨(blk_cell BK274.out 0).trans rfl, (blk_cell BK274.out 1).trans rfl⟩ (fun hHeld => ?_); refine with_tabW impl_IsShape.tab4 impl_IsShape.bits4 (fun HT_ HW_ => ?_)
        generalize w31.drew = w32 at BK274 HB hHeld ⊢
        refine pu_ HT_ 0 (some 12) #[T,F,F,F,F,F,F,F,F,F,F,F,F,F,F,F,F,F,F,F,F,F,F,F] ?_
        refine take_ (i := 1) (N := some 13) (v := ?_) (a' := ?_) #[T, T, F, F, F, F, F, F, F, F, F, F, F, F, F, F, F, F, F, F, F, F, F, F] rfl rfl (take_ofW HT_.out HW_.out (by kernel_rfl)) (fun _ _ _ h => h) (Or.inl ⟨by rfl, ?_⟩) hHeld ?_ ?_
        rotate_left
        ·rintro w' ⟨s0, s1⟩
         go_simp
         with_reducible rfl
        rotate_left
        ·simp only [Act.put, List.setIfInBounds_toArray, List.set_cons_zero, List.set_cons_succ, i64_w, i32_w]
         rfl
        refine one_ (i := 2) (N := some 14) #[T, T, T, F, F, F, F, F, F, F, F, F, F, F, F, F, F, F, F, F, F, F, F, F] rfl rfl (one_of HT_.out (by kernel_rfl)) (by decide) (fun K hK => ?_)
        refine goes_ Tryz.func59 (by kernel_rfl) rfl #[.int .i64 ((rd_T39 l0 x7_1).f0)] (by rfl) rfl rfl mA_ ?_
        with_reducible refine (impl_isCoordinate.calls ((rd_T39 l0 x7_1).f0) true _ A5.out).mono ?_
        rintro e w' ⟨rfl, ⟨nd, rfl⟩⟩
        refine ⟨_, rfl, ?_⟩
        refine hK.out _ _ ⟨(blk_cell BK274.out 0).trans rfl, (blk_cell BK274.out 1).trans rfl⟩ (fun hHeld => ?_)
        clear hK K
        refine no_ (some 14) ?_
        refine pu_ HT_ 3 (some 15) #[T,T,T,T,F,F,F,F,F,F,F,F,F,F,F,F,F,F,F,F,F,F,F,F] ?_
        refine pu_ HT_ 4 (some 16) #[T,T,T,T,T,F,F,F,F,F,F,F,F,F,F,F,F,F,F,F,F,F,F,F] ?_
        refine pu_ HT_ 5 (some 17) #[T,T,T,T,T,T,F,F,F,F,F,F,F,F,F,F,F,F,F,F,F,F,F,F] ?_
        refine take_ (i := 6) (N := some 18) (v := ?_) (a' := ?_) #[T, T, T, T, T, T, T, F, F, F, F, F, F, F, F, F, F, F, F, F, F, F, F, F] rfl rfl (take_ofW HT_.out HW_.out (by kernel_rfl)) (fun _ _ _ h => h) (Or.inl ⟨by rfl, ?_⟩) hHeld ?_ ?_
        rotate_left
        ·rintro w' ⟨s0, s1⟩
         go_simp
         with_reducible rfl
        rotate_left
        ·simp only [Act.put, List.setIfInBounds_toArray, List.set_cons_zero, List.set_cons_succ, i64_w, i32_w]
         rfl
        refine one_ (i := 7) (N := some 19) #[T, T, T, T, T, T, T, T, F, F, F, F, F, F, F, F, F, F, F, F, F, F, F, F] rfl rfl (one_of HT_.out (by kernel_rfl)) (by decide) (fun K hK => ?_)
        refine goes_ Tryz.func59 (by kernel_rfl) rfl #[.int .i64 ((rd_T39 l0 x7_1).f1)] (by rfl) rfl rfl mA_ ?_
        with_reducible refine (impl_isCoordinate.calls ((rd_T39 l0 x7_1).f1) false _ A7.out).mono ?_
        rintro e w' ⟨rfl, ⟨nd, rfl⟩⟩
        refine ⟨_, rfl, ?_⟩
        refine hK.out _ _ ⟨(blk_cell BK274.out 0).trans rfl, (blk_cell BK274.out 1).trans rfl⟩ (fun hHeld => ?_)
        clear hK K
        refine no_ (some 19) ?_
        refine pu_ HT_ 8 (some 20) #[T,T,T,T,T,T,T,T,T,F,F,F,F,F,F,F,F,F,F,F,F,F,F,F] ?_
        refine pu_ HT_ 9 (some 21) #[T,T,T,T,T,T,T,T,T,T,F,F,F,F,F,F,F,F,F,F,F,F,F,F] ?_
        refine pu_ HT_ 10 (some 22) #[T,T,T,T,T,T,T,T,T,T,T,F,F,F,F,F,F,F,F,F,F,F,F,F] ?_
        refine pn_ HT_ 11 (some 23) #[T,T,T,T,T,T,T,T,T,T,T,T,F,F,F,F,F,F,F,F,F,F,F,F] ?_
        refine pn_ HT_ 12 (some 24) #[T,T,T,T,T,T,T,T,T,T,T,T,T,F,F,F,F,F,F,F,F,F,F,F] ?_
        refine pn_ HT_ 13 (some 25) #[T,T,T,T,T,T,T,T,T,T,T,T,T,T,F,F,F,F,F,F,F,F,F,F] ?_
        refine pn_ HT_ 14 (some 26) #[T,T,T,T,T,T,T,T,T,T,T,T,T,T,T,F,F,F,F,F,F,F,F,F] ?_
        refine pn_ HT_ 15 (some 27) #[T,T,T,T,T,T,T,T,T,T,T,T,T,T,T,T,F,F,F,F,F,F,F,F] ?_
        refine pn_ HT_ 16 (some 28) #[T,T,T,T,T,T,T,T,T,T,T,T,T,T,T,T,T,F,F,F,F,F,F,F] ?_
        refine pn_ HT_ 17 (some 29) #[T,T,T,T,T,T,T,T,T,T,T,T,T,T,T,T,T,T,F,F,F,F,F,F] ?_
        refine pn_ HT_ 18 (some 30) #[T,T,T,T,T,T,T,T,T,T,T,T,T,T,T,T,T,T,T,F,F,F,F,F] ?_
        refine pn_ HT_ 19 (some 31) #[T,T,T,T,T,T,T,T,T,T,T,T,T,T,T,T,T,T,T,T,F,F,F,F] ?_
        refine pn_ HT_ 20 (some 32) #[T,T,T,T,T,T,T,T,T,T,T,T,T,T,T,T,T,T,T,T,T,F,F,F] ?_
        refine pn_ HT_ 21 (some 33) #[T,T,T,T,T,T,T,T,T,T,T,T,T,T,T,T,T,T,T,T,T,T,F,F] ?_
        refine pn_ HT_ 22 (some 34) #[T,T,T,T,T,T,T,T,T,T,T,T,T,T,T,T,T,T,T,T,T,T,T,F] ?_
        refine pu_ HT_ 23 (some 35) #[T,T,T,T,T,T,T,T,T,T,T,T,T,T,T,T,T,T,T,T,T,T,T,T] ?_
        refine done_ (done_of HT_.out (by kernel_rfl)) ?_
        try go_wp2
        go_ret
        exact ⟨r2_, by repeat (first | (with_reducible first | exact HB.out | apply below_alloc | apply pw_below_drewN | apply below_drew1 | refine below_set ?_ GE274.out) | exact HB.out)⟩
      ·replace c6 := Bool.eq_false_iff.mpr c6
       subst c6
       have H1 : (some false) = some r := by rw [if_neg (show ¬ (false = true) by decide)] at H; exact H
       clear H
       have H := H1
       clear H1
       obtain rfl := Option.some.inj H
       have p273 : 0 ≤ (x7_1 : Int) := of_decide_eq_true aS_
       have q273 : x7_1 < (l0.length : Int) := of_decide_eq_true aS_
       obtain ⟨ad273, e273, hx273_0, hx273_1⟩ := at_T39 HR0.out x7_1 p273 q273
       cases e273
       replace hx273_0 := (HB.out.cell (World.block_lt_of_cell? w _ hx273_0)).trans hx273_0
       replace hx273_1 := (HB.out.cell (World.block_lt_of_cell? w _ hx273_1)).trans hx273_1
       replace p273 := eq_true p273
       replace q273 := eq_true q273
       try go_wp2_with (first | ((with_reducible refine gate_dst (N := 4) rfl ?_); refine box_event ?hg (N := 4) ?hd (cs := #[.int .i64 0, .int .i64 0]) (t := 39) ?hr ?_; (case hd => rfl); (case hg => rfl); (case hr => first | (go_simp; done) | (go_simp; rfl)); intro gb274 hg w33 hbox hb; have BK274 := Aside0.mk (hbox); have GW274 := Aside0.mk ((by rw [hg]; exact (below_size bB_) : w.heap.size ≤ gb274)); have GE274 := Aside0.mk ((by rw [hg]; exact (below_size bB_) : w.heap.size ≤ gb274)); replace HB := Aside0.mk (below_step bB_ hb); clear hb hbox hg; have hcz34_0 : w33.cell? ⟨gb274, 0, none⟩ = some (.int .i64 0) := (blk_cell BK274.out 0).trans rfl; have hcz34_1 : w33.cell? ⟨gb274, 1, none⟩ = some (.int .i64 0) := (blk_cell BK274.out 1).trans rfl; have hfz34_0 := blk_frozen BK274.out 0; have hfz34_1 := blk_frozen BK274.out 1))
       have n0_ : Aside0 (((w33.setCell ⟨gb274, 0, none⟩ (.int .i64 ((rd_T39 l0 x7_1).f0))).setCell ⟨gb274, 1, none⟩ (.int .i64 ((rd_T39 l0 x7_1).f1))).heap[gb274]? = some (.cells #[.int .i64 ((rd_T39 l0 x7_1).f0), .int .i64 ((rd_T39 l0 x7_1).f1)] 39 (0, 0))) := ⟨by (with_reducible repeat (first | refine blk_drewN ?_ _ | refine blk_drew ?_ | refine blk_alloc ?_ _)); refine blk_put (cs := #[.int .i64 ((rd_T39 l0 x7_1).f0), .int .i64 0]) ?_ 1 _ rfl; (with_reducible repeat (first | refine blk_drewN ?_ _ | refine blk_drew ?_ | refine blk_alloc ?_ _)); refine blk_put (cs := #[.int .i64 0, .int .i64 0]) ?_ 0 _ rfl; (with_reducible repeat (first | refine blk_drewN ?_ _ | refine blk_drew ?_ | refine blk_alloc ?_ _)); exact BK274.out⟩
       have n1_ : Aside0 (Below w.heap.size w ((w33.setCell ⟨gb274, 0, none⟩ (.int .i64 ((rd_T39 l0 x7_1).f0))).setCell ⟨gb274, 1, none⟩ (.int .i64 ((rd_T39 l0 x7_1).f1)))) := ⟨by repeat (first | (with_reducible first | exact HB.out | apply below_alloc | apply pw_below_drewN | apply below_drew1 | refine below_set ?_ GE274.out) | exact HB.out)⟩
       (try clear BK274)
       (try clear HB)
       generalize ((w33.setCell ⟨gb274, 0, none⟩ (.int .i64 ((rd_T39 l0 x7_1).f0))).setCell ⟨gb274, 1, none⟩ (.int .i64 ((rd_T39 l0 x7_1).f1))) = w35 at n0_ n1_ ⊢
       have BK274 := n0_
       have HB := n1_
       clear n0_ n1_
       replace BK274 := Aside0.mk (blk_drew BK274.out)
       replace HB := Aside0.mk (below_drew1 HB.out)
       refine start_ (n := 24) (S := fun w' => w'.cell? ⟨gb274, 0, none⟩ = some (.int .i64 ((rd_T39 l0 x7_1).f0)) ∧ w'.cell? ⟨gb274, 1, none⟩ = some (.int .i64 ((rd_T39 l0 x7_1).f1))) (ds := []) #[F, F, F, F, F, F, F, F, F, F, F, F, F, F, F, F, F, F, F, F, F, F, F, F] (by kernel_rfl) rfl rfl ⟨(blk_cell BK274.out 0).trans rfl, (blk_cell BK274.out 1).trans rfl⟩ (fun hHeld => ?_); refine with_tabW impl_IsShape.tab4 impl_IsShape.bits4 (fun HT_ HW_ => ?_)
       generalize w35.drew = w36 at BK274 HB hHeld ⊢
       refine pu_ HT_ 0 (some 12) #[T,F,F,F,F,F,F,F,F,F,F,F,F,F,F,F,F,F,F,F,F,F,F,F] ?_
       refine take_ (i := 1) (N := some 13) (v := ?_) (a' := ?_) #[T, T, F, F, F, F, F, F, F, F, F, F, F, F, F, F, F, F, F, F, F, F, F, F] rfl rfl (take_ofW HT_.out HW_.out (by kernel_rfl)) (fun _ _ _ h => h) (Or.inl ⟨by rfl, ?_⟩) hHeld ?_ ?_
       rotate_left
       ·rintro w' ⟨s0, s1⟩
        go_simp
        with_reducible rfl
       rotate_left
       ·simp only [Act.put, List.setIfInBounds_toArray, List.set_cons_zero, List.set_cons_succ, i64_w, i32_w]
        rfl
       refine one_ (i := 2) (N := some 14) #[T, T, T, F, F, F, F, F, F, F, F, F, F, F, F, F, F, F, F, F, F, F, F, F] rfl rfl (one_of HT_.out (by kernel_rfl)) (by decide) (fun K hK => ?_)
       refine goes_ Tryz.func59 (by kernel_rfl) rfl #[.int .i64 ((rd_T39 l0 x7_1).f0)] (by rfl) rfl rfl mA_ ?_
       with_reducible refine (impl_isCoordinate.calls ((rd_T39 l0 x7_1).f0) false _ A5.out).mono ?_
       rintro e w' ⟨rfl, ⟨nd, rfl⟩⟩
       refine ⟨_, rfl, ?_⟩
       refine hK.out _ _ ⟨(blk_cell BK274.out 0).trans rfl, (blk_cell BK274.out 1).trans rfl⟩ (fun hHeld => ?_)
       clear hK K
       refine no_ (some 14) ?_
       refine pu_ HT_ 3 (some 15) #[T,T,T,T,F,F,F,F,F,F,F,F,F,F,F,F,F,F,F,F,F,F,F,F] ?_
       refine pu_ HT_ 4 (some 16) #[T,T,T,T,T,F,F,F,F,F,F,F,F,F,F,F,F,F,F,F,F,F,F,F] ?_
       refine pn_ HT_ 5 (some 17) #[T,T,T,T,T,T,F,F,F,F,F,F,F,F,F,F,F,F,F,F,F,F,F,F] ?_
       refine pn_ HT_ 6 (some 18) #[T,T,T,T,T,T,T,F,F,F,F,F,F,F,F,F,F,F,F,F,F,F,F,F] ?_
       refine pn_ HT_ 7 (some 19) #[T,T,T,T,T,T,T,T,F,F,F,F,F,F,F,F,F,F,F,F,F,F,F,F] ?_
       refine pn_ HT_ 8 (some 20) #[T,T,T,T,T,T,T,T,T,F,F,F,F,F,F,F,F,F,F,F,F,F,F,F] ?_
       refine pu_ HT_ 9 (some 21) #[T,T,T,T,T,T,T,T,T,T,F,F,F,F,F,F,F,F,F,F,F,F,F,F] ?_
       refine pu_ HT_ 10 (some 22) #[T,T,T,T,T,T,T,T,T,T,T,F,F,F,F,F,F,F,F,F,F,F,F,F] ?_
       refine pn_ HT_ 11 (some 23) #[T,T,T,T,T,T,T,T,T,T,T,T,F,F,F,F,F,F,F,F,F,F,F,F] ?_
       refine pn_ HT_ 12 (some 24) #[T,T,T,T,T,T,T,T,T,T,T,T,T,F,F,F,F,F,F,F,F,F,F,F] ?_
       refine pn_ HT_ 13 (some 25) #[T,T,T,T,T,T,T,T,T,T,T,T,T,T,F,F,F,F,F,F,F,F,F,F] ?_
       refine pn_ HT_ 14 (some 26) #[T,T,T,T,T,T,T,T,T,T,T,T,T,T,T,F,F,F,F,F,F,F,F,F] ?_
       refine pn_ HT_ 15 (some 27) #[T,T,T,T,T,T,T,T,T,T,T,T,T,T,T,T,F,F,F,F,F,F,F,F] ?_
       refine pn_ HT_ 16 (some 28) #[T,T,T,T,T,T,T,T,T,T,T,T,T,T,T,T,T,F,F,F,F,F,F,F] ?_
       refine pn_ HT_ 17 (some 29) #[T,T,T,T,T,T,T,T,T,T,T,T,T,T,T,T,T,T,F,F,F,F,F,F] ?_
       refine pn_ HT_ 18 (some 30) #[T,T,T,T,T,T,T,T,T,T,T,T,T,T,T,T,T,T,T,F,F,F,F,F] ?_
       refine pn_ HT_ 19 (some 31) #[T,T,T,T,T,T,T,T,T,T,T,T,T,T,T,T,T,T,T,T,F,F,F,F] ?_
       refine pn_ HT_ 20 (some 32) #[T,T,T,T,T,T,T,T,T,T,T,T,T,T,T,T,T,T,T,T,T,F,F,F] ?_
       refine pn_ HT_ 21 (some 33) #[T,T,T,T,T,T,T,T,T,T,T,T,T,T,T,T,T,T,T,T,T,T,F,F] ?_
       refine pn_ HT_ 22 (some 34) #[T,T,T,T,T,T,T,T,T,T,T,T,T,T,T,T,T,T,T,T,T,T,T,F] ?_
       refine pu_ HT_ 23 (some 35) #[T,T,T,T,T,T,T,T,T,T,T,T,T,T,T,T,T,T,T,T,T,T,T,T] ?_
       refine done_ (done_of HT_.out (by kernel_rfl)) ?_
       try go_wp2
       go_ret
       exact ⟨r2_, by repeat (first | (with_reducible first | exact HB.out | apply below_alloc | apply pw_below_drewN | apply below_drew1 | refine below_set ?_ GE274.out) | exact HB.out)⟩
     ·rw [if_neg c4] at H
      exact absurd H (by simp)
    ·rw [if_neg c3] at H
     exact absurd H (by simp)
   ·rw [if_neg c2] at H
    have c2b0 : decide (x7_1 < (l0.length : Int)) = false := decide_eq_false c2
    clear c2
    by_cases c37 : (l0.length : Int) ≥ 1
    ·rw [if_pos c37] at H
     have c37b0 : decide (1 ≤ (l0.length : Int)) = true := decide_eq_true c37
     have c37b1 : decide (1 ≤ l0.length) = true := decide_eq_true (by omega)
     clear c37
     obtain rfl := Option.some.inj H
     go_wp2
     go_ret
     exact ⟨r2_, bB_⟩
    ·rw [if_neg c37] at H
     have c37b0 : decide (1 ≤ (l0.length : Int)) = false := decide_eq_false c37
     have c37b1 : decide (1 ≤ l0.length) = false := decide_eq_false (by omega)
     clear c37
     obtain rfl := Option.some.inj H
     go_wp2
     go_ret
     exact ⟨r2_, bB_⟩

/-! ### impl_IsConnected: function 38 -/
def impl_IsConnected.f (k : Nat) (l0 : List (S39)) : Option (Bool) := (impl_IsShape.f k l0).bind fun t279 => (if t279 = true then ((impl_connected.f k l0).bind fun t280 => (some t280)) else (some false))
theorem impl_IsConnected.mono : ∀ a0 k, LeO (impl_IsConnected.f k a0) (impl_IsConnected.f (k + 1) a0) := by
 intro a0 k
 unfold impl_IsConnected.f
 repeat' first
   | (with_reducible exact impl_IsShape.mono _ _)
   | (with_reducible exact impl_connected.mono _ _)
   | (with_reducible exact LeO.refl _)
   | (with_reducible exact LeO.none _)
   | (with_reducible refine LeO.ite ?_ ?_)
   | (with_reducible refine LeO.bind ?_ (fun _ => ?_))
   | exact impl_IsShape.mono _ _
   | exact impl_connected.mono _ _
   | exact LeO.none _
   | refine LeO.ite ?_ ?_
   | refine LeO.bind ?_ (fun _ => ?_)
set_option maxHeartbeats 8000000 in
set_option maxRecDepth 100000 in
theorem impl_IsConnected.calls (k : Nat) (A0 : Option Addr) (c0 : Nat) (l0 : List (S39)) (r : Bool) (w : World) (hr0 : Kd.C k39 w A0 l0.length l0) (hc0 : l0.length ≤ c0) (h : impl_IsConnected.f k l0 = some r) :
  Calls Tryz.prog 38 #[.slice A0 l0.length c0] w fun e w' => e = .returned (.bool r) ∧ Below w.heap.size w w' := by
 have HR0 := Aside0.mk hr0
 have HC0 := Aside0.mk hc0
 clear hr0 hc0
 have HB := Aside0.mk (Below.refl w.heap.size w)
 have H : ((impl_IsShape.f k l0).bind fun t279 => (if t279 = true then ((impl_connected.f k l0).bind fun t280 => (some t280)) else (some false))) = some r := h
 clear h
 replace H := Option.bind_eq_some_iff.mp H
 obtain ⟨t279, A20, H⟩ := H
 try dsimp only at H
 have A2 := Aside0.mk A20
 clear A20
 by_cases c3 : t279 = true
 ·subst c3
  have H1 : ((impl_connected.f k l0).bind fun t280 => (some t280)) = some r := by rw [if_pos rfl] at H; exact H
  clear H
  have H := H1
  clear H1
  replace H := Option.bind_eq_some_iff.mp H
  obtain ⟨t280, A40, H⟩ := H
  try dsimp only at H
  have A4 := Aside0.mk A40
  clear A40
  obtain rfl := Option.some.inj H
  go_enter Tryz.func38, Tryz.ntmps38
  go_wp2_with (first | ((with_reducible refine gate_callee (f := 33) rfl ?_); refine gL_ (some 4) Tryz.func33 #[.slice A0 l0.length c0] ?_; (with_reducible refine (impl_IsShape.calls k _ _ l0 true _ ?side1 ?side2 A2.out).mono ?_); (case side1 => exact cS_ HR0.out); (case side2 => exact HC0.out); rintro e w5 ⟨rfl, hb⟩; refine ⟨_, rfl, ?_⟩; replace HB := Aside0.mk (below_step bB_ hb); (try clear hb)) | (go_at_call 19; (with_reducible refine (impl_connected.calls k _ _ l0  t280 _ ?side1 ?side2 A4.out).mono ?_); (case side1 => exact cS_ (Kd.C_below HR0.out HB.out)); (case side2 => exact HC0.out); rintro e w6 ⟨rfl, hb⟩; replace HB := Aside0.mk (below_step bB_ hb); (try clear hb)))
  go_ret
  exact ⟨r2_, bB_⟩
 ·replace c3 := Bool.eq_false_iff.mpr c3
  subst c3
  have H1 : (some false) = some r := by rw [if_neg (show ¬ (false = true) by decide)] at H; exact H
  clear H
  have H := H1
  clear H1
  obtain rfl := Option.some.inj H
  go_enter Tryz.func38, Tryz.ntmps38
  go_wp2_with (first | ((with_reducible refine gate_callee (f := 33) rfl ?_); refine gL_ (some 4) Tryz.func33 #[.slice A0 l0.length c0] ?_; (with_reducible refine (impl_IsShape.calls k _ _ l0 false _ ?side1 ?side2 A2.out).mono ?_); (case side1 => exact cS_ HR0.out); (case side2 => exact HC0.out); rintro e w7 ⟨rfl, hb⟩; refine ⟨_, rfl, ?_⟩; replace HB := Aside0.mk (below_step bB_ hb); (try clear hb)))
  go_ret
  exact ⟨r2_, bB_⟩

/-! ### impl_corner: function 42 -/
def impl_corner.l0 : Nat → List (S39) → Int → Int → Int → Int → Option (Int × Int)
 | 0, _, _, _, _, _ => none
 | k + 1, x9, x10, x11, x284000, x284001 => if x11 < x10 then (if 0 ≤ x11 then (if x11 < (x9.length : Int) then (impl_corner.l0 k x9 x10 (wrap64 (x11 + 1)) (mn x284000 ((rd_T39 x9 x11).f0)) (mn x284001 ((rd_T39 x9 x11).f1))) else (none)) else (none)) else (some (x284000, x284001))
def impl_corner.f (k : Nat) (l0 : List (S39)) : Option (Int × Int) := if 0 < (l0.length : Int) then (impl_corner.l0 k l0 (l0.length : Int) 0 ((rd_T39 l0 0).f0) ((rd_T39 l0 0).f1)) else (none)
theorem impl_corner.mono_l : ∀ k, (∀ y0 y1 y2 y3 y4, LeO (impl_corner.l0 k y0 y1 y2 y3 y4) (impl_corner.l0 (k + 1) y0 y1 y2 y3 y4))
 | 0 => fun _ _ _ _ _ r h => by simp [impl_corner.l0] at h
 | k + 1 => by
  have ih0 := impl_corner.mono_l k
  ·intro y0 y1 y2 y3 y4
   unfold impl_corner.l0
   repeat' first
   | (with_reducible exact ih0 _ _ _ _ _)
   | (with_reducible exact LeO.refl _)
   | (with_reducible exact LeO.none _)
   | (with_reducible refine LeO.ite ?_ ?_)
   | (with_reducible refine LeO.bind ?_ (fun _ => ?_))
   | exact ih0 _ _ _ _ _
   | exact LeO.none _
   | refine LeO.ite ?_ ?_
   | refine LeO.bind ?_ (fun _ => ?_)
theorem impl_corner.mono : ∀ a0 k, LeO (impl_corner.f k a0) (impl_corner.f (k + 1) a0) := by
 intro a0 k
 have ih0 := impl_corner.mono_l k
 unfold impl_corner.f
 repeat' first
   | (with_reducible exact ih0 _ _ _ _ _)
   | (with_reducible exact LeO.refl _)
   | (with_reducible exact LeO.none _)
   | (with_reducible refine LeO.ite ?_ ?_)
   | (with_reducible refine LeO.bind ?_ (fun _ => ?_))
   | exact ih0 _ _ _ _ _
   | exact LeO.none _
   | refine LeO.ite ?_ ?_
   | refine LeO.bind ?_ (fun _ => ?_)
set_option maxHeartbeats 8000000 in
set_option maxRecDepth 100000 in
theorem impl_corner.calls (k : Nat) (A0 : Option Addr) (c0 : Nat) (l0 : List (S39)) (r1 : Int) (r2 : Int) (w : World) (hr0 : Kd.C k39 w A0 l0.length l0) (hc0 : l0.length ≤ c0) (h : impl_corner.f k l0 = some (r1, r2)) :
  Calls Tryz.prog 42 #[.slice A0 l0.length c0] w fun e w' => e = .returned (.agg #[.int .i64 r1, .int .i64 r2]) ∧ Below w.heap.size w w' := by
 have hu39 := Tryz.underlying39
 have HR0 := Aside0.mk hr0
 have HC0 := Aside0.mk hc0
 clear hr0 hc0
 have HB := Aside0.mk (Below.refl w.heap.size w)
 have H : (if 0 < (l0.length : Int) then (impl_corner.l0 k l0 (l0.length : Int) 0 ((rd_T39 l0 0).f0) ((rd_T39 l0 0).f1)) else (none)) = some (r1, r2) := h
 clear h
 by_cases c2 : 0 < (l0.length : Int)
 ·rw [if_pos c2] at H
  have c2b0 : decide (0 < (l0.length : Int)) = true := decide_eq_true c2
  have c2b1 : decide (0 < l0.length) = true := decide_eq_true (by omega)
  clear c2
  have H' := Aside0.mk H
  clear H
  go_enter Tryz.func42, Tryz.ntmps42
  go_wp2_with (first | ((with_reducible refine gate_dst (N := 2) rfl ?_); refine box_event ?hg (N := 2) ?hd (cs := #[.int .i64 0, .int .i64 0]) (t := 39) ?hr ?_; (case hd => rfl); (case hg => rfl); (case hr => first | (go_simp; done) | (go_simp; rfl)); intro gb281 hg w3 hbox hb; have BK281 := Aside0.mk (hbox); have GW281 := Aside0.mk ((by rw [hg]; exact (below_size bB_) : w.heap.size ≤ gb281)); have GE281 := Aside0.mk ((by rw [hg]; exact (below_size bB_) : w.heap.size ≤ gb281)); replace HB := Aside0.mk (below_step bB_ hb); clear hb hbox hg; have p282 : 0 ≤ (0 : Int) := (by omega); have q282 : 0 < (l0.length : Int) := of_decide_eq_true aS_; obtain ⟨ad282, e282, hx282_0, hx282_1⟩ := at_T39 HR0.out 0 p282 q282; cases e282; have qi282 : (0 < l0.length) = True := eq_true (by omega); (try rw [show ((0 : Int)).toNat = 0 from rfl] at hx282_0); (try rw [show 0 * 2 = 0 from rfl] at hx282_0); (try rw [Addr.add_zero'] at hx282_0); (try rw [show ((0 : Int)).toNat = 0 from rfl] at hx282_1); (try rw [show 0 * 2 = 0 from rfl] at hx282_1); (try rw [Addr.add_zero'] at hx282_1); replace hx282_0 := (HB.out.cell (World.block_lt_of_cell? w _ hx282_0)).trans hx282_0; replace hx282_1 := (HB.out.cell (World.block_lt_of_cell? w _ hx282_1)).trans hx282_1; replace p282 := eq_true p282; replace q282 := eq_true q282) | ((with_reducible refine gate_dst (N := 3) rfl ?_); refine box_event ?hg (N := 3) ?hd (cs := #[.int .i64 0, .int .i64 0]) (t := 39) ?hr ?_; (case hd => rfl); (case hg => rfl); (case hr => first | (go_simp; done) | (go_simp; rfl)); intro gb283 hg w4 hbox hb; have BK283 := Aside0.mk (hbox); have GW283 := Aside0.mk ((by rw [hg]; exact (below_size (by repeat (first | (with_reducible first | exact HB.out | apply below_alloc | apply pw_below_drewN | apply below_drew1 | refine below_set ?_ GE281.out) | exact HB.out))) : w.heap.size ≤ gb283)); have GE283 := Aside0.mk ((by rw [hg]; exact (below_size (by repeat (first | (with_reducible first | exact HB.out | apply below_alloc | apply pw_below_drewN | apply below_drew1 | refine below_set ?_ GE281.out) | exact HB.out))) : w.heap.size ≤ gb283)); replace HB := Aside0.mk (below_step (by repeat (first | (with_reducible first | exact HB.out | apply below_alloc | apply pw_below_drewN | apply below_drew1 | refine below_set ?_ GE281.out) | exact HB.out)) hb); have NB281_283 := Aside0.mk ((by rw [hg]; exact Nat.ne_of_lt (blk_lt (g := gb281) (o := .cells #[.int .i64 0, .int .i64 0] 39 (0, 0)) (by (with_reducible repeat (first | refine blk_drewN ?_ _ | refine blk_drew ?_ | refine blk_alloc ?_ _)); exact BK281.out)) : gb281 ≠ gb283)); have NB283_281 := Aside0.mk ((by rw [hg]; exact Nat.ne_of_gt (blk_lt (g := gb281) (o := .cells #[.int .i64 0, .int .i64 0] 39 (0, 0)) (by (with_reducible repeat (first | refine blk_drewN ?_ _ | refine blk_drew ?_ | refine blk_alloc ?_ _)); exact BK281.out)) : gb283 ≠ gb281)); replace BK281 := Aside0.mk (blk_below (g := gb281) (o := .cells #[.int .i64 0, .int .i64 0] 39 (0, 0)) (by (with_reducible repeat (first | refine blk_drewN ?_ _ | refine blk_drew ?_ | refine blk_alloc ?_ _)); exact BK281.out) hb); clear hb hbox hg; have hnb5 := NB283_281.out; have hnc5 := NB281_283.out; have hcz6_0 : w4.cell? ⟨gb283, 0, none⟩ = some (.int .i64 0) := (blk_cell BK283.out 0).trans rfl; have hcz6_1 : w4.cell? ⟨gb283, 1, none⟩ = some (.int .i64 0) := (blk_cell BK283.out 1).trans rfl; have hfz6_0 := blk_frozen BK283.out 0; have hfz6_1 := blk_frozen BK283.out 1))
  go_loopg [11] k (fun kq v11 w' => ∃ (x11_1 : Int) (x284000_1 : Int) (x284001_1 : Int), v11 = .int .i64 x11_1 ∧ Aside0 (impl_corner.l0 kq l0 (l0.length : Int) x11_1 x284000_1 x284001_1 = some (r1, r2)) ∧ Aside0 (kq ≤ k) ∧ Aside0 (w'.heap[gb281]? = some (.cells #[.int .i64 0, .int .i64 0] 39 (0, 0))) ∧ Aside0 (w'.heap[gb283]? = some (.cells #[.int .i64 x284000_1, .int .i64 x284001_1] 39 (0, 0))) ∧ Aside0 (Below w.heap.size w w'))
  case atStart => exact ⟨(0), ((rd_T39 l0 0).f0), ((rd_T39 l0 0).f1), r3_, H', ⟨Nat.le_refl _⟩, ⟨by (with_reducible repeat (first | refine blk_drewN ?_ _ | refine blk_drew ?_ | refine blk_alloc ?_ _)); refine blk_far ?_ NB281_283.out _; (with_reducible repeat (first | refine blk_drewN ?_ _ | refine blk_drew ?_ | refine blk_alloc ?_ _)); refine blk_far ?_ NB281_283.out _; (with_reducible repeat (first | refine blk_drewN ?_ _ | refine blk_drew ?_ | refine blk_alloc ?_ _)); exact BK281.out⟩, ⟨by (with_reducible repeat (first | refine blk_drewN ?_ _ | refine blk_drew ?_ | refine blk_alloc ?_ _)); refine blk_put (cs := #[.int .i64 ((rd_T39 l0 0).f0), .int .i64 0]) ?_ 1 _ rfl; (with_reducible repeat (first | refine blk_drewN ?_ _ | refine blk_drew ?_ | refine blk_alloc ?_ _)); refine blk_put (cs := #[.int .i64 0, .int .i64 0]) ?_ 0 _ rfl; (with_reducible repeat (first | refine blk_drewN ?_ _ | refine blk_drew ?_ | refine blk_alloc ?_ _)); exact BK283.out⟩, ⟨by repeat (first | (with_reducible first | exact HB.out | apply below_alloc | apply pw_below_drewN | apply below_drew1 | refine below_set ?_ GE281.out | refine below_set ?_ GE283.out) | exact HB.out)⟩⟩
  case round =>
   clear H'
   try clear c2
   try clear c2b0
   try clear c2b1
   try clear p2
   try clear q2
   try clear hx2
   try clear qi2
   try clear c4
   try clear c5
   try clear hcz6_0
   try clear hcz6_1
   try clear hfz6_0
   try clear hfz6_1
   try clear hx282_0
   try clear hx282_1
   try clear p282
   try clear q282
   obtain ⟨x11_1, x284000_1, x284001_1, rfl, HA, HK1, BK281, BK283, HB⟩ := hrel
   cases gk with
   | zero => exact absurd HA.out (by simp [impl_corner.l0])
   | succ k1 =>
    have H := HA.out
    clear HA
    simp only [impl_corner.l0] at H
    by_cases c7 : x11_1 < (l0.length : Int)
    ·rw [if_pos c7] at H
     have c7b0 : decide (x11_1 < (l0.length : Int)) = true := decide_eq_true c7
     clear c7
     by_cases c8 : 0 ≤ x11_1
     ·rw [if_pos c8] at H
      have c8b0 : decide (0 ≤ x11_1) = true := decide_eq_true c8
      clear c8
      by_cases c9 : x11_1 < (l0.length : Int)
      ·rw [if_pos c9] at H
       have c9b0 : decide (x11_1 < (l0.length : Int)) = true := decide_eq_true c9
       clear c9
       obtain ⟨ji10, hji10⟩ : ∃ j_ : Int, (mn x284000_1 ((rd_T39 l0 x11_1).f0)) = j_ := ⟨_, rfl⟩
       replace H : (impl_corner.l0 k1 l0 (l0.length : Int) (wrap64 (x11_1 + 1)) ji10 (mn x284001_1 ((rd_T39 l0 x11_1).f1))) = some (r1, r2) := by first | (rw [hji10] at H; exact H) | (simp only [hji10] at H ⊢; exact H)
       have hji10_ : (if ((rd_T39 l0 x11_1).f0) < x284000_1 then ((rd_T39 l0 x11_1).f0) else x284000_1) = ji10 := hji10
       obtain ⟨ji11, hji11⟩ : ∃ j_ : Int, (mn x284001_1 ((rd_T39 l0 x11_1).f1)) = j_ := ⟨_, rfl⟩
       replace H : (impl_corner.l0 k1 l0 (l0.length : Int) (wrap64 (x11_1 + 1)) ji10 ji11) = some (r1, r2) := by first | (rw [hji11] at H; exact H) | (simp only [hji11] at H ⊢; exact H)
       have hji11_ : (if ((rd_T39 l0 x11_1).f1) < x284001_1 then ((rd_T39 l0 x11_1).f1) else x284001_1) = ji11 := hji11
       have H' := Aside0.mk H
       clear H
       have p284 : 0 ≤ (x11_1 : Int) := of_decide_eq_true aS_
       have q284 : x11_1 < (l0.length : Int) := of_decide_eq_true aS_
       obtain ⟨ad284, e284, hx284_0, hx284_1⟩ := at_T39 HR0.out x11_1 p284 q284
       obtain rfl : ad282 = ad284 := (by injection e284)
       replace hx284_0 := (HB.out.cell (World.block_lt_of_cell? w _ hx284_0)).trans hx284_0
       replace hx284_1 := (HB.out.cell (World.block_lt_of_cell? w _ hx284_1)).trans hx284_1
       replace p284 := eq_true p284
       replace q284 := eq_true q284
       go_wp2_with (first | ((with_reducible refine gate_dst (N := 5) rfl ?_); refine box_event ?hg (N := 5) ?hd (cs := #[.int .i64 0, .int .i64 0]) (t := 39) ?hr ?_; (case hd => rfl); (case hg => rfl); (case hr => first | (go_simp; done) | (go_simp; rfl)); intro gb285 hg w12 hbox hb; have BK285 := Aside0.mk (hbox); have GW285 := Aside0.mk ((by rw [hg]; exact (below_size (by repeat (first | (with_reducible first | exact HB.out | apply below_alloc | apply pw_below_drewN | apply below_drew1 | refine below_set ?_ GE281.out | refine below_set ?_ GE283.out) | exact HB.out))) : w.heap.size ≤ gb285)); have GE285 := Aside0.mk ((by rw [hg]; exact (below_size (by repeat (first | (with_reducible first | exact HB.out | apply below_alloc | apply pw_below_drewN | apply below_drew1 | refine below_set ?_ GE281.out | refine below_set ?_ GE283.out) | exact HB.out))) : w.heap.size ≤ gb285)); replace HB := Aside0.mk (below_step (by repeat (first | (with_reducible first | exact HB.out | apply below_alloc | apply pw_below_drewN | apply below_drew1 | refine below_set ?_ GE281.out | refine below_set ?_ GE283.out) | exact HB.out)) hb); have NB281_285 := Aside0.mk ((by rw [hg]; exact Nat.ne_of_lt (blk_lt (g := gb281) (o := .cells #[.int .i64 0, .int .i64 0] 39 (0, 0)) (by (with_reducible repeat (first | refine blk_drewN ?_ _ | refine blk_drew ?_ | refine blk_alloc ?_ _)); exact BK281.out)) : gb281 ≠ gb285)); have NB285_281 := Aside0.mk ((by rw [hg]; exact Nat.ne_of_gt (blk_lt (g := gb281) (o := .cells #[.int .i64 0, .int .i64 0] 39 (0, 0)) (by (with_reducible repeat (first | refine blk_drewN ?_ _ | refine blk_drew ?_ | refine blk_alloc ?_ _)); exact BK281.out)) : gb285 ≠ gb281)); replace BK281 := Aside0.mk (blk_below (g := gb281) (o := .cells #[.int .i64 0, .int .i64 0] 39 (0, 0)) (by (with_reducible repeat (first | refine blk_drewN ?_ _ | refine blk_drew ?_ | refine blk_alloc ?_ _)); exact BK281.out) hb); have NB283_285 := Aside0.mk ((by rw [hg]; exact Nat.ne_of_lt (blk_lt (g := gb283) (o := .cells #[.int .i64 x284000_1, .int .i64 x284001_1] 39 (0, 0)) (by (with_reducible repeat (first | refine blk_drewN ?_ _ | refine blk_drew ?_ | refine blk_alloc ?_ _)); exact BK283.out)) : gb283 ≠ gb285)); have NB285_283 := Aside0.mk ((by rw [hg]; exact Nat.ne_of_gt (blk_lt (g := gb283) (o := .cells #[.int .i64 x284000_1, .int .i64 x284001_1] 39 (0, 0)) (by (with_reducible repeat (first | refine blk_drewN ?_ _ | refine blk_drew ?_ | refine blk_alloc ?_ _)); exact BK283.out)) : gb285 ≠ gb283)); replace BK283 := Aside0.mk (blk_below (g := gb283) (o := .cells #[.int .i64 x284000_1, .int .i64 x284001_1] 39 (0, 0)) (by (with_reducible repeat (first | refine blk_drewN ?_ _ | refine blk_drew ?_ | refine blk_alloc ?_ _)); exact BK283.out) hb); clear hb hbox hg; have hnb13 := NB285_281.out; have hnc13 := NB281_285.out; have hnb14 := NB285_283.out; have hnc14 := NB283_285.out; have hcz15_0 : w12.cell? ⟨gb285, 0, none⟩ = some (.int .i64 0) := (blk_cell BK285.out 0).trans rfl; have hcz15_1 : w12.cell? ⟨gb285, 1, none⟩ = some (.int .i64 0) := (blk_cell BK285.out 1).trans rfl; have hfz15_0 := blk_frozen BK285.out 0; have hfz15_1 := blk_frozen BK285.out 1; have hnb16 := NB283_281.out; have hnc16 := NB281_283.out; have hcz17_0 : w12.cell? ⟨gb283, 0, none⟩ = some (.int .i64 x284000_1) := (blk_cell BK283.out 0).trans rfl; have hcz17_1 : w12.cell? ⟨gb283, 1, none⟩ = some (.int .i64 x284001_1) := (blk_cell BK283.out 1).trans rfl; have hfz17_0 := blk_frozen BK283.out 0; have hfz17_1 := blk_frozen BK283.out 1))
       go_roundg k1
       case measure => have := HK1.out; omega
       case rel => exact ⟨(wrap64 (x11_1 + 1)), (ji10), (ji11), r3_, H', ⟨by have := HK1.out; omega⟩, ⟨by (with_reducible repeat (first | refine blk_drewN ?_ _ | refine blk_drew ?_ | refine blk_alloc ?_ _)); refine blk_far ?_ NB281_283.out _; (with_reducible repeat (first | refine blk_drewN ?_ _ | refine blk_drew ?_ | refine blk_alloc ?_ _)); refine blk_far ?_ NB281_283.out _; (with_reducible repeat (first | refine blk_drewN ?_ _ | refine blk_drew ?_ | refine blk_alloc ?_ _)); refine blk_far ?_ NB281_285.out _; (with_reducible repeat (first | refine blk_drewN ?_ _ | refine blk_drew ?_ | refine blk_alloc ?_ _)); refine blk_far ?_ NB281_285.out _; (with_reducible repeat (first | refine blk_drewN ?_ _ | refine blk_drew ?_ | refine blk_alloc ?_ _)); exact BK281.out⟩, ⟨by (with_reducible repeat (first | refine blk_drewN ?_ _ | refine blk_drew ?_ | refine blk_alloc ?_ _)); refine blk_put (cs := #[.int .i64 ji10, .int .i64 x284001_1]) ?_ 1 _ rfl; (with_reducible repeat (first | refine blk_drewN ?_ _ | refine blk_drew ?_ | refine blk_alloc ?_ _)); refine blk_put (cs := #[.int .i64 x284000_1, .int .i64 x284001_1]) ?_ 0 _ rfl; (with_reducible repeat (first | refine blk_drewN ?_ _ | refine blk_drew ?_ | refine blk_alloc ?_ _)); refine blk_far ?_ NB283_285.out _; (with_reducible repeat (first | refine blk_drewN ?_ _ | refine blk_drew ?_ | refine blk_alloc ?_ _)); refine blk_far ?_ NB283_285.out _; (with_reducible repeat (first | refine blk_drewN ?_ _ | refine blk_drew ?_ | refine blk_alloc ?_ _)); exact BK283.out⟩, ⟨by repeat (first | (with_reducible first | exact HB.out | apply below_alloc | apply pw_below_drewN | apply below_drew1 | refine below_set ?_ GE281.out | refine below_set ?_ GE283.out | refine below_set ?_ GE285.out) | exact HB.out)⟩⟩
      ·rw [if_neg c9] at H
       exact absurd H (by simp)
     ·rw [if_neg c8] at H
      exact absurd H (by simp)
    ·rw [if_neg c7] at H
     have c7b0 : decide (x11_1 < (l0.length : Int)) = false := decide_eq_false c7
     clear c7
     simp only [Option.some.injEq, Prod.mk.injEq] at H
     obtain ⟨rfl, rfl⟩ := H
     have hnb18 := NB283_281.out
     have hnc18 := NB281_283.out
     have hcz19_0 : wr.cell? ⟨gb283, 0, none⟩ = some (.int .i64 x284000_1) := (blk_cell BK283.out 0).trans rfl
     have hcz19_1 : wr.cell? ⟨gb283, 1, none⟩ = some (.int .i64 x284001_1) := (blk_cell BK283.out 1).trans rfl
     have hfz19_0 := blk_frozen BK283.out 0
     have hfz19_1 := blk_frozen BK283.out 1
     have hcz20_0 : wr.cell? ⟨gb281, 0, none⟩ = some (.int .i64 0) := (blk_cell BK281.out 0).trans rfl
     have hcz20_1 : wr.cell? ⟨gb281, 1, none⟩ = some (.int .i64 0) := (blk_cell BK281.out 1).trans rfl
     have hfz20_0 := blk_frozen BK281.out 0
     have hfz20_1 := blk_frozen BK281.out 1
     go_wp2
     refine bodyPost_ret (results_cell_row rfl _ _ gb281 39 #[.int .i64 x284000_1, .int .i64 x284001_1] (0, 0) _ rfl (by (with_reducible repeat (first | refine blk_drewN ?_ _ | refine blk_drew ?_ | refine blk_alloc ?_ _)); refine blk_put (cs := #[.int .i64 x284000_1, .int .i64 0]) ?_ 1 _ rfl; (with_reducible repeat (first | refine blk_drewN ?_ _ | refine blk_drew ?_ | refine blk_alloc ?_ _)); refine blk_put (cs := #[.int .i64 0, .int .i64 0]) ?_ 0 _ rfl; (with_reducible repeat (first | refine blk_drewN ?_ _ | refine blk_drew ?_ | refine blk_alloc ?_ _)); exact BK281.out) Tryz.underlying39 rfl (by kernel_rfl)) rfl ?_
     exact ⟨r2_, by repeat (first | (with_reducible first | exact HB.out | apply below_alloc | apply pw_below_drewN | apply below_drew1 | refine below_set ?_ GE281.out | refine below_set ?_ GE283.out) | exact HB.out)⟩
 ·rw [if_neg c2] at H
  exact absurd H (by simp)

end Go.Proofs.YtbkafaoehheioaaGreat.X
