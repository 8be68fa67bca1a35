-- xprint.py
import Derived.DeepKeys4
import Derived.Maps.OwnSet
import Derived.Test.YtbkafaoehheioaaXx0
import Derived.Test.YtbkafaoehheioaaXx5
import Derived.Test.YtbkafaoehheioaaXx8
import Derived.Test.YtbkafaoehheioaaXx10
namespace Go.Proofs.Ytbkafaoehheioaa.X
open Go.RowKit Go.Proofs.YtbkafaoehheioaaW.PrintWords Go.Proofs.YtbkafaoehheioaaW.PrintLast Go.Proofs.YtbkafaoehheioaaW.PrintMore
attribute [local go_sem] max2_int min2_int max_two min_two max_three min_three max_four min_four   -- for this text's walks alone
set_option linter.unusedVariables false
set_option linter.unusedSimpArgs false

/-! ### impl_parts: function 131, by hand -/
-- IMPORT Derived.Maps.OwnSet
-- IMPORT Derived.DeepKeys4
/-- the place that the map holds for a cell behind n rounds: the last one -/
def plN_ (l : List S55) : Nat → Int → Int → Option Nat
 | 0, _, _ => none
 | i + 1, x, y => if (rd_T55 l (i : Nat)).f0 = x ∧ (rd_T55 l (i : Nat)).f1 = y then some i else plN_ l i x y
/-- the neighbours of one cell, one by one -/
def impl_parts.near (l : List S55) (i : Int) : List S55 → List Int → List Int → Option (List Int × List Int)
 | [], out, q => some (out, q)
 | d :: r, out, q => match plN_ l l.length d.f0 d.f1 with
  | some j => if rd out (j : Nat) < 0 then (if q.length < 1000000 then impl_parts.near l i r (out.set j i) (q ++ [(j : Int)]) else none) else impl_parts.near l i r out q
  | none => impl_parts.near l i r out q
/-- the list of the reached places, from the a-th on -/
def impl_parts.bfs : Nat → List S55 → Int → Nat → List Int → List Int → Option (List Int)
 | 0, _, _, _, _, _ => none
 | k + 1, l, i, a, out, q => if a < q.length then (if 0 ≤ rd q (a : Nat) then (if rd q (a : Nat) < (l.length : Int) then ((impl_around.f (rd_T55 l (rd q (a : Nat))).f0 (rd_T55 l (rd q (a : Nat))).f1).bind fun ds => ((impl_parts.near l i ds out q).bind fun z => impl_parts.bfs k l i (a + 1) z.1 z.2)) else none) else none) else some out
def impl_parts.outer (k : Nat) (l : List S55) : Nat → Nat → List Int → Option (List Int)
 | 0, _, out => some out
 | d + 1, i, out => if rd out (i : Nat) ≥ 0 then impl_parts.outer k l d (i + 1) out else ((impl_parts.bfs k l (i : Nat) 0 (out.set i (i : Nat)) [(i : Int)]).bind fun out => impl_parts.outer k l d (i + 1) out)
def wfC_ (l : List S55) : Bool := l.all fun c => decide (-1000000 ≤ c.f0 ∧ c.f0 ≤ 1000000 ∧ -1000000 ≤ c.f1 ∧ c.f1 ≤ 1000000)
def impl_parts.f (k : Nat) (l0 : List S55) : Option (List Int) := if l0.length ≤ 1000000 then (if wfC_ l0 = true then impl_parts.outer k l0 l0.length 0 (List.replicate l0.length (-1)) else none) else none
theorem impl_parts.mono : ∀ a0 k, LeO (impl_parts.f k a0) (impl_parts.f (k + 1) a0) := by
 have hb : ∀ k l i a out q, LeO (impl_parts.bfs k l i a out q) (impl_parts.bfs (k + 1) l i a out q) := by
  intro k
  induction k with
  | zero => intro l i a out q r h; simp [impl_parts.bfs] at h
  | succ k ih =>
   intro l i a out q
   unfold impl_parts.bfs
   exact LeO.ite (LeO.ite (LeO.ite (LeO.bind (LeO.refl _) (fun ds => LeO.bind (LeO.refl _) (fun z => ih _ _ _ _ _))) (LeO.refl _)) (LeO.refl _)) (LeO.refl _)
 have ho : ∀ k l d i out, LeO (impl_parts.outer k l d i out) (impl_parts.outer (k + 1) l d i out) := by
  intro k l d
  induction d with
  | zero => intro i out; exact LeO.refl _
  | succ d ih =>
   intro i out
   unfold impl_parts.outer
   exact LeO.ite (ih _ _) (LeO.bind (hb _ _ _ _ _ _) (fun z => ih _ _))
 intro a0 k
 unfold impl_parts.f
 exact LeO.ite (LeO.ite (ho _ _ _ _ _) (LeO.refl _)) (LeO.refl _)
section
open Go.Maps
theorem laidC_ : laidOutB Try.prog = true := by kernel_rfl
theorem lawC_ : Keyed Try.prog 55 := Keyed.of_law (deep_law_laid laidC_ (m := 2) (by omega) (of_decide_eq_true (by kernel_rfl)) (by kernel_rfl) (by kernel_rfl))
theorem zeroI_ (w : World) : (zeroValue 3).run Try.prog w = .ok (.int .i64 0) w := by kernel_rfl
theorem wfI_ {x : Int} (h1 : -9223372036854775808 ≤ x) (h2 : x ≤ 9223372036854775807) : (Lit.int .i64 x).wf = true := by
 simp only [Lit.wf, Bool.and_eq_true, decide_eq_true_eq]; exact ⟨h1, h2⟩
theorem keyGen_ {P : Program} {t : TypeId} {f0 f1 : Field} (hu : P.underlying t = some (.struct #[f0, f1])) (u0 : P.underlying f0.type = some (.int .i64)) (u1 : P.underlying f1.type = some (.int .i64)) (ct : P.cellsOf t = 2) (c0 : P.cellsOf f0.type = 1) (c1 : P.cellsOf f1.type = 1)
  (o0 : f0.offset = 0) (o1 : f1.offset = 1) (n0 : (f0.name != "_") = true) (n1 : (f1.name != "_") = true) (hk : P.keyType t = true) (hs : 0 < P.types.size) (x y : Int) (hx : (Lit.int .i64 x).wf = true) (hy : (Lit.int .i64 y).wf = true) : ∃ kl, keyOf P t (.agg #[.int .i64 x, .int .i64 y]) = some kl := by
 have e3 : (Value.agg #[.int .i64 x, .int .i64 y]).formed P t = true := by simp [Value.formed, hu, ct]
 obtain ⟨m, hm⟩ : ∃ m, P.types.size = m + 1 := ⟨P.types.size - 1, by omega⟩
 unfold keyOf
 simp only [hu, hk, e3, hm, Bool.and_self, if_true]
 have k0 : P.keyLits (m + 1) f0.type [.int .i64 x] = some [.int .i64 x] := by unfold Program.keyLits; simp only [u0, hx, and_self, if_true]
 have k1 : P.keyLits (m + 1) f1.type [.int .i64 y] = some [.int .i64 y] := by unfold Program.keyLits; simp only [u1, hy, and_self, if_true]
 have kk : P.keyLits (m + 1 + 1) t [.int .i64 x, .int .i64 y] = some [.int .i64 x, .int .i64 y] := by
  unfold Program.keyLits
  simp only [hu]
  simp [ct, n0, n1, o0, o1, c0, c1, k0, k1]
 exact ⟨_, by simp only [Value.cells]; rw [kk]; rfl⟩
theorem keyC_ (x y : Int) (hx : (Lit.int .i64 x).wf = true) (hy : (Lit.int .i64 y).wf = true) : ∃ kl, keyOf Try.prog 55 (.agg #[.int .i64 x, .int .i64 y]) = some kl :=
 keyGen_ Try.underlying55 Try.underlying2 Try.underlying2 (by kernel_rfl) (by kernel_rfl) (by kernel_rfl) rfl rfl (by decide) (by decide) (by kernel_rfl) (of_decide_eq_true (by kernel_rfl)) x y hx hy
/-- what the map says behind n rounds -/
def PlOk_ (D : DataW Unit) (l : List S55) (n : Nat) : Prop := Maps.IsMap D ∧ ∀ x y kl, keyOf Try.prog 55 (.agg #[.int .i64 x, .int .i64 y]) = some kl → (∀ j, plN_ l n x y = some j → Maps.has D kl = true ∧ D.atKey kl (.lit (.int .i64 0)) = .lit (.int .i64 (j : Nat))) ∧ (plN_ l n x y = none → Maps.has D kl = false)
theorem PlOk_.start (l : List S55) : PlOk_ (.map []) l 0 := ⟨⟨[], rfl⟩, fun x y kl _ => ⟨fun j h => by simp [plN_] at h, fun _ => rfl⟩⟩
theorem PlOk_.step {D : DataW Unit} {l : List S55} {n : Nat} (h : PlOk_ D l n) {kl0 : Lit} (hk : keyOf Try.prog 55 (.agg #[.int .i64 (rd_T55 l (n : Nat)).f0, .int .i64 (rd_T55 l (n : Nat)).f1]) = some kl0) : PlOk_ (D.put kl0 (.lit (.int .i64 (n : Nat)))) l (n + 1) := by
 refine ⟨h.1.put _ _, fun x y kl hkl => ?_⟩
 have e : plN_ l (n + 1) x y = if (rd_T55 l (n : Nat)).f0 = x ∧ (rd_T55 l (n : Nat)).f1 = y then some n else plN_ l n x y := rfl
 rw [e]
 by_cases c : (rd_T55 l (n : Nat)).f0 = x ∧ (rd_T55 l (n : Nat)).f1 = y
 ·rw [if_pos c]
  rw [c.1, c.2, hkl] at hk
  obtain rfl := Option.some.inj hk
  refine ⟨fun j hj => ?_, fun hj => absurd hj (by simp)⟩
  obtain rfl := Option.some.inj hj
  exact ⟨has_put_same h.1 (lawC_.key hkl) _, atKey_put_same h.1 (lawC_.key hkl) _ _⟩
 ·rw [if_neg c]
  have hne : kl ≠ kl0 := fun he => by
   subst he
   have := lawC_.inj hkl hk
   injection this with this
   simp at this
   exact c ⟨this.1.symm, this.2.symm⟩
  obtain ⟨a, b⟩ := h.2 x y kl hkl
  refine ⟨fun j hj => ?_, fun hj => ?_⟩
  ·rw [has_put_other hne, atKey_put_other hne]; exact a j hj
  ·rw [has_put_other hne]; exact b hj
theorem ownsMap_below {w w' : World} {b n : Nat} {D : DataW Unit} (h : w.ownsMap Try.prog 55 (plainElem Try.prog 3) b n D) (hb : Below w.heap.size w w') : w'.ownsMap Try.prog 55 (plainElem Try.prog 3) b n D := h.kept (grown_of_below hb none) (by simp)
/-- a row is no map's block -/
theorem R_notmap {α : Type} {d : Kd α} {e : Nat} {w : World} {base : Nat} {ok : Nat → Prop} {v : Value} {xs : List α} {B n : Nat} {D : DataW Unit} (h : d.R e w base ok v xs) (hm : w.ownsMap Try.prog 55 (plainElem Try.prog 3) B n D) : d.R e w base (fun k => ok k ∧ k ≠ B) v xs := by
 obtain ⟨es, clock, hb, _⟩ := hm
 refine Kd.R_mono (Kd.R_bound h) fun k hk => ⟨hk.1, ?_⟩
 obtain ⟨_, _, _, q, _, cells, hc⟩ := hk
 rintro rfl
 rw [hb] at hc
 exact absurd (Option.some.inj hc) (by simp)
theorem R_update {α : Type} {d : Kd α} {e : Nat} {w w' : World} {base : Nat} {v : Value} {xs : List α} {B n : Nat} {D : DataW Unit} (h : d.R e w base (fun _ => True) v xs) (hm : w.ownsMap Try.prog 55 (plainElem Try.prog 3) B n D) (hg : w.grownBy w' (some B)) : d.R e w' base (fun _ => True) v xs :=
 Kd.R_mono (Kd.R_grown (R_notmap h hm) hg (fun k hk he => hk.2 (Option.some.inj he))) (fun _ _ => trivial)
theorem R_madeAt {α : Type} {d : Kd α} {e : Nat} {w : World} {base : Nat} {ok : Nat → Prop} {v : Value} {xs : List α} (h : d.R e w base ok v xs) {b : Nat} (hb : v.ownBlock = some b) : ∃ co, v = .slice (some ⟨b, 0, none⟩) xs.length co ∧ base ≤ b := by
 obtain ⟨inner, h1, h2⟩ := Kd.R_own h
 rcases h2 with ⟨rfl, _⟩ | ⟨g, cap, cur, rfl, hge, _⟩
 ·simp [Value.ownBlock] at hb
 ·have : g = b := by simpa [Value.ownBlock] using hb
  subst this; exact ⟨cap, rfl, hge⟩
theorem wfC_at {l : List S55} (h : wfC_ l = true) (j : Nat) (hj : j < l.length) : (Lit.int .i64 (rd_T55 l (j : Nat)).f0).wf = true ∧ (Lit.int .i64 (rd_T55 l (j : Nat)).f1).wf = true := by
 unfold wfC_ at h
 rw [List.all_eq_true] at h
 have hm : rd_T55 l (j : Nat) ∈ l := by
  unfold rd_T55; rw [List.getD_eq_getElem?_getD, Int.toNat_natCast, List.getElem?_eq_getElem hj]; exact List.getElem_mem hj
 have := of_decide_eq_true (h _ hm)
 exact ⟨wfI_ (by omega) (by omega), wfI_ (by omega) (by omega)⟩
theorem rdn_get (l : List Int) (j : Nat) (hj : j < l.length) : l[j]? = some (rd l (j : Nat)) := by
 unfold rd; rw [List.getD_eq_getElem?_getD, Int.toNat_natCast, List.getElem?_eq_getElem hj]; rfl
theorem rep_of_get (z : List Int) (n : Nat) (hn : z.length = n) (h : ∀ j, j < n → z[j]? = some (-1)) : z = List.replicate n (-1) := by
 apply List.ext_getElem?
 intro j
 by_cases hj : j < n
 ·rw [h j hj, List.getElem?_replicate, if_pos hj]
 ·rw [List.getElem?_eq_none (by omega), List.getElem?_eq_none (by simp; omega)]
theorem infoI_ : (Try.prog.info? 3).map (fun i => (i.zero, i.size, i.bytes)) = some (some (.int .i64 0), 1, 8) := by kernel_rfl
theorem map_ne {α : Type} {d : Kd α} {e : Nat} {w : World} {base : Nat} {ok : Nat → Prop} {v : Value} {xs : List α} {B n : Nat} {D : DataW Unit} (h : d.R e w base ok v xs) (hm : w.ownsMap Try.prog 55 (plainElem Try.prog 3) B n D) : some B ≠ v.ownBlock := fun he => ((R_notmap h hm).1 B he.symm).2 rfl
theorem around_wf {x y : Int} {ds : List S55} (h : impl_around.f x y = some ds) (hx : (Lit.int .i64 x).wf = true) (hy : (Lit.int .i64 y).wf = true) : ds.length = 4 ∧ ∀ j, j < ds.length → (Lit.int .i64 (rd_T55 ds (j : Nat)).f0).wf = true ∧ (Lit.int .i64 (rd_T55 ds (j : Nat)).f1).wf = true := by
 unfold impl_around.f at h
 obtain rfl := Option.some.inj h
 refine ⟨rfl, fun j hj => ?_⟩
 have : j = 0 ∨ j = 1 ∨ j = 2 ∨ j = 3 := by simp at hj; omega
 rcases this with rfl | rfl | rfl | rfl
 ·exact ⟨hx, wrap64_wf _⟩
 ·exact ⟨wrap64_wf _, hy⟩
 ·exact ⟨wrap64_wf _, hy⟩
 ·exact ⟨hx, wrap64_wf _⟩
theorem dropC_cons (l : List S55) (j : Nat) (hj : j < l.length) : l.drop j = rd_T55 l (j : Nat) :: l.drop (j + 1) := by
 rw [List.drop_eq_getElem_cons hj]; congr 1
 unfold rd_T55; rw [List.getD_eq_getElem?_getD, Int.toNat_natCast, List.getElem?_eq_getElem hj]; rfl
theorem plN_lt (l : List S55) (x y : Int) : ∀ (n j : Nat), plN_ l n x y = some j → j < n := by
 intro n
 induction n with
 | zero => intro j h; simp [plN_] at h
 | succ n ih =>
  intro j h
  unfold plN_ at h
  split at h
  ·obtain rfl := Option.some.inj h; omega
  ·have := ih j h; omega
set_option maxHeartbeats 8000000 in
set_option maxRecDepth 100000 in
theorem impl_parts.calls (k : Nat) (A0 : Option Addr) (c0 : Nat) (l0 : List S55) (r : List Int) (w : World) (hr0 : Kd.C k55 w A0 l0.length l0) (hc0 : l0.length ≤ c0) (h : impl_parts.f k l0 = some r) :
  Calls Try.prog 131 #[.slice A0 l0.length c0, .func (.func 48) #[] #[]] w fun e w' => ∃ v0_ : Value, e = .returned (v0_) ∧ Kd.R (Kd.int .i64) 2 w' w.heap.size (fun _ => True) v0_ r ∧ Below w.heap.size w w' := by
 have hu1 := Try.underlying39
 have hu2 := Try.underlying55
 have hmm := @run_makeMap Try.prog
 have HR0 := Aside0.mk hr0
 have HC0 := Aside0.mk hc0
 clear hr0 hc0
 unfold impl_parts.f at h
 by_cases hb : l0.length ≤ 1000000
 rotate_left
 ·rw [if_neg hb] at h; exact absurd h (by simp)
 rw [if_pos hb] at h
 by_cases hw : wfC_ l0 = true
 rotate_left
 ·rw [if_neg hw] at h; exact absurd h (by simp)
 rw [if_pos hw] at h
 have H := Aside0.mk h
 have HW := Aside0.mk hw
 clear h hw
 go_enter Try.func131, Try.ntmps131
 go_wp2_with ((with_reducible refine gate_dst (N := 19) rfl ?_); refine Kd.R_make (Kd.int .i64) (w0 := w) w.heap.size 2 rfl (N := 19) rfl 39 _ _ rfl (l0.length : Int) rfl rfl hu1 (.int .i64 0) 8 info2 rfl (by decide) (by decide) 0 (ok := fun _ => True) (okp := fun _ => True) rfl (fun _ hk => hk) trivial (by omega) (by simp only [Int.toNat_natCast]; omega) (below_alloc (Below.refl _ _) _) (by simp) ?_)
 intro vo w1 hR hB1 hg g hgb hgs
 obtain ⟨co, rfl, hgw⟩ := R_madeAt hR hgb
 rw [List.length_replicate] at *
 clear hgs
 have HO := Aside0.mk hR
 have HB := Aside0.mk hB1
 have HM := Aside0.mk ((World.ownsMap_made (H := Unit) w Try.prog 55 (plainElem Try.prog 3)).kept hg (by simp))
 have HG := Aside0.mk hgw
 clear hR hB1 hg hgb hgw
 go_wp2_with fail
 go_loopg [22] l0.length (fun gk v22 wr => ∃ (i : Nat) (z : List Int) (D : DataW Unit), v22 = .int .i64 i ∧ Aside0 (gk + i = l0.length) ∧ Aside0 (PlOk_ D l0 i) ∧ Aside0 (wr.ownsMap Try.prog 55 (plainElem Try.prog 3) w.heap.size i D) ∧ Aside0 (Kd.R (Kd.int .i64) 2 wr w.heap.size (fun _ => True) (.slice (some ⟨g, 0, none⟩) l0.length co) z) ∧ Aside0 (∀ j, j < i → z[j]? = some (-1)) ∧ Aside0 (Below w.heap.size w wr))
 case atStart => exact ⟨0, List.replicate l0.length 0, .map [], rfl, ⟨rfl⟩, ⟨PlOk_.start l0⟩, HM, HO, ⟨fun j hj => by omega⟩, HB⟩
 case round =>
  clear HM HO HB
  obtain ⟨i, z, D, rfl, HK, HP, HM, HO, HZ, HB⟩ := hrel
  have hzl := (Kd.R_reads' HO.out).1
  have HZL := Aside0.mk hzl
  cases gk with
  | zero =>
   have hi : i = l0.length := by have := HK.out; omega
   have d1 : decide ((i : Int) < (l0.length : Int)) = false := decide_eq_false (by omega)
   have d2 : decide (i < l0.length) = false := decide_eq_false (by omega)
   have hz : z = List.replicate l0.length (-1) := rep_of_get z _ hzl.symm (fun j hj => HZ.out j (by omega))
   have H2 : Aside0 (impl_parts.outer k l0 l0.length 0 z = some r) := ⟨by rw [hz]; exact H.out⟩
   have HP2 : Aside0 (PlOk_ D l0 l0.length) := ⟨by rw [← hi]; exact HP.out⟩
   have HI := Aside0.mk hi
   clear hzl hz H HP HZ hi
   go_wp2_with fail
   go_loopg [36] l0.length (fun gk v36 wr => ∃ (i2 : Nat) (z2 : List Int), v36 = .int .i64 i2 ∧ Aside0 (gk + i2 = l0.length) ∧ Aside0 (impl_parts.outer k l0 gk i2 z2 = some r) ∧ Aside0 (wr.ownsMap Try.prog 55 (plainElem Try.prog 3) w.heap.size i D) ∧ Aside0 (Kd.R (Kd.int .i64) 2 wr w.heap.size (fun _ => True) (.slice (some ⟨g, 0, none⟩) l0.length co) z2) ∧ Aside0 (Below w.heap.size w wr))
   case atStart => exact ⟨0, z, rfl, ⟨rfl⟩, H2, HM, HO, HB⟩
   case round =>
    clear H2 HM HO HB HZL
    obtain ⟨i2, z2, rfl, HK2, H2, HM, HO, HB⟩ := hrel
    cases gk with
    | zero =>
     have hi2 : i2 = l0.length := by have := HK2.out; omega
     have e1 : decide ((i2 : Int) < (l0.length : Int)) = false := decide_eq_false (by omega)
     have e2 : decide (i2 < l0.length) = false := decide_eq_false (by omega)
     have hz2 : some z2 = some r := H2.out
     obtain rfl := Option.some.inj hz2
     clear hz2 H2 hi2
     go_wp2_with fail
     go_ret
     exact ⟨_, rfl, HO.out, HB.out⟩
    | succ gk2 =>
     have hi2 : i2 < l0.length := by have := HK2.out; omega
     have p1 : 0 ≤ (i2 : Int) := by omega
     have q1 : (i2 : Int) < (l0.length : Int) := by omega
     have e1 : decide ((i2 : Int) < (l0.length : Int)) = true := decide_eq_true q1
     have e2 : decide (i2 < l0.length) = true := decide_eq_true hi2
     obtain ⟨hy, hz⟩ := Kd.R_celln 0 HO.out (i2 : Int) p1 q1
     rw [Int.toNat_natCast] at hy hz
     replace hy : wr.cell? ⟨g, i2, none⟩ = some (.int .i64 (rd z2 i2)) := hy
     have hH : (if rd z2 (i2 : Nat) ≥ 0 then impl_parts.outer k l0 gk2 (i2 + 1) z2 else ((impl_parts.bfs k l0 (i2 : Nat) 0 (z2.set i2 (i2 : Nat)) [(i2 : Int)]).bind fun out => impl_parts.outer k l0 gk2 (i2 + 1) out)) = some r := H2.out
     clear H2 d1 d2
     by_cases c : rd z2 (i2 : Nat) ≥ 0
     ·rw [if_pos c] at hH
      have H2 := Aside0.mk hH
      have c1 : decide (0 ≤ rd z2 (i2 : Nat)) = true := decide_eq_true c
      clear hH c
      go_wp2_with fail
      go_roundg gk2
      case measure => omega
      case rel => exact ⟨i2 + 1, z2, by go_num, ⟨by have := HK2.out; omega⟩, H2, HM, HO, HB⟩
     ·rw [if_neg c] at hH
      have c1 : decide (0 ≤ rd z2 (i2 : Nat)) = false := decide_eq_false c
      obtain ⟨z3, hz3, hH3⟩ := Option.bind_eq_some_iff.mp hH
      have H2 := Aside0.mk hH3
      have HZ3 := Aside0.mk hz3
      clear hH c hH3 hz3
      have HPG := Aside0.mk (Kd.R_putg HO.out (i2 : Int) (i2 : Int))
      rw [Int.toNat_natCast] at HPG
      generalize rd z2 (i2 : Nat) = zz at *
      go_wp2_with ((with_reducible refine gate_store (t := 2) (p := 47) rfl ?_); refine store_event (t := 2) (p := 47) (v := .tmp 46) (w1 := wr.setCell ⟨g, i2, none⟩ (.int .i64 (i2 : Int))) rfl rfl rfl (by first | (go_simp; done) | (go_simp; rfl)) ?_)
      intro w3 hw3
      have hne := (R_notmap HO.out HM.out).1 g (by simp [Value.ownBlock])
      have HO3 : Aside0 (Kd.R (Kd.int .i64) 2 w3 w.heap.size (fun _ => True) (.slice (some ⟨g, 0, none⟩) l0.length co) (z2.set i2 (i2 : Int))) := ⟨by rw [hw3]; exact HPG.out.1⟩
      have HM3 : Aside0 (w3.ownsMap Try.prog 55 (plainElem Try.prog 3) w.heap.size i D) := ⟨by rw [hw3]; exact HM.out.setCell (fun e => hne.2 e.symm) _⟩
      have HB3 : Aside0 (Below w.heap.size w w3) := ⟨by rw [hw3]; exact below_set HB.out HG.out⟩
      clear HPG HM HB HO hy hz hw3 hne
      go_wp2_with ((with_reducible refine gate_dst (N := 49) rfl ?_); refine Kd.R_lit (Kd.int .i64) _ 3 ?hg (N := 49) ?hd (xs := ([(i2 : Int)] : List Int)) (inner := [.int .i64 (i2 : Int)]) (ok := fun _ => True) (okp := fun _ => True) ?hr ?hp (fun _ hk => hk) trivial (Below.refl _ _) (Nat.le_refl _) (by simp) ?_; (case hd => rfl); (case hg => rfl); (case hr => first | (go_simp; done) | (go_simp; rfl)); (case hp => exact (Reps.one (show Kd.M (Kd.int .i64) _ _ _ (i2 : Int) [.int .i64 (i2 : Int)] from rfl) (Reps.none _ _))))
      intro vq w4 ho hb4 hg4 nb hnb hns
      have HQ : Aside0 (Kd.R (Kd.int .i64) 3 w4 w.heap.size (fun _ => True) vq [(i2 : Int)]) := ⟨Kd.R_lower ho HB3.out.size⟩
      have HO4 := Aside0.mk (Kd.R_below HO3.out hb4)
      have HM4 := Aside0.mk (ownsMap_below HM3.out hb4)
      have HB4 := Aside0.mk (below_step HB3.out hb4)
      clear ho hb4 hg4 hnb hns HO3 HM3 HB3
      go_wp2_with fail
      go_loopg [10, 11] k (fun kq v10 v11 wr => ∃ (a : Nat) (out q : List Int), v11 = .int .i64 a ∧ Aside0 (impl_parts.bfs kq l0 (i2 : Nat) a out q = some z3) ∧ Aside0 (wr.ownsMap Try.prog 55 (plainElem Try.prog 3) w.heap.size i D) ∧ Aside0 (Kd.R (Kd.int .i64) 2 wr w.heap.size (fun _ => True) (.slice (some ⟨g, 0, none⟩) l0.length co) out) ∧ Aside0 (Kd.R (Kd.int .i64) 3 wr w.heap.size (fun _ => True) v10 q) ∧ Aside0 (Below w.heap.size w wr))
      case atStart => exact ⟨0, _, _, rfl, HZ3, HM4, HO4, HQ, HB4⟩
      case round =>
       clear HZ3 HM4 HO4 HQ HB4
       obtain ⟨a, out, q, rfl, HF, HM, HO, HQ, HB⟩ := hrel
       obtain ⟨Aq, cq, rfl, hcq, hCq⟩ := Kd.R_reads HQ.out
       have HCQ := Aside0.mk hCq
       have hql : q.length ≤ 9223372036854775807 := hCq.2.1
       clear hCq hcq
       cases gk with
       | zero => exact absurd HF.out (by simp [impl_parts.bfs])
       | succ kq =>
        have hF := HF.out
        clear HF
        simp only [impl_parts.bfs] at hF
        by_cases ca : a < q.length
        ·rw [if_pos ca] at hF
         have f1 : decide ((a : Int) < (q.length : Int)) = true := decide_eq_true (by omega)
         have f2 : decide (a < q.length) = true := decide_eq_true ca
         have pa : 0 ≤ (a : Int) := by omega
         have qa : (a : Int) < (q.length : Int) := by omega
         by_cases cb : 0 ≤ rd q (a : Nat)
         rotate_left
         ·rw [if_neg cb] at hF; exact absurd hF (by simp)
         rw [if_pos cb] at hF
         by_cases cc : rd q (a : Nat) < (l0.length : Int)
         rotate_left
         ·rw [if_neg cc] at hF; exact absurd hF (by simp)
         rw [if_pos cc] at hF
         obtain ⟨ds, hds, hF⟩ := Option.bind_eq_some_iff.mp hF
         obtain ⟨⟨o', q'⟩, hnear, hF⟩ := Option.bind_eq_some_iff.mp hF
         replace hF : impl_parts.bfs kq l0 (i2 : Nat) (a + 1) o' q' = some z3 := hF
         obtain ⟨m, hm⟩ := Int.eq_ofNat_of_zero_le cb
         obtain ⟨adq, eq1, hq0⟩ := Kd.at_int HCQ.out (a : Int) pa qa
         subst eq1
         rw [Int.toNat_natCast, hm] at hq0
         rw [hm] at cb cc hds
         obtain ⟨wf0, wf1⟩ := wfC_at HW.out m (by omega)
         obtain ⟨ds4, dswf⟩ := around_wf hds wf0 wf1
         obtain ⟨ad, e3, hx0, hx1⟩ := at_T55 HR0.out (m : Int) cb cc
         subst e3
         rw [Int.toNat_natCast] at hx0 hx1
         replace hx0 := (HB.out.cell (World.block_lt_of_cell? w _ hx0)).trans hx0
         replace hx1 := (HB.out.cell (World.block_lt_of_cell? w _ hx1)).trans hx1
         have g1 : decide ((m : Int) < (l0.length : Int)) = true := decide_eq_true cc
         have g2 : decide (m < l0.length) = true := decide_eq_true (by omega)
         have HDS := Aside0.mk hds
         have HDW := Aside0.mk dswf
         have HD4 := Aside0.mk ds4
         have HF := Aside0.mk hF
         have HN : Aside0 (impl_parts.near l0 (i2 : Nat) (ds.drop 0) out q = some (o', q')) := ⟨hnear⟩
         clear hF hnear hds dswf ds4 hm wf0 wf1 ca
         generalize rd_T55 l0 (m : Int) = cm at *
         go_wp2_with fail
         refine (impl_around.calls cm.f0 cm.f1 ds _ HDS.out).mono ?_
         rintro e w5 ⟨vd, rfl, hRd, hb5⟩
         obtain ⟨Ad, cd, rfl, hcd, hCd⟩ := Kd.R_reads hRd
         have HD := Aside0.mk (Kd.R_lower hRd HB.out.size)
         have HO5 := Aside0.mk (Kd.R_below HO.out hb5)
         have HQ5 := Aside0.mk (Kd.R_below HQ.out hb5)
         have HM5 := Aside0.mk (ownsMap_below HM.out hb5)
         have HB5 := Aside0.mk (below_step HB.out hb5)
         have hdl : ds.length ≤ 9223372036854775807 := hCd.2.1
         clear hRd hb5 hcd hCd HO HQ HM HB hq0 hx0 hx1 HCQ
         go_wp2_with fail
         go_loopg [10, 66] ds.length (fun gk v10 v66 wr => ∃ (j : Nat) (out q : List Int), v66 = .int .i64 j ∧ Aside0 (gk + j = ds.length) ∧ Aside0 (impl_parts.near l0 (i2 : Nat) (ds.drop j) out q = some (o', q')) ∧ Aside0 (wr.ownsMap Try.prog 55 (plainElem Try.prog 3) w.heap.size i D) ∧ Aside0 (Kd.R (Kd.int .i64) 2 wr w.heap.size (fun _ => True) (.slice (some ⟨g, 0, none⟩) l0.length co) out) ∧ Aside0 (Kd.R (Kd.int .i64) 3 wr w.heap.size (fun _ => True) v10 q) ∧ Aside0 (Kd.R k55 55 wr w.heap.size (fun _ => True) (.slice Ad ds.length cd) ds) ∧ Aside0 (Below w.heap.size w wr))
         case atStart => exact ⟨0, out, q, rfl, ⟨rfl⟩, HN, HM5, HO5, HQ5, HD, HB5⟩
         case round =>
          clear HN HM5 HO5 HQ5 HD HB5
          obtain ⟨j, out, q, rfl, HKJ, HN, HM, HO, HQ, HD, HB⟩ := hrel
          cases gk with
          | zero =>
           have hj : j = ds.length := by have := HKJ.out; omega
           have h1 : decide ((j : Int) < (ds.length : Int)) = false := decide_eq_false (by omega)
           have h2 : decide (j < ds.length) = false := decide_eq_false (by omega)
           have hn := HN.out
           rw [hj, List.drop_length] at hn
           have hn2 : some (out, q) = some (o', q') := hn
           obtain ⟨rfl, rfl⟩ := Prod.mk.inj (Option.some.inj hn2)
           clear hn hn2 HN hj
           go_wp2_with fail
           go_roundg kq
           case measure => omega
           case rel => exact ⟨a + 1, out, q, by go_num, HF, HM, HO, HQ, HB⟩
          | succ gk3 =>
           have hj : j < ds.length := by have := HKJ.out; omega
           have h1 : decide ((j : Int) < (ds.length : Int)) = true := decide_eq_true (by omega)
           have h2 : decide (j < ds.length) = true := decide_eq_true hj
           have pj : 0 ≤ (j : Int) := by omega
           have qj : (j : Int) < (ds.length : Int) := by omega
           obtain ⟨ad, e3, hx0, hx1⟩ := at_T55 (Kd.R_reads' HD.out).2.2 j pj qj
           subst e3
           rw [Int.toNat_natCast] at hx0 hx1
           obtain ⟨wf0, wf1⟩ := HDW.out j hj
           obtain ⟨kl, hkl⟩ := keyC_ _ _ wf0 wf1
           have hn := HN.out
           rw [dropC_cons ds j hj] at hn
           have HKL := Aside0.mk hkl
           obtain ⟨px, py⟩ := HP2.out.2 _ _ kl hkl
           clear hkl wf0 wf1 HN
           generalize rd_T55 ds (j : Int) = cj at *
           obtain ⟨jj, hjj⟩ : ∃ jj, jj = j := ⟨j, rfl⟩
           rw [← hjj] at hn
           have hn2 : (match plN_ l0 l0.length cj.f0 cj.f1 with
            | some j => if rd out (j : Nat) < 0 then (if q.length < 1000000 then impl_parts.near l0 (i2 : Nat) (ds.drop (jj + 1)) (out.set j (i2 : Nat)) (q ++ [(j : Int)]) else none) else impl_parts.near l0 (i2 : Nat) (ds.drop (jj + 1)) out q
            | none => impl_parts.near l0 (i2 : Nat) (ds.drop (jj + 1)) out q) = some (o', q') := hn
           clear hn
           rw [hjj] at hn2
           clear hjj
           cases hpl : plN_ l0 l0.length cj.f0 cj.f1 with
           | none =>
            have hh := py hpl
            rw [hpl] at hn2
            have HN := Aside0.mk hn2
            clear hn2 px py hpl
            go_wp2_with (at_lookup; refine wpList_lookup_own_ok_int _ rfl _ _ 144 rfl 55 3 .i64 lawC_ Try.underlying144 Try.underlying3 (zeroI_ _) w.heap.size i D rfl (HM.out.alloc _) _ _ rfl HKL.out ?_)
            intro c hat hwc
            clear hat hwc hh
            go_wp2_with fail
            go_roundg gk3
            case measure => omega
            case rel => exact ⟨j + 1, out, q, by go_num, ⟨by have := HKJ.out; omega⟩, HN, ⟨HM.out.alloc _⟩, ⟨Kd.R_alloc HO.out _⟩, ⟨Kd.R_alloc HQ.out _⟩, ⟨Kd.R_alloc HD.out _⟩, ⟨below_alloc HB.out _⟩⟩
           | some jx =>
            obtain ⟨hh, hat0⟩ := px jx hpl
            have hjx := plN_lt l0 _ _ _ _ hpl
            rw [hpl] at hn2
            have hn3 : (if rd out (jx : Nat) < 0 then (if q.length < 1000000 then impl_parts.near l0 (i2 : Nat) (ds.drop (j + 1)) (out.set jx (i2 : Nat)) (q ++ [(jx : Int)]) else none) else impl_parts.near l0 (i2 : Nat) (ds.drop (j + 1)) out q) = some (o', q') := hn2
            have HT := Aside0.mk hat0
            clear hn2 px py hpl hat0
            have px : 0 ≤ (jx : Int) := by omega
            have qx : (jx : Int) < (l0.length : Int) := by omega
            have g3 : decide ((jx : Int) < (l0.length : Int)) = true := decide_eq_true qx
            have g4 : decide (jx < l0.length) = true := decide_eq_true hjx
            have HOA := Aside0.mk (Kd.R_alloc HO.out (.cells #[.int .i64 cj.f0, .int .i64 cj.f1] 55 (0, 0)))
            obtain ⟨hy, hz⟩ := Kd.R_celln 0 HOA.out (jx : Int) px qx
            rw [Int.toNat_natCast] at hy hz
            replace hy : (wr.alloc (.cells #[.int .i64 cj.f0, .int .i64 cj.f1] 55 (0, 0))).cell? ⟨g, jx, none⟩ = some (.int .i64 (rd out jx)) := hy
            have HPG := Aside0.mk (Kd.R_putg HOA.out (jx : Int) (i2 : Int))
            rw [Int.toNat_natCast] at HPG
            by_cases cn : rd out (jx : Nat) < 0
            ·rw [if_pos cn] at hn3
             have cn1 : decide (rd out (jx : Nat) < 0) = true := decide_eq_true cn
             by_cases cq2 : q.length < 1000000
             rotate_left
             ·rw [if_neg cq2] at hn3; exact absurd hn3 (by simp)
             rw [if_pos cq2] at hn3
             have HN := Aside0.mk hn3
             have HQL := Aside0.mk cq2
             clear hn3 cn cq2
             generalize rd out (jx : Nat) = zz at *
             go_wp2_with (at_lookup; refine wpList_lookup_own_ok_int _ rfl _ _ 144 rfl 55 3 .i64 lawC_ Try.underlying144 Try.underlying3 (zeroI_ _) w.heap.size i D rfl (HM.out.alloc _) _ _ rfl HKL.out ?_)
             intro c hat hwc
             have hcj : c = (jx : Int) := by
              rw [HT.out] at hat
              injection hat with hat
              injection hat with _ hat
              exact hat.symm
             subst hcj
             clear hat hwc hh
             go_wp2_with ((with_reducible refine gate_store (t := 2) (p := 87) rfl ?_); refine store_event (t := 2) (p := 87) (v := .tmp 86) (w1 := (wr.alloc (.cells #[.int .i64 cj.f0, .int .i64 cj.f1] 55 (0, 0))).setCell ⟨g, jx, none⟩ (.int .i64 (i2 : Int))) rfl rfl rfl (by first | (go_simp; done) | (go_simp; rfl)) ?_)
             intro w6 hw6
             have hne := (R_notmap HO.out HM.out).1 g (by simp [Value.ownBlock])
             have hg6 : (wr.alloc (.cells #[.int .i64 cj.f0, .int .i64 cj.f1] 55 (0, 0))).grownBy w6 (some g) := by rw [hw6]; exact HPG.out.2
             have HO6 : Aside0 (Kd.R (Kd.int .i64) 2 w6 w.heap.size (fun _ => True) (.slice (some ⟨g, 0, none⟩) l0.length co) (out.set jx (i2 : Int))) := ⟨by rw [hw6]; exact HPG.out.1⟩
             have HM6 : Aside0 (w6.ownsMap Try.prog 55 (plainElem Try.prog 3) w.heap.size i D) := ⟨by rw [hw6]; exact (HM.out.alloc _).setCell (fun e => hne.2 e.symm) _⟩
             have HQ6 : Aside0 (Kd.R (Kd.int .i64) 3 w6 w.heap.size (fun _ => True) u10 q) := ⟨Kd.R_over' (v := .slice (some ⟨g, 0, none⟩) l0.length co) (Kd.R_alloc HQ.out _) (Kd.R_typed HOA.out) (by decide) hg6⟩
             have HD6 : Aside0 (Kd.R k55 55 w6 w.heap.size (fun _ => True) (.slice (some ad) ds.length cd) ds) := ⟨Kd.R_over' (v := .slice (some ⟨g, 0, none⟩) l0.length co) (Kd.R_alloc HD.out _) (Kd.R_typed HOA.out) (by decide) hg6⟩
             have HB6 : Aside0 (Below w.heap.size w w6) := ⟨by rw [hw6]; exact below_set (below_alloc HB.out _) HG.out⟩
             clear HPG HM HB HO HQ HD HOA hy hz hw6 hne hg6 hx0 hx1
             go_wp2_with ((with_reducible refine gate_builtin (b := .append) (xs := #[.tmp 88, .tmp 90]) rfl ?_); at_builtin; refine Kd.R_append (Kd.int .i64) (w0 := w) w.heap.size rfl (.tmp 88) (.tmp 90) 145 3 (.int .i64 0) 8 rfl Try.underlying145 infoI_ rfl (by decide) (by omega) u10 q (jx : Int) [.int .i64 (jx : Int)] (fun _ => True) (fun _ => False) rfl rfl ?aP (fun _ hk => hk.elim) ?aF ?aO ?aB ?aS ?aL ?_; (case aP => exact rfl); (case aB => exact HB6.out); (case aF => exact (fun _ _ => trivial)); (case aO => exact HQ6.out); (case aS => exact HB6.out.size); (case aL => have := HQL.out; omega))
             intro v7 w7 ho hb7 hg7 hat7
             have HO7 := Aside0.mk (Kd.R_over' HO6.out (Kd.R_typed HQ6.out) (by decide) hg7)
             have HD7 := Aside0.mk (Kd.R_over' HD6.out (Kd.R_typed HQ6.out) (by decide) hg7)
             have HM7 := Aside0.mk (HM6.out.kept hg7 (map_ne HQ6.out HM6.out))
             have HQ7 := Aside0.mk ho
             have HB7 := Aside0.mk hb7
             clear ho hb7 hg7 hat7 HO6 HD6 HM6 HQ6 HB6
             go_wp2_with fail
             go_roundg gk3
             case measure => omega
             case rel => exact ⟨j + 1, out.set jx (i2 : Int), q ++ [(jx : Int)], by go_num, ⟨by have := HKJ.out; omega⟩, HN, HM7, HO7, HQ7, HD7, HB7⟩
            ·rw [if_neg cn] at hn3
             have cn1 : decide (rd out (jx : Nat) < 0) = false := decide_eq_false cn
             have HN := Aside0.mk hn3
             clear hn3 cn HPG
             generalize rd out (jx : Nat) = zz at *
             go_wp2_with (at_lookup; refine wpList_lookup_own_ok_int _ rfl _ _ 144 rfl 55 3 .i64 lawC_ Try.underlying144 Try.underlying3 (zeroI_ _) w.heap.size i D rfl (HM.out.alloc _) _ _ rfl HKL.out ?_)
             intro c hat hwc
             have hcj : c = (jx : Int) := by
              rw [HT.out] at hat
              injection hat with hat
              injection hat with _ hat
              exact hat.symm
             subst hcj
             clear hat hwc hh
             go_wp2_with fail
             go_roundg gk3
             case measure => omega
             case rel => exact ⟨j + 1, out, q, by go_num, ⟨by have := HKJ.out; omega⟩, HN, ⟨HM.out.alloc _⟩, HOA, ⟨Kd.R_alloc HQ.out _⟩, ⟨Kd.R_alloc HD.out _⟩, ⟨below_alloc HB.out _⟩⟩
        ·rw [if_neg ca] at hF
         obtain rfl := Option.some.inj hF
         have f1 : decide ((a : Int) < (q.length : Int)) = false := decide_eq_false (by omega)
         have f2 : decide (a < q.length) = false := decide_eq_false ca
         clear hF ca
         go_wp2_with fail
         go_roundg gk2
         case measure => omega
         case rel => exact ⟨i2 + 1, out, by go_num, ⟨by have := HK2.out; omega⟩, H2, HM, HO, HB⟩
  | succ gk2 =>
   have hi : i < l0.length := by have := HK.out; omega
   have p1 : 0 ≤ (i : Int) := by omega
   have q1 : (i : Int) < (l0.length : Int) := by omega
   obtain ⟨ad, e1, hx0, hx1⟩ := at_T55 HR0.out i p1 q1
   subst e1
   rw [Int.toNat_natCast] at hx0 hx1
   have d1 : decide ((i : Int) < (l0.length : Int)) = true := decide_eq_true q1
   have d2 : decide (i < l0.length) = true := decide_eq_true hi
   obtain ⟨wf0, wf1⟩ := wfC_at HW.out i hi
   obtain ⟨kl, hkl⟩ := keyC_ _ _ wf0 wf1
   have HP2 := Aside0.mk (HP.out.step hkl)
   replace hx0 := (HB.out.cell (World.block_lt_of_cell? w _ hx0)).trans hx0
   replace hx1 := (HB.out.cell (World.block_lt_of_cell? w _ hx1)).trans hx1
   have HKL := Aside0.mk hkl
   have hlm : i < maxLen := by simp only [maxLen]; omega
   clear HP hkl wf0 wf1 hzl
   generalize rd_T55 l0 (i : Int) = cc at *
   have wfi : (Lit.int .i64 (i : Int)).wf = true := wfI_ (by omega) (by omega)
   go_wp2_with (at_mapUpdate; refine wpList_mapUpdate_own _ rfl _ _ _ 144 rfl 55 3 lawC_ Try.underlying144 _ w.heap.size i _ rfl (HM.out.alloc _) hlm _ _ _ rfl rfl HKL.out _ [] (plainElem_int Try.underlying3 wfi) ?_)
   intro w2 hown hg
   have HO2 := Aside0.mk (R_update (Kd.R_alloc HO.out _) (HM.out.alloc _) hg)
   have hne := (R_notmap HO2.out hown).1 g (by simp [Value.ownBlock])
   have HB2 := Aside0.mk ((below_alloc HB.out (.cells #[.int .i64 cc.f0, .int .i64 cc.f1] 55 (0, 0))).grown hg (below_alloc HB.out _).size (by intro k hk; cases hk; exact Nat.le_refl _))
   obtain ⟨hy, hz⟩ := Kd.R_celln 0 HO2.out (i : Int) p1 q1
   have HPG := Aside0.mk (Kd.R_putg HO2.out (i : Int) (-1))
   have HM2 := Aside0.mk hown
   have HNE := Aside0.mk hne.2
   clear HO HM HB hg hown hne
   rw [Int.toNat_natCast] at hy hz HPG
   go_wp2_with ((with_reducible refine gate_store (t := 2) (p := 32) rfl ?_); refine store_event (t := 2) (p := 32) (v := .const (.int .i64 (-1))) (w1 := w2.setCell ⟨g, i, none⟩ (.int .i64 (-1))) rfl rfl rfl (by first | (go_simp; done) | (go_simp; rfl)) ?_)
   intro w3 hw3
   have HO3 : Aside0 (Kd.R (Kd.int .i64) 2 w3 w.heap.size (fun _ => True) (.slice (some ⟨g, 0, none⟩) l0.length co) (z.set i (-1))) := ⟨by rw [hw3]; exact HPG.out.1⟩
   have HM3 : Aside0 (w3.ownsMap Try.prog 55 (plainElem Try.prog 3) w.heap.size (i + 1) (D.put kl (.lit (.int .i64 (i : Nat))))) := ⟨by rw [hw3]; exact HM2.out.setCell (fun e => HNE.out e.symm) _⟩
   have HB3 : Aside0 (Below w.heap.size w w3) := ⟨by rw [hw3]; exact below_set HB2.out HG.out⟩
   clear HPG HM2 HB2 HO2 hy hz hw3 hx0 hx1
   go_wp2_with fail
   go_roundg gk2
   case measure => omega
   case rel => exact ⟨i + 1, z.set i (-1), _, by go_num, ⟨by have := HK.out; omega⟩, HP2, HM3, HO3, ⟨fun j hj => by
    rw [List.getElem?_set]
    by_cases e : i = j
    ·rw [if_pos e, if_pos (by have := HZL.out; omega)]
    ·rw [if_neg e]; exact HZ.out j (by omega)⟩, HB3⟩
end

/-! ### impl_connected: function 113 -/
def impl_connected.f (k : Nat) (l0 : List (S55))  : Option (Bool) := (impl_parts.f k l0).bind fun t318 => ((slices_Max_int64.f k t318).bind fun t321 => (some (t321 == 0)))
theorem impl_connected.mono : ∀ a0 k, LeO (impl_connected.f k a0) (impl_connected.f (k + 1) a0) := by
 intro a0 k
 unfold impl_connected.f
 repeat' first
   | (with_reducible exact impl_parts.mono _ _)
   | (with_reducible exact slices_Max_int64.mono _ _)
   | (with_reducible exact LeO.refl _)
   | (with_reducible exact LeO.none _)
   | (with_reducible refine LeO.ite ?_ ?_)
   | (with_reducible refine LeO.bind ?_ (fun _ => ?_))
   | exact impl_parts.mono _ _
   | exact slices_Max_int64.mono _ _
   | exact LeO.none _
   | refine LeO.ite ?_ ?_
   | refine LeO.bind ?_ (fun _ => ?_)
set_option maxHeartbeats 8000000 in
set_option maxRecDepth 100000 in
theorem impl_connected.calls (k : Nat) (A0 : Option Addr) (c0 : Nat) (l0 : List (S55))  (r : Bool) (w : World) (hr0 : Kd.C k55 w A0 l0.length l0) (hc0 : l0.length ≤ c0) (h : impl_connected.f k l0 = some r) :
  Calls Try.prog 113 #[.slice A0 l0.length c0, .func (.func 48) #[] #[]] w fun e w' => e = .returned (.bool r) ∧ Below w.heap.size w w' := by
 have HR0 := Aside0.mk hr0
 have HC0 := Aside0.mk hc0
 clear hr0 hc0
 have HB := Aside0.mk (Below.refl w.heap.size w)
 have H : ((impl_parts.f k l0).bind fun t318 => ((slices_Max_int64.f k t318).bind fun t321 => (some (t321 == 0)))) = some r := h
 clear h
 replace H := Option.bind_eq_some_iff.mp H
 obtain ⟨t318, A30, H⟩ := H
 replace H : ((slices_Max_int64.f k t318).bind fun t321 => (some (t321 == 0))) = some r := H
 have A3 := Aside0.mk A30
 clear A30
 replace H := Option.bind_eq_some_iff.mp H
 obtain ⟨t321, A40, H⟩ := H
 replace H : (some (t321 == 0)) = some r := H
 have A4 := Aside0.mk A40
 clear A40
 obtain rfl := Option.some.inj H
 go_enter Try.func113, Try.ntmps113
 go_wp2_with (first | ((with_reducible refine gate_callee (f := 131) rfl ?_); refine goesL_ (some 7) rfl rfl Try.func131 (by kernel_rfl) rfl #[.slice A0 l0.length c0, .func (.func 48) #[] #[]] rfl (by (try simp only [List.map_toArray, List.map_cons, List.map_nil]); first | done | rfl) ?_; (with_reducible refine (impl_parts.calls k _ _ l0  t318 _ ?side1 ?side2 A3.out).mono ?_); (case side1 => repeat (first | exact HR0.out | (with_reducible refine Kd.C_alloc ?_ _) | (with_reducible refine Kd.C_drewN ?_ _) | (with_reducible refine Kd.C_drew ?_))); (case side2 => exact HC0.out); rintro e w5 ⟨v319, rfl, ho0, hb⟩; refine ⟨_, rfl, ?_⟩; have n0_ := Aside0.mk (Kd.R_lower ho0 (below_size (by repeat (with_reducible first | exact HB.out | apply below_alloc | apply pw_below_drewN | apply below_drew1)))); have n1_ := Aside0.mk (below_step (by repeat (with_reducible first | exact HB.out | apply below_alloc | apply pw_below_drewN | apply below_drew1)) hb); clear HB; have HO320 := n0_; have HB := n1_; clear n0_ n1_; (try clear hb); (try clear ho0); obtain ⟨Ao6, co6, eo6⟩ := Kd.R_slice HO320.out; subst eo6) | ((with_reducible refine gate_callee (f := 130) rfl ?_); refine goesL_ (some 8) rfl rfl Try.func130 (by kernel_rfl) rfl #[.slice Ao6 t318.length co6] rfl (by (try simp only [List.map_toArray, List.map_cons, List.map_nil]); first | done | rfl) ?_; (with_reducible refine (slices_Max_int64.calls k _ _ t318 t321 _ ?side1 ?side2 A4.out).mono ?_); (case side1 => repeat (first | exact (Kd.R_reads' HO320.out).2.2 | (with_reducible refine Kd.C_alloc ?_ _) | (with_reducible refine Kd.C_drewN ?_ _) | (with_reducible refine Kd.C_drew ?_))); (case side2 => exact (Kd.R_reads' HO320.out).2.1); rintro e w7 ⟨rfl, hb⟩; refine ⟨_, rfl, ?_⟩; have n0_ := Aside0.mk (Kd.R_below (by (with_reducible repeat (first | apply Kd.R_alloc | apply Kd.R_drewN | apply Kd.R_drew)); exact HO320.out) hb); have n1_ := Aside0.mk (below_step (by repeat (with_reducible first | exact HB.out | apply below_alloc | apply pw_below_drewN | apply below_drew1)) hb); clear HO320; clear HB; have HO320 := n0_; have HB := n1_; clear n0_ n1_; (try clear hb)))
 go_ret
 exact ⟨by first | rfl | (simp [*] <;> rfl), by repeat (with_reducible first | exact HB.out | apply below_alloc | apply pw_below_drewN | apply below_drew1)⟩

/-! ### impl_IsConnected: function 80 -/
def impl_IsConnected.f (k : Nat) (l0 : List (S55)) : Option (Bool) := (impl_IsShape.f k l0).bind fun t322 => (if t322 = true then ((impl_connected.f k l0).bind fun t323 => (some t323)) else (some false))
theorem impl_IsConnected.mono : ∀ a0 k, LeO (impl_IsConnected.f k a0) (impl_IsConnected.f (k + 1) a0) := by
 intro a0 k
 unfold impl_IsConnected.f
 repeat' first
   | (with_reducible exact impl_IsShape.mono _ _)
   | (with_reducible exact impl_connected.mono _ _)
   | (with_reducible exact LeO.refl _)
   | (with_reducible exact LeO.none _)
   | (with_reducible refine LeO.ite ?_ ?_)
   | (with_reducible refine LeO.bind ?_ (fun _ => ?_))
   | exact impl_IsShape.mono _ _
   | exact impl_connected.mono _ _
   | exact LeO.none _
   | refine LeO.ite ?_ ?_
   | refine LeO.bind ?_ (fun _ => ?_)
set_option maxHeartbeats 8000000 in
set_option maxRecDepth 100000 in
theorem impl_IsConnected.calls (k : Nat) (A0 : Option Addr) (c0 : Nat) (l0 : List (S55)) (r : Bool) (w : World) (hr0 : Kd.C k55 w A0 l0.length l0) (hc0 : l0.length ≤ c0) (h : impl_IsConnected.f k l0 = some r) :
  Calls Try.prog 80 #[.slice A0 l0.length c0] w fun e w' => e = .returned (.bool r) ∧ Below w.heap.size w w' := by
 have HR0 := Aside0.mk hr0
 have HC0 := Aside0.mk hc0
 clear hr0 hc0
 have HB := Aside0.mk (Below.refl w.heap.size w)
 have H : ((impl_IsShape.f k l0).bind fun t322 => (if t322 = true then ((impl_connected.f k l0).bind fun t323 => (some t323)) else (some false))) = some r := h
 clear h
 replace H := Option.bind_eq_some_iff.mp H
 obtain ⟨t322, A20, H⟩ := H
 replace H : (if t322 = true then ((impl_connected.f k l0).bind fun t323 => (some t323)) else (some false)) = some r := H
 have A2 := Aside0.mk A20
 clear A20
 by_cases c3 : t322 = true
 ·subst c3
  have H1 : ((impl_connected.f k l0).bind fun t323 => (some t323)) = some r := by rw [if_pos rfl] at H; exact H
  clear H
  have H := H1
  clear H1
  replace H := Option.bind_eq_some_iff.mp H
  obtain ⟨t323, A40, H⟩ := H
  replace H : (some t323) = some r := H
  have A4 := Aside0.mk A40
  clear A40
  obtain rfl := Option.some.inj H
  go_enter Try.func80, Try.ntmps80
  go_wp2_with (first | ((with_reducible refine gate_callee (f := 89) rfl ?_); refine goesL_ (some 4) rfl rfl Try.func89 (by kernel_rfl) rfl #[.slice A0 l0.length c0] rfl (by (try simp only [List.map_toArray, List.map_cons, List.map_nil]); first | done | rfl) ?_; (with_reducible refine (impl_IsShape.calls k _ _ l0 true _ ?side1 ?side2 A2.out).mono ?_); (case side1 => repeat (first | exact HR0.out | (with_reducible refine Kd.C_alloc ?_ _) | (with_reducible refine Kd.C_drewN ?_ _) | (with_reducible refine Kd.C_drew ?_))); (case side2 => exact HC0.out); rintro e w5 ⟨rfl, hb⟩; refine ⟨_, rfl, ?_⟩; have n0_ := Aside0.mk (below_step (by repeat (with_reducible first | exact HB.out | apply below_alloc | apply pw_below_drewN | apply below_drew1)) hb); clear HB; have HB := n0_; clear n0_; (try clear hb)) | (go_at_call 113; (with_reducible refine (impl_connected.calls k _ _ l0  t323 _ ?side1 ?side2 A4.out).mono ?_); (case side1 => repeat (first | exact (Kd.C_below HR0.out HB.out) | (with_reducible refine Kd.C_alloc ?_ _) | (with_reducible refine Kd.C_drewN ?_ _) | (with_reducible refine Kd.C_drew ?_))); (case side2 => exact HC0.out); rintro e w6 ⟨rfl, hb⟩; have n0_ := Aside0.mk (below_step (by repeat (with_reducible first | exact HB.out | apply below_alloc | apply pw_below_drewN | apply below_drew1)) hb); clear HB; have HB := n0_; clear n0_; (try clear hb)))
  go_ret
  exact ⟨by first | rfl | (simp [*] <;> rfl), by repeat (with_reducible first | exact HB.out | apply below_alloc | apply pw_below_drewN | apply below_drew1)⟩
 ·replace c3 := Bool.eq_false_iff.mpr c3
  subst c3
  have H1 : (some false) = some r := by rw [if_neg (show ¬ (false = true) by decide)] at H; exact H
  clear H
  have H := H1
  clear H1
  obtain rfl := Option.some.inj H
  go_enter Try.func80, Try.ntmps80
  go_wp2_with (first | ((with_reducible refine gate_callee (f := 89) rfl ?_); refine goesL_ (some 4) rfl rfl Try.func89 (by kernel_rfl) rfl #[.slice A0 l0.length c0] rfl (by (try simp only [List.map_toArray, List.map_cons, List.map_nil]); first | done | rfl) ?_; (with_reducible refine (impl_IsShape.calls k _ _ l0 false _ ?side1 ?side2 A2.out).mono ?_); (case side1 => repeat (first | exact HR0.out | (with_reducible refine Kd.C_alloc ?_ _) | (with_reducible refine Kd.C_drewN ?_ _) | (with_reducible refine Kd.C_drew ?_))); (case side2 => exact HC0.out); rintro e w7 ⟨rfl, hb⟩; refine ⟨_, rfl, ?_⟩; have n0_ := Aside0.mk (below_step (by repeat (with_reducible first | exact HB.out | apply below_alloc | apply pw_below_drewN | apply below_drew1)) hb); clear HB; have HB := n0_; clear n0_; (try clear hb)))
  go_ret
  exact ⟨by first | rfl | (simp [*] <;> rfl), by repeat (with_reducible first | exact HB.out | apply below_alloc | apply pw_below_drewN | apply below_drew1)⟩

/-! ### impl_connectedCode: function 45 -/
def impl_connectedCode.f (k : Nat) (l0 : List (S55)) : Option (Int) := (impl_IsConnected.f k l0).bind fun t324 => (if t324 = true then ((impl_shapeCode.f k l0).bind fun t325 => (some t325)) else (some 1))
theorem impl_connectedCode.mono : ∀ a0 k, LeO (impl_connectedCode.f k a0) (impl_connectedCode.f (k + 1) a0) := by
 intro a0 k
 unfold impl_connectedCode.f
 repeat' first
   | (with_reducible exact impl_IsConnected.mono _ _)
   | (with_reducible exact impl_shapeCode.mono _ _)
   | (with_reducible exact LeO.refl _)
   | (with_reducible exact LeO.none _)
   | (with_reducible refine LeO.ite ?_ ?_)
   | (with_reducible refine LeO.bind ?_ (fun _ => ?_))
   | exact impl_IsConnected.mono _ _
   | exact impl_shapeCode.mono _ _
   | exact LeO.none _
   | refine LeO.ite ?_ ?_
   | refine LeO.bind ?_ (fun _ => ?_)
set_option maxHeartbeats 8000000 in
set_option maxRecDepth 100000 in
theorem impl_connectedCode.calls (k : Nat) (A0 : Option Addr) (c0 : Nat) (l0 : List (S55)) (r : Int) (w : World) (hr0 : Kd.C k55 w A0 l0.length l0) (hc0 : l0.length ≤ c0) (h : impl_connectedCode.f k l0 = some r) :
  Calls Try.prog 45 #[.slice A0 l0.length c0] w fun e w' => e = .returned (.int .i64 r) ∧ Below w.heap.size w w' := by
 have HR0 := Aside0.mk hr0
 have HC0 := Aside0.mk hc0
 clear hr0 hc0
 have HB := Aside0.mk (Below.refl w.heap.size w)
 have H : ((impl_IsConnected.f k l0).bind fun t324 => (if t324 = true then ((impl_shapeCode.f k l0).bind fun t325 => (some t325)) else (some 1))) = some r := h
 clear h
 replace H := Option.bind_eq_some_iff.mp H
 obtain ⟨t324, A20, H⟩ := H
 replace H : (if t324 = true then ((impl_shapeCode.f k l0).bind fun t325 => (some t325)) else (some 1)) = some r := H
 have A2 := Aside0.mk A20
 clear A20
 by_cases c3 : t324 = true
 ·subst c3
  have H1 : ((impl_shapeCode.f k l0).bind fun t325 => (some t325)) = some r := by rw [if_pos rfl] at H; exact H
  clear H
  have H := H1
  clear H1
  replace H := Option.bind_eq_some_iff.mp H
  obtain ⟨t325, A40, H⟩ := H
  replace H : (some t325) = some r := H
  have A4 := Aside0.mk A40
  clear A40
  obtain rfl := Option.some.inj H
  go_enter Try.func45, Try.ntmps45
  go_wp2_with (first | ((with_reducible refine gate_callee (f := 80) rfl ?_); refine goesL_ (some 4) rfl rfl Try.func80 (by kernel_rfl) rfl #[.slice A0 l0.length c0] rfl (by (try simp only [List.map_toArray, List.map_cons, List.map_nil]); first | done | rfl) ?_; (with_reducible refine (impl_IsConnected.calls k _ _ l0 true _ ?side1 ?side2 A2.out).mono ?_); (case side1 => repeat (first | exact HR0.out | (with_reducible refine Kd.C_alloc ?_ _) | (with_reducible refine Kd.C_drewN ?_ _) | (with_reducible refine Kd.C_drew ?_))); (case side2 => exact HC0.out); rintro e w5 ⟨rfl, hb⟩; refine ⟨_, rfl, ?_⟩; have n0_ := Aside0.mk (below_step (by repeat (with_reducible first | exact HB.out | apply below_alloc | apply pw_below_drewN | apply below_drew1)) hb); clear HB; have HB := n0_; clear n0_; (try clear hb)) | ((with_reducible refine gate_callee (f := 55) rfl ?_); refine goesL_ (some 7) rfl rfl Try.func55 (by kernel_rfl) rfl #[.slice A0 l0.length c0] rfl (by (try simp only [List.map_toArray, List.map_cons, List.map_nil]); first | done | rfl) ?_; (with_reducible refine (impl_shapeCode.calls k _ _ l0 t325 _ ?side1 ?side2 A4.out).mono ?_); (case side1 => repeat (first | exact (Kd.C_below HR0.out HB.out) | (with_reducible refine Kd.C_alloc ?_ _) | (with_reducible refine Kd.C_drewN ?_ _) | (with_reducible refine Kd.C_drew ?_))); (case side2 => exact HC0.out); rintro e w6 ⟨rfl, hb⟩; refine ⟨_, rfl, ?_⟩; have n0_ := Aside0.mk (below_step (by repeat (with_reducible first | exact HB.out | apply below_alloc | apply pw_below_drewN | apply below_drew1)) hb); clear HB; have HB := n0_; clear n0_; (try clear hb)))
  go_ret
  exact ⟨by first | rfl | (simp [*] <;> rfl), by repeat (with_reducible first | exact HB.out | apply below_alloc | apply pw_below_drewN | apply below_drew1)⟩
 ·replace c3 := Bool.eq_false_iff.mpr c3
  subst c3
  have H1 : (some 1) = some r := by rw [if_neg (show ¬ (false = true) by decide)] at H; exact H
  clear H
  have H := H1
  clear H1
  obtain rfl := Option.some.inj H
  go_enter Try.func45, Try.ntmps45
  go_wp2_with (first | ((with_reducible refine gate_callee (f := 80) rfl ?_); refine goesL_ (some 4) rfl rfl Try.func80 (by kernel_rfl) rfl #[.slice A0 l0.length c0] rfl (by (try simp only [List.map_toArray, List.map_cons, List.map_nil]); first | done | rfl) ?_; (with_reducible refine (impl_IsConnected.calls k _ _ l0 false _ ?side1 ?side2 A2.out).mono ?_); (case side1 => repeat (first | exact HR0.out | (with_reducible refine Kd.C_alloc ?_ _) | (with_reducible refine Kd.C_drewN ?_ _) | (with_reducible refine Kd.C_drew ?_))); (case side2 => exact HC0.out); rintro e w7 ⟨rfl, hb⟩; refine ⟨_, rfl, ?_⟩; have n0_ := Aside0.mk (below_step (by repeat (with_reducible first | exact HB.out | apply below_alloc | apply pw_below_drewN | apply below_drew1)) hb); clear HB; have HB := n0_; clear n0_; (try clear hb)))
  go_ret
  exact ⟨by first | rfl | (simp [*] <;> rfl), by repeat (with_reducible first | exact HB.out | apply below_alloc | apply pw_below_drewN | apply below_drew1)⟩

/-! ### laws_eqCell: function 50 -/
def laws_eqCell.f (a0_0 : Int) (a0_1 : Int) (a1_0 : Int) (a1_1 : Int) : Option (Bool) := if a0_0 = a1_0 then (if a0_1 = a1_1 then (some true) else (some false)) else (some false)
set_option maxHeartbeats 8000000 in
set_option maxRecDepth 100000 in
theorem laws_eqCell.calls (a0_0 : Int) (a0_1 : Int) (a1_0 : Int) (a1_1 : Int) (r : Bool) (w : World) (h : laws_eqCell.f a0_0 a0_1 a1_0 a1_1 = some r) :
  Calls Try.prog 50 #[.agg #[.int .i64 a0_0, .int .i64 a0_1], .agg #[.int .i64 a1_0, .int .i64 a1_1]] w fun e w' => e = .returned (.bool r) ∧ Below w.heap.size w w' := by
 have hu55 := Try.underlying55
 have HB := Aside0.mk (Below.refl w.heap.size w)
 have H : (if a0_0 = a1_0 then (if a0_1 = a1_1 then (some true) else (some false)) else (some false)) = some r := h
 clear h
 by_cases c3 : a0_0 = a1_0
 ·rw [if_pos c3] at H
  have c3b0 : (a0_0 == a1_0) = true := beq_iff_eq.mpr c3
  have c3b1 : (a0_0 != a1_0) = false := bne_eq_false_iff_eq.mpr c3
  clear c3
  by_cases c4 : a0_1 = a1_1
  ·rw [if_pos c4] at H
   have c4b0 : (a0_1 == a1_1) = true := beq_iff_eq.mpr c4
   have c4b1 : (a0_1 != a1_1) = false := bne_eq_false_iff_eq.mpr c4
   clear c4
   obtain rfl := Option.some.inj H
   go_enter Try.func50, Try.ntmps50
   go_wp2_with (first | ((with_reducible refine gate_dst (N := 2) rfl ?_); refine box_event ?hg (N := 2) ?hd (cs := #[.int .i64 a0_0, .int .i64 a0_1]) (t := 55) ?hr ?_; (case hd => rfl); (case hg => rfl); (case hr => first | (go_simp; done) | (go_simp; rfl)); intro gb556 hg w5 hbox hb; have n0_ := Aside0.mk (below_step (by repeat (with_reducible first | exact HB.out | apply below_alloc | apply pw_below_drewN | apply below_drew1)) hb); have n1_ := Aside0.mk (hbox); have n2_ := Aside0.mk ((by rw [hg]; exact (below_size (by repeat (with_reducible first | exact HB.out | apply below_alloc | apply pw_below_drewN | apply below_drew1))) : w.heap.size ≤ gb556)); have n3_ := Aside0.mk ((by rw [hg]; exact (below_size (by repeat (with_reducible first | exact HB.out | apply below_alloc | apply pw_below_drewN | apply below_drew1))) : w.heap.size ≤ gb556)); clear HB; have HB := n0_; have BK556 := n1_; have GW556 := n2_; have GE556 := n3_; clear n0_ n1_ n2_ n3_; clear hb hbox hg) | ((with_reducible refine gate_dst (N := 3) rfl ?_); refine box_event ?hg (N := 3) ?hd (cs := #[.int .i64 a1_0, .int .i64 a1_1]) (t := 55) ?hr ?_; (case hd => rfl); (case hg => rfl); (case hr => first | (go_simp; done) | (go_simp; rfl)); intro gb557 hg w6 hbox hb; have n0_ := Aside0.mk (blk_below (g := gb556) (o := .cells #[.int .i64 a0_0, .int .i64 a0_1] 55 (0, 0)) (by (with_reducible repeat (first | refine blk_drewN ?_ _ | refine blk_drew ?_ | refine blk_alloc ?_ _)); exact BK556.out) hb); have n1_ := Aside0.mk (below_step (by repeat (first | (with_reducible first | exact HB.out | apply below_alloc | apply pw_below_drewN | apply below_drew1 | refine below_set ?_ GE556.out) | exact HB.out)) hb); have n2_ := Aside0.mk (hbox); have n3_ := Aside0.mk ((by rw [hg]; exact (below_size (by repeat (first | (with_reducible first | exact HB.out | apply below_alloc | apply pw_below_drewN | apply below_drew1 | refine below_set ?_ GE556.out) | exact HB.out))) : w.heap.size ≤ gb557)); have n4_ := Aside0.mk ((by rw [hg]; exact (below_size (by repeat (first | (with_reducible first | exact HB.out | apply below_alloc | apply pw_below_drewN | apply below_drew1 | refine below_set ?_ GE556.out) | exact HB.out))) : w.heap.size ≤ gb557)); have n5_ := Aside0.mk ((by rw [hg]; exact Nat.ne_of_lt (blk_lt (g := gb556) (o := .cells #[.int .i64 a0_0, .int .i64 a0_1] 55 (0, 0)) (by (with_reducible repeat (first | refine blk_drewN ?_ _ | refine blk_drew ?_ | refine blk_alloc ?_ _)); exact BK556.out)) : gb556 ≠ gb557)); have n6_ := Aside0.mk ((by rw [hg]; exact Nat.ne_of_gt (blk_lt (g := gb556) (o := .cells #[.int .i64 a0_0, .int .i64 a0_1] 55 (0, 0)) (by (with_reducible repeat (first | refine blk_drewN ?_ _ | refine blk_drew ?_ | refine blk_alloc ?_ _)); exact BK556.out)) : gb557 ≠ gb556)); clear BK556; clear HB; have BK556 := n0_; have HB := n1_; have BK557 := n2_; have GW557 := n3_; have GE557 := n4_; have NB556_557 := n5_; have NB557_556 := n6_; clear n0_ n1_ n2_ n3_ n4_ n5_ n6_; clear hb hbox hg; have hnb7 := NB556_557.out; have hnc7 := NB557_556.out; have hcz8_0 : w6.cell? ⟨gb556, 0, none⟩ = some (.int .i64 a0_0) := (blk_cell BK556.out 0).trans rfl; have hcz8_1 : w6.cell? ⟨gb556, 1, none⟩ = some (.int .i64 a0_1) := (blk_cell BK556.out 1).trans rfl; have hfz8_0 := blk_frozen BK556.out 0; have hfz8_1 := blk_frozen BK556.out 1; have hcz9_0 : w6.cell? ⟨gb557, 0, none⟩ = some (.int .i64 a1_0) := (blk_cell BK557.out 0).trans rfl; have hcz9_1 : w6.cell? ⟨gb557, 1, none⟩ = some (.int .i64 a1_1) := (blk_cell BK557.out 1).trans rfl; have hfz9_0 := blk_frozen BK557.out 0; have hfz9_1 := blk_frozen BK557.out 1))
   go_ret
   exact ⟨by first | rfl | (simp [*] <;> rfl), by repeat (first | (with_reducible first | exact HB.out | apply below_alloc | apply pw_below_drewN | apply below_drew1 | refine below_set ?_ GE556.out | refine below_set ?_ GE557.out) | exact HB.out)⟩
  ·rw [if_neg c4] at H
   have c4b0 : (a0_1 == a1_1) = false := beq_eq_false_iff_ne.mpr c4
   have c4b1 : (a0_1 != a1_1) = true := bne_iff_ne.mpr c4
   obtain rfl := Option.some.inj H
   go_enter Try.func50, Try.ntmps50
   go_wp2_with (first | ((with_reducible refine gate_dst (N := 2) rfl ?_); refine box_event ?hg (N := 2) ?hd (cs := #[.int .i64 a0_0, .int .i64 a0_1]) (t := 55) ?hr ?_; (case hd => rfl); (case hg => rfl); (case hr => first | (go_simp; done) | (go_simp; rfl)); intro gb556 hg w10 hbox hb; have n0_ := Aside0.mk (below_step (by repeat (with_reducible first | exact HB.out | apply below_alloc | apply pw_below_drewN | apply below_drew1)) hb); have n1_ := Aside0.mk (hbox); have n2_ := Aside0.mk ((by rw [hg]; exact (below_size (by repeat (with_reducible first | exact HB.out | apply below_alloc | apply pw_below_drewN | apply below_drew1))) : w.heap.size ≤ gb556)); have n3_ := Aside0.mk ((by rw [hg]; exact (below_size (by repeat (with_reducible first | exact HB.out | apply below_alloc | apply pw_below_drewN | apply below_drew1))) : w.heap.size ≤ gb556)); clear HB; have HB := n0_; have BK556 := n1_; have GW556 := n2_; have GE556 := n3_; clear n0_ n1_ n2_ n3_; clear hb hbox hg) | ((with_reducible refine gate_dst (N := 3) rfl ?_); refine box_event ?hg (N := 3) ?hd (cs := #[.int .i64 a1_0, .int .i64 a1_1]) (t := 55) ?hr ?_; (case hd => rfl); (case hg => rfl); (case hr => first | (go_simp; done) | (go_simp; rfl)); intro gb557 hg w11 hbox hb; have n0_ := Aside0.mk (blk_below (g := gb556) (o := .cells #[.int .i64 a0_0, .int .i64 a0_1] 55 (0, 0)) (by (with_reducible repeat (first | refine blk_drewN ?_ _ | refine blk_drew ?_ | refine blk_alloc ?_ _)); exact BK556.out) hb); have n1_ := Aside0.mk (below_step (by repeat (first | (with_reducible first | exact HB.out | apply below_alloc | apply pw_below_drewN | apply below_drew1 | refine below_set ?_ GE556.out) | exact HB.out)) hb); have n2_ := Aside0.mk (hbox); have n3_ := Aside0.mk ((by rw [hg]; exact (below_size (by repeat (first | (with_reducible first | exact HB.out | apply below_alloc | apply pw_below_drewN | apply below_drew1 | refine below_set ?_ GE556.out) | exact HB.out))) : w.heap.size ≤ gb557)); have n4_ := Aside0.mk ((by rw [hg]; exact (below_size (by repeat (first | (with_reducible first | exact HB.out | apply below_alloc | apply pw_below_drewN | apply below_drew1 | refine below_set ?_ GE556.out) | exact HB.out))) : w.heap.size ≤ gb557)); have n5_ := Aside0.mk ((by rw [hg]; exact Nat.ne_of_lt (blk_lt (g := gb556) (o := .cells #[.int .i64 a0_0, .int .i64 a0_1] 55 (0, 0)) (by (with_reducible repeat (first | refine blk_drewN ?_ _ | refine blk_drew ?_ | refine blk_alloc ?_ _)); exact BK556.out)) : gb556 ≠ gb557)); have n6_ := Aside0.mk ((by rw [hg]; exact Nat.ne_of_gt (blk_lt (g := gb556) (o := .cells #[.int .i64 a0_0, .int .i64 a0_1] 55 (0, 0)) (by (with_reducible repeat (first | refine blk_drewN ?_ _ | refine blk_drew ?_ | refine blk_alloc ?_ _)); exact BK556.out)) : gb557 ≠ gb556)); clear BK556; clear HB; have BK556 := n0_; have HB := n1_; have BK557 := n2_; have GW557 := n3_; have GE557 := n4_; have NB556_557 := n5_; have NB557_556 := n6_; clear n0_ n1_ n2_ n3_ n4_ n5_ n6_; clear hb hbox hg; have hnb12 := NB556_557.out; have hnc12 := NB557_556.out; have hcz13_0 : w11.cell? ⟨gb556, 0, none⟩ = some (.int .i64 a0_0) := (blk_cell BK556.out 0).trans rfl; have hcz13_1 : w11.cell? ⟨gb556, 1, none⟩ = some (.int .i64 a0_1) := (blk_cell BK556.out 1).trans rfl; have hfz13_0 := blk_frozen BK556.out 0; have hfz13_1 := blk_frozen BK556.out 1; have hcz14_0 : w11.cell? ⟨gb557, 0, none⟩ = some (.int .i64 a1_0) := (blk_cell BK557.out 0).trans rfl; have hcz14_1 : w11.cell? ⟨gb557, 1, none⟩ = some (.int .i64 a1_1) := (blk_cell BK557.out 1).trans rfl; have hfz14_0 := blk_frozen BK557.out 0; have hfz14_1 := blk_frozen BK557.out 1))
   go_ret
   exact ⟨by first | rfl | (simp [*] <;> rfl), by repeat (first | (with_reducible first | exact HB.out | apply below_alloc | apply pw_below_drewN | apply below_drew1 | refine below_set ?_ GE556.out | refine below_set ?_ GE557.out) | exact HB.out)⟩
 ·rw [if_neg c3] at H
  have c3b0 : (a0_0 == a1_0) = false := beq_eq_false_iff_ne.mpr c3
  have c3b1 : (a0_0 != a1_0) = true := bne_iff_ne.mpr c3
  obtain rfl := Option.some.inj H
  go_enter Try.func50, Try.ntmps50
  go_wp2_with (first | ((with_reducible refine gate_dst (N := 2) rfl ?_); refine box_event ?hg (N := 2) ?hd (cs := #[.int .i64 a0_0, .int .i64 a0_1]) (t := 55) ?hr ?_; (case hd => rfl); (case hg => rfl); (case hr => first | (go_simp; done) | (go_simp; rfl)); intro gb556 hg w15 hbox hb; have n0_ := Aside0.mk (below_step (by repeat (with_reducible first | exact HB.out | apply below_alloc | apply pw_below_drewN | apply below_drew1)) hb); have n1_ := Aside0.mk (hbox); have n2_ := Aside0.mk ((by rw [hg]; exact (below_size (by repeat (with_reducible first | exact HB.out | apply below_alloc | apply pw_below_drewN | apply below_drew1))) : w.heap.size ≤ gb556)); have n3_ := Aside0.mk ((by rw [hg]; exact (below_size (by repeat (with_reducible first | exact HB.out | apply below_alloc | apply pw_below_drewN | apply below_drew1))) : w.heap.size ≤ gb556)); clear HB; have HB := n0_; have BK556 := n1_; have GW556 := n2_; have GE556 := n3_; clear n0_ n1_ n2_ n3_; clear hb hbox hg) | ((with_reducible refine gate_dst (N := 3) rfl ?_); refine box_event ?hg (N := 3) ?hd (cs := #[.int .i64 a1_0, .int .i64 a1_1]) (t := 55) ?hr ?_; (case hd => rfl); (case hg => rfl); (case hr => first | (go_simp; done) | (go_simp; rfl)); intro gb557 hg w16 hbox hb; have n0_ := Aside0.mk (blk_below (g := gb556) (o := .cells #[.int .i64 a0_0, .int .i64 a0_1] 55 (0, 0)) (by (with_reducible repeat (first | refine blk_drewN ?_ _ | refine blk_drew ?_ | refine blk_alloc ?_ _)); exact BK556.out) hb); have n1_ := Aside0.mk (below_step (by repeat (first | (with_reducible first | exact HB.out | apply below_alloc | apply pw_below_drewN | apply below_drew1 | refine below_set ?_ GE556.out) | exact HB.out)) hb); have n2_ := Aside0.mk (hbox); have n3_ := Aside0.mk ((by rw [hg]; exact (below_size (by repeat (first | (with_reducible first | exact HB.out | apply below_alloc | apply pw_below_drewN | apply below_drew1 | refine below_set ?_ GE556.out) | exact HB.out))) : w.heap.size ≤ gb557)); have n4_ := Aside0.mk ((by rw [hg]; exact (below_size (by repeat (first | (with_reducible first | exact HB.out | apply below_alloc | apply pw_below_drewN | apply below_drew1 | refine below_set ?_ GE556.out) | exact HB.out))) : w.heap.size ≤ gb557)); have n5_ := Aside0.mk ((by rw [hg]; exact Nat.ne_of_lt (blk_lt (g := gb556) (o := .cells #[.int .i64 a0_0, .int .i64 a0_1] 55 (0, 0)) (by (with_reducible repeat (first | refine blk_drewN ?_ _ | refine blk_drew ?_ | refine blk_alloc ?_ _)); exact BK556.out)) : gb556 ≠ gb557)); have n6_ := Aside0.mk ((by rw [hg]; exact Nat.ne_of_gt (blk_lt (g := gb556) (o := .cells #[.int .i64 a0_0, .int .i64 a0_1] 55 (0, 0)) (by (with_reducible repeat (first | refine blk_drewN ?_ _ | refine blk_drew ?_ | refine blk_alloc ?_ _)); exact BK556.out)) : gb557 ≠ gb556)); clear BK556; clear HB; have BK556 := n0_; have HB := n1_; have BK557 := n2_; have GW557 := n3_; have GE557 := n4_; have NB556_557 := n5_; have NB557_556 := n6_; clear n0_ n1_ n2_ n3_ n4_ n5_ n6_; clear hb hbox hg; have hnb17 := NB556_557.out; have hnc17 := NB557_556.out; have hcz18_0 : w16.cell? ⟨gb556, 0, none⟩ = some (.int .i64 a0_0) := (blk_cell BK556.out 0).trans rfl; have hcz18_1 : w16.cell? ⟨gb556, 1, none⟩ = some (.int .i64 a0_1) := (blk_cell BK556.out 1).trans rfl; have hfz18_0 := blk_frozen BK556.out 0; have hfz18_1 := blk_frozen BK556.out 1; have hcz19_0 : w16.cell? ⟨gb557, 0, none⟩ = some (.int .i64 a1_0) := (blk_cell BK557.out 0).trans rfl; have hcz19_1 : w16.cell? ⟨gb557, 1, none⟩ = some (.int .i64 a1_1) := (blk_cell BK557.out 1).trans rfl; have hfz19_0 := blk_frozen BK557.out 0; have hfz19_1 := blk_frozen BK557.out 1))
  go_ret
  exact ⟨by first | rfl | (simp [*] <;> rfl), by repeat (first | (with_reducible first | exact HB.out | apply below_alloc | apply pw_below_drewN | apply below_drew1 | refine below_set ?_ GE556.out | refine below_set ?_ GE557.out) | exact HB.out)⟩

/-! ### laws_eqCellS: function 13 -/
def laws_eqCellS.l0 : Nat → List (S55) → List (S55) → Int → Option (Bool)
 | 0, _, _, _ => none
 | k + 1, x0, x1, x5 => if x5 < (x0.length : Int) then (if 0 ≤ x5 then (if x5 < (x1.length : Int) then ((laws_eqCell.f ((rd_T55 x0 x5).f0) ((rd_T55 x0 x5).f1) ((rd_T55 x1 x5).f0) ((rd_T55 x1 x5).f1)).bind fun t560 => (if t560 = true then (laws_eqCellS.l0 k x0 x1 (wrap64 (x5 + 1))) else (some false))) else (none)) else (none)) else (some true)
def laws_eqCellS.f (k : Nat) (l0 : List (S55)) (l1 : List (S55)) : Option (Bool) := if (l0.length : Int) = (l1.length : Int) then (laws_eqCellS.l0 k l0 l1 0) else (some false)
theorem laws_eqCellS.mono_l : ∀ k, (∀ y0 y1 y2, LeO (laws_eqCellS.l0 k y0 y1 y2) (laws_eqCellS.l0 (k + 1) y0 y1 y2))
 | 0 => fun _ _ _ r h => by simp [laws_eqCellS.l0] at h
 | k + 1 => by
  have ih0 := laws_eqCellS.mono_l k
  ·intro y0 y1 y2
   unfold laws_eqCellS.l0
   repeat' first
   | (with_reducible exact ih0 _ _ _)
   | (with_reducible exact LeO.refl _)
   | (with_reducible exact LeO.none _)
   | (with_reducible refine LeO.ite ?_ ?_)
   | (with_reducible refine LeO.bind ?_ (fun _ => ?_))
   | exact ih0 _ _ _
   | exact LeO.none _
   | refine LeO.ite ?_ ?_
   | refine LeO.bind ?_ (fun _ => ?_)
theorem laws_eqCellS.mono : ∀ a0 a1 k, LeO (laws_eqCellS.f k a0 a1) (laws_eqCellS.f (k + 1) a0 a1) := by
 intro a0 a1 k
 have ih0 := laws_eqCellS.mono_l k
 unfold laws_eqCellS.f
 repeat' first
   | (with_reducible exact ih0 _ _ _)
   | (with_reducible exact LeO.refl _)
   | (with_reducible exact LeO.none _)
   | (with_reducible refine LeO.ite ?_ ?_)
   | (with_reducible refine LeO.bind ?_ (fun _ => ?_))
   | exact ih0 _ _ _
   | exact LeO.none _
   | refine LeO.ite ?_ ?_
   | refine LeO.bind ?_ (fun _ => ?_)
def laws_eqCellS.T6 : Bool × List (List Nat × List Nat) := (true, [([], []), ([], []), ([0, 1], [0, 1]), ([2], [2]), ([], []), ([], []), ([4, 5], [4, 5]), ([6], [6]), ([3, 7], [3, 7]), ([8], [8])])
def laws_eqCellS.B6 : List Nat := [0, 0, 3, 7, 0, 0, 48, 112, 255, 511]
theorem laws_eqCellS.tab6 : rtab .any (opsOf Try.f13 6) = laws_eqCellS.T6 := by kernel_rfl
theorem laws_eqCellS.bits6 : waitsOk laws_eqCellS.T6.2 laws_eqCellS.B6 = true := by kernel_rfl
set_option maxHeartbeats 8000000 in
set_option maxRecDepth 100000 in
theorem laws_eqCellS.calls (k : Nat) (A0 : Option Addr) (c0 : Nat) (l0 : List (S55)) (A1 : Option Addr) (c1 : Nat) (l1 : List (S55)) (r : Bool) (w : World) (hr0 : Kd.C k55 w A0 l0.length l0) (hc0 : l0.length ≤ c0) (hr1 : Kd.C k55 w A1 l1.length l1) (hc1 : l1.length ≤ c1) (h : laws_eqCellS.f k l0 l1 = some r) :
  Calls Try.prog 13 #[.slice A0 l0.length c0, .slice A1 l1.length c1] w fun e w' => e = .returned (.bool r) ∧ Below w.heap.size w w' := by
 have hu55 := Try.underlying55
 have HR0 := Aside0.mk hr0
 have HC0 := Aside0.mk hc0
 clear hr0 hc0
 have HR1 := Aside0.mk hr1
 have HC1 := Aside0.mk hc1
 clear hr1 hc1
 have HB := Aside0.mk (Below.refl w.heap.size w)
 have H : (if (l0.length : Int) = (l1.length : Int) then (laws_eqCellS.l0 k l0 l1 0) else (some false)) = some r := h
 clear h
 by_cases c3 : (l0.length : Int) = (l1.length : Int)
 ·rw [if_pos c3] at H
  have c3b0 : ((l0.length : Int) == (l1.length : Int)) = true := beq_iff_eq.mpr c3
  have c3b1 : ((l0.length : Int) != (l1.length : Int)) = false := bne_eq_false_iff_eq.mpr c3
  have c3b2 : (l0.length == l1.length) = true := by first | simpa using c3 | (simp at c3 ⊢; omega)
  clear c3
  have H' := Aside0.mk H
  clear H
  go_enter Try.func13, Try.ntmps13
  go_wp2
  go_loopg [5] k (fun kq v5 w' => ∃ (x5_1 : Int), v5 = .int .i64 x5_1 ∧ Aside0 (laws_eqCellS.l0 kq l0 l1 x5_1 = some r) ∧ Aside0 (kq ≤ k) ∧ Aside0 (Below w.heap.size w w'))
  case atStart => exact ⟨(0), (by first | rfl | (simp; done) | (simp [*]; done)), H', ⟨Nat.le_refl _⟩, ⟨by repeat (with_reducible first | exact HB.out | apply below_alloc | apply pw_below_drewN | apply below_drew1)⟩⟩
  case round =>
   clear H'
   try clear c1
   try clear p2
   try clear c3
   try clear c3b0
   try clear c3b1
   try clear c3b2
   obtain ⟨x5_1, rfl, HA, HK1, HB⟩ := hrel
   cases gk with
   | zero => exact absurd HA.out (by simp [laws_eqCellS.l0])
   | succ k1 =>
    have H := HA.out
    clear HA
    simp only [laws_eqCellS.l0] at H
    by_cases c4 : x5_1 < (l0.length : Int)
    ·rw [if_pos c4] at H
     have c4b0 : decide (x5_1 < (l0.length : Int)) = true := decide_eq_true c4
     clear c4
     by_cases c5 : 0 ≤ x5_1
     ·rw [if_pos c5] at H
      have c5b0 : decide (0 ≤ x5_1) = true := decide_eq_true c5
      clear c5
      by_cases c6 : x5_1 < (l1.length : Int)
      ·rw [if_pos c6] at H
       have c6b0 : decide (x5_1 < (l1.length : Int)) = true := decide_eq_true c6
       clear c6
       replace H := Option.bind_eq_some_iff.mp H
       obtain ⟨t560, A70, H⟩ := H
       replace H : (if t560 = true then (laws_eqCellS.l0 k1 l0 l1 (wrap64 (x5_1 + 1))) else (some false)) = some r := H
       have A7 := Aside0.mk A70
       clear A70
       by_cases c8 : t560 = true
       ·subst c8
        have H1 : (laws_eqCellS.l0 k1 l0 l1 (wrap64 (x5_1 + 1))) = some r := by rw [if_pos rfl] at H; exact H
        clear H
        have H := H1
        clear H1
        have H' := Aside0.mk H
        clear H
        try go_wp2
        have n0_ := Aside0.mk (below_drew1 HB.out)
        clear HB
        have HB := n0_
        clear n0_
        have p558 : 0 ≤ (x5_1 : Int) := of_decide_eq_true (by first | (with_reducible assumption) | assumption)
        have q558 : x5_1 < (l0.length : Int) := of_decide_eq_true (by first | (with_reducible assumption) | assumption)
        obtain ⟨ad558, e558, hx558_0, hx558_1⟩ := at_T55 HR0.out x5_1 p558 q558
        have hw558_1 := hx558_1
        have hw558_0 := hx558_0
        cases e558
        replace hx558_0 := (HB.out.cell (World.block_lt_of_cell? w _ hx558_0)).trans hx558_0
        replace hx558_1 := (HB.out.cell (World.block_lt_of_cell? w _ hx558_1)).trans hx558_1
        replace p558 := eq_true p558
        replace q558 := eq_true q558
        have p559 : 0 ≤ (x5_1 : Int) := of_decide_eq_true (by first | (with_reducible assumption) | assumption)
        have q559 : x5_1 < (l1.length : Int) := of_decide_eq_true (by first | (with_reducible assumption) | assumption)
        obtain ⟨ad559, e559, hx559_0, hx559_1⟩ := at_T55 HR1.out x5_1 p559 q559
        have hw559_1 := hx559_1
        have hw559_0 := hx559_0
        cases e559
        replace hx559_0 := (HB.out.cell (World.block_lt_of_cell? w _ hx559_0)).trans hx559_0
        replace hx559_1 := (HB.out.cell (World.block_lt_of_cell? w _ hx559_1)).trans hx559_1
        replace p559 := eq_true p559
        replace q559 := eq_true q559
        refine start_ (n := 10) (S := fun w' => w'.cell? (ad558.add ((x5_1).toNat * 2)) = some (.int .i64 ((rd_T55 l0 x5_1).f0)) ∧ w'.cell? ⟨(ad558.add ((x5_1).toNat * 2)).block, (ad558.add ((x5_1).toNat * 2)).off + 1, none⟩ = some (.int .i64 ((rd_T55 l0 x5_1).f1)) ∧ w'.cell? (ad559.add ((x5_1).toNat * 2)) = some (.int .i64 ((rd_T55 l1 x5_1).f0)) ∧ w'.cell? ⟨(ad559.add ((x5_1).toNat * 2)).block, (ad559.add ((x5_1).toNat * 2)).off + 1, none⟩ = some (.int .i64 ((rd_T55 l1 x5_1).f1))) (ds := []) #[F, F, F, F, F, F, F, F, F, F] (by kernel_rfl) rfl rfl ⟨((HB.out.cell (World.block_lt_of_cell? w _ hw558_0)).trans hw558_0), ((HB.out.cell (World.block_lt_of_cell? w _ hw558_1)).trans hw558_1), ((HB.out.cell (World.block_lt_of_cell? w _ hw559_0)).trans hw559_0), ((HB.out.cell (World.block_lt_of_cell? w _ hw559_1)).trans hw559_1)⟩ (fun hHeld => ?_); refine with_tabW laws_eqCellS.tab6 laws_eqCellS.bits6 (fun HT_ HW_ => ?_)
        generalize wr.drew = w9 at HB hx558_0 hx558_1 hx559_0 hx559_1 hHeld ⊢
        refine pure_ (i := 0) (N := some 17) (v := ?_) (a' := ?_) #[T, F, F, F, F, F, F, F, F, F] rfl rfl (any_of HT_.out (by kernel_rfl)) (fun _ _ _ h => h) (Or.inl ⟨by rfl, ?_⟩) ?_ ?_
        rotate_left
        ·intro w'
         go_simp
         with_reducible rfl
        rotate_left
        ·simp only [Act.put, List.setIfInBounds_toArray, List.set_cons_zero, List.set_cons_succ, i64_w, i32_w]
         rfl
        refine pure_ (i := 1) (N := some 18) (v := ?_) (a' := ?_) #[T, T, F, F, F, F, F, F, F, F] rfl rfl (any_of HT_.out (by kernel_rfl)) (fun _ _ _ h => h) (Or.inl ⟨by rfl, ?_⟩) ?_ ?_
        rotate_left
        ·intro w'
         go_simp
         with_reducible rfl
        rotate_left
        ·simp only [Act.put, List.setIfInBounds_toArray, List.set_cons_zero, List.set_cons_succ, i64_w, i32_w]
         rfl
        refine pure_ (i := 2) (N := some 19) (v := ?_) (a' := ?_) #[T, T, T, F, F, F, F, F, F, F] rfl rfl (any_of HT_.out (by kernel_rfl)) (fun _ _ _ h => h) (Or.inl ⟨by rfl, ?_⟩) ?_ ?_
        rotate_left
        ·intro w'
         go_simp
         with_reducible rfl
        rotate_left
        ·simp only [Act.put, List.setIfInBounds_toArray, List.set_cons_zero, List.set_cons_succ, i64_w, i32_w]
         rfl
        refine pure_ (i := 4) (N := some 21) (v := ?_) (a' := ?_) #[T, T, T, F, T, F, F, F, F, F] rfl rfl (any_of HT_.out (by kernel_rfl)) (fun _ _ _ h => h) (Or.inl ⟨by rfl, ?_⟩) ?_ ?_
        rotate_left
        ·intro w'
         go_simp
         with_reducible rfl
        rotate_left
        ·simp only [Act.put, List.setIfInBounds_toArray, List.set_cons_zero, List.set_cons_succ, i64_w, i32_w]
         rfl
        refine pure_ (i := 5) (N := some 22) (v := ?_) (a' := ?_) #[T, T, T, F, T, T, F, F, F, F] rfl rfl (any_of HT_.out (by kernel_rfl)) (fun _ _ _ h => h) (Or.inl ⟨by rfl, ?_⟩) ?_ ?_
        rotate_left
        ·intro w'
         go_simp
         with_reducible rfl
        rotate_left
        ·simp only [Act.put, List.setIfInBounds_toArray, List.set_cons_zero, List.set_cons_succ, i64_w, i32_w]
         rfl
        refine pure_ (i := 6) (N := some 23) (v := ?_) (a' := ?_) #[T, T, T, F, T, T, T, F, F, F] rfl rfl (any_of HT_.out (by kernel_rfl)) (fun _ _ _ h => h) (Or.inl ⟨by rfl, ?_⟩) ?_ ?_
        rotate_left
        ·intro w'
         go_simp
         with_reducible rfl
        rotate_left
        ·simp only [Act.put, List.setIfInBounds_toArray, List.set_cons_zero, List.set_cons_succ, i64_w, i32_w]
         rfl
        refine take_ (i := 3) (N := some 20) (v := ?_) (a' := ?_) #[T, T, T, T, T, T, T, F, F, F] rfl rfl (take_ofW HT_.out HW_.out (by kernel_rfl)) (fun _ _ _ h => h) (Or.inl ⟨by rfl, ?_⟩) hHeld ?_ ?_
        rotate_left
        ·rintro w' ⟨s0, s1, s2, s3⟩
         go_simp
         with_reducible rfl
        rotate_left
        ·simp only [Act.put, List.setIfInBounds_toArray, List.set_cons_zero, List.set_cons_succ, i64_w, i32_w]
         rfl
        refine take_ (i := 7) (N := some 24) (v := ?_) (a' := ?_) #[T, T, T, T, T, T, T, T, F, F] rfl rfl (take_ofW HT_.out HW_.out (by kernel_rfl)) (fun _ _ _ h => h) (Or.inl ⟨by rfl, ?_⟩) hHeld ?_ ?_
        rotate_left
        ·rintro w' ⟨s0, s1, s2, s3⟩
         go_simp
         with_reducible rfl
        rotate_left
        ·simp only [Act.put, List.setIfInBounds_toArray, List.set_cons_zero, List.set_cons_succ, i64_w, i32_w]
         rfl
        refine one_ (i := 8) (N := some 25) #[T, T, T, T, T, T, T, T, T, F] rfl rfl (one_of HT_.out (by kernel_rfl)) (by decide) (fun K hK => ?_)
        refine goes_ Try.func50 (by kernel_rfl) rfl #[.agg #[.int .i64 ((rd_T55 l0 x5_1).f0), .int .i64 ((rd_T55 l0 x5_1).f1)], .agg #[.int .i64 ((rd_T55 l1 x5_1).f0), .int .i64 ((rd_T55 l1 x5_1).f1)]] (by rfl) rfl rfl (by (try simp only [List.map_toArray, List.map_cons, List.map_nil]); first | done | rfl) ?_
        with_reducible refine (laws_eqCell.calls ((rd_T55 l0 x5_1).f0) ((rd_T55 l0 x5_1).f1) ((rd_T55 l1 x5_1).f0) ((rd_T55 l1 x5_1).f1) true _ A7.out).mono ?_
        rintro e w10 ⟨rfl, hb⟩
        refine ⟨_, rfl, ?_⟩
        have n0_ := Aside0.mk (below_step (by repeat (with_reducible first | exact HB.out | apply below_alloc | apply pw_below_drewN | apply below_drew1)) hb)
        clear HB
        have HB := n0_
        clear n0_
        (try clear hb)
        refine hK.out _ _ ⟨((HB.out.cell (World.block_lt_of_cell? w _ hw558_0)).trans hw558_0), ((HB.out.cell (World.block_lt_of_cell? w _ hw558_1)).trans hw558_1), ((HB.out.cell (World.block_lt_of_cell? w _ hw559_0)).trans hw559_0), ((HB.out.cell (World.block_lt_of_cell? w _ hw559_1)).trans hw559_1)⟩ (fun hHeld => ?_)
        clear hK K
        refine norm_ (a' := ?_) ?_ ?_
        rotate_left
        ·show Act.put _ (some 25) _ = _
         simp only [Act.put, List.setIfInBounds_toArray, List.set_cons_zero, List.set_cons_succ, i64_w, i32_w]
         rfl
        refine pure_ (i := 9) (N := some 26) (v := ?_) (a' := ?_) #[T, T, T, T, T, T, T, T, T, T] rfl rfl (any_of HT_.out (by kernel_rfl)) (fun _ _ _ h => h) (Or.inl ⟨by rfl, ?_⟩) ?_ ?_
        rotate_left
        ·intro w'
         go_simp
         with_reducible rfl
        rotate_left
        ·simp only [Act.put, List.setIfInBounds_toArray, List.set_cons_zero, List.set_cons_succ, i64_w, i32_w]
         rfl
        refine done_ (done_of HT_.out (by kernel_rfl)) ?_
        try go_wp2
        go_roundg k1
        case measure => have := HK1.out; omega
        case rel => exact ⟨(wrap64 (x5_1 + 1)), (by first | rfl | (simp; done) | (simp [*]; done)), H', ⟨by have := HK1.out; omega⟩, ⟨by repeat (with_reducible first | exact HB.out | apply below_alloc | apply pw_below_drewN | apply below_drew1)⟩⟩
       ·replace c8 := Bool.eq_false_iff.mpr c8
        subst c8
        have H1 : (some false) = some r := by rw [if_neg (show ¬ (false = true) by decide)] at H; exact H
        clear H
        have H := H1
        clear H1
        obtain rfl := Option.some.inj H
        try go_wp2
        have n0_ := Aside0.mk (below_drew1 HB.out)
        clear HB
        have HB := n0_
        clear n0_
        have p558 : 0 ≤ (x5_1 : Int) := of_decide_eq_true (by first | (with_reducible assumption) | assumption)
        have q558 : x5_1 < (l0.length : Int) := of_decide_eq_true (by first | (with_reducible assumption) | assumption)
        obtain ⟨ad558, e558, hx558_0, hx558_1⟩ := at_T55 HR0.out x5_1 p558 q558
        have hw558_1 := hx558_1
        have hw558_0 := hx558_0
        cases e558
        replace hx558_0 := (HB.out.cell (World.block_lt_of_cell? w _ hx558_0)).trans hx558_0
        replace hx558_1 := (HB.out.cell (World.block_lt_of_cell? w _ hx558_1)).trans hx558_1
        replace p558 := eq_true p558
        replace q558 := eq_true q558
        have p559 : 0 ≤ (x5_1 : Int) := of_decide_eq_true (by first | (with_reducible assumption) | assumption)
        have q559 : x5_1 < (l1.length : Int) := of_decide_eq_true (by first | (with_reducible assumption) | assumption)
        obtain ⟨ad559, e559, hx559_0, hx559_1⟩ := at_T55 HR1.out x5_1 p559 q559
        have hw559_1 := hx559_1
        have hw559_0 := hx559_0
        cases e559
        replace hx559_0 := (HB.out.cell (World.block_lt_of_cell? w _ hx559_0)).trans hx559_0
        replace hx559_1 := (HB.out.cell (World.block_lt_of_cell? w _ hx559_1)).trans hx559_1
        replace p559 := eq_true p559
        replace q559 := eq_true q559
        refine start_ (n := 10) (S := fun w' => w'.cell? (ad558.add ((x5_1).toNat * 2)) = some (.int .i64 ((rd_T55 l0 x5_1).f0)) ∧ w'.cell? ⟨(ad558.add ((x5_1).toNat * 2)).block, (ad558.add ((x5_1).toNat * 2)).off + 1, none⟩ = some (.int .i64 ((rd_T55 l0 x5_1).f1)) ∧ w'.cell? (ad559.add ((x5_1).toNat * 2)) = some (.int .i64 ((rd_T55 l1 x5_1).f0)) ∧ w'.cell? ⟨(ad559.add ((x5_1).toNat * 2)).block, (ad559.add ((x5_1).toNat * 2)).off + 1, none⟩ = some (.int .i64 ((rd_T55 l1 x5_1).f1))) (ds := []) #[F, F, F, F, F, F, F, F, F, F] (by kernel_rfl) rfl rfl ⟨((HB.out.cell (World.block_lt_of_cell? w _ hw558_0)).trans hw558_0), ((HB.out.cell (World.block_lt_of_cell? w _ hw558_1)).trans hw558_1), ((HB.out.cell (World.block_lt_of_cell? w _ hw559_0)).trans hw559_0), ((HB.out.cell (World.block_lt_of_cell? w _ hw559_1)).trans hw559_1)⟩ (fun hHeld => ?_); refine with_tabW laws_eqCellS.tab6 laws_eqCellS.bits6 (fun HT_ HW_ => ?_)
        generalize wr.drew = w11 at HB hx558_0 hx558_1 hx559_0 hx559_1 hHeld ⊢
        refine pure_ (i := 0) (N := some 17) (v := ?_) (a' := ?_) #[T, F, F, F, F, F, F, F, F, F] rfl rfl (any_of HT_.out (by kernel_rfl)) (fun _ _ _ h => h) (Or.inl ⟨by rfl, ?_⟩) ?_ ?_
        rotate_left
        ·intro w'
         go_simp
         with_reducible rfl
        rotate_left
        ·simp only [Act.put, List.setIfInBounds_toArray, List.set_cons_zero, List.set_cons_succ, i64_w, i32_w]
         rfl
        refine pure_ (i := 1) (N := some 18) (v := ?_) (a' := ?_) #[T, T, F, F, F, F, F, F, F, F] rfl rfl (any_of HT_.out (by kernel_rfl)) (fun _ _ _ h => h) (Or.inl ⟨by rfl, ?_⟩) ?_ ?_
        rotate_left
        ·intro w'
         go_simp
         with_reducible rfl
        rotate_left
        ·simp only [Act.put, List.setIfInBounds_toArray, List.set_cons_zero, List.set_cons_succ, i64_w, i32_w]
         rfl
        refine pure_ (i := 2) (N := some 19) (v := ?_) (a' := ?_) #[T, T, T, F, F, F, F, F, F, F] rfl rfl (any_of HT_.out (by kernel_rfl)) (fun _ _ _ h => h) (Or.inl ⟨by rfl, ?_⟩) ?_ ?_
        rotate_left
        ·intro w'
         go_simp
         with_reducible rfl
        rotate_left
        ·simp only [Act.put, List.setIfInBounds_toArray, List.set_cons_zero, List.set_cons_succ, i64_w, i32_w]
         rfl
        refine pure_ (i := 4) (N := some 21) (v := ?_) (a' := ?_) #[T, T, T, F, T, F, F, F, F, F] rfl rfl (any_of HT_.out (by kernel_rfl)) (fun _ _ _ h => h) (Or.inl ⟨by rfl, ?_⟩) ?_ ?_
        rotate_left
        ·intro w'
         go_simp
         with_reducible rfl
        rotate_left
        ·simp only [Act.put, List.setIfInBounds_toArray, List.set_cons_zero, List.set_cons_succ, i64_w, i32_w]
         rfl
        refine pure_ (i := 5) (N := some 22) (v := ?_) (a' := ?_) #[T, T, T, F, T, T, F, F, F, F] rfl rfl (any_of HT_.out (by kernel_rfl)) (fun _ _ _ h => h) (Or.inl ⟨by rfl, ?_⟩) ?_ ?_
        rotate_left
        ·intro w'
         go_simp
         with_reducible rfl
        rotate_left
        ·simp only [Act.put, List.setIfInBounds_toArray, List.set_cons_zero, List.set_cons_succ, i64_w, i32_w]
         rfl
        refine pure_ (i := 6) (N := some 23) (v := ?_) (a' := ?_) #[T, T, T, F, T, T, T, F, F, F] rfl rfl (any_of HT_.out (by kernel_rfl)) (fun _ _ _ h => h) (Or.inl ⟨by rfl, ?_⟩) ?_ ?_
        rotate_left
        ·intro w'
         go_simp
         with_reducible rfl
        rotate_left
        ·simp only [Act.put, List.setIfInBounds_toArray, List.set_cons_zero, List.set_cons_succ, i64_w, i32_w]
         rfl
        refine take_ (i := 3) (N := some 20) (v := ?_) (a' := ?_) #[T, T, T, T, T, T, T, F, F, F] rfl rfl (take_ofW HT_.out HW_.out (by kernel_rfl)) (fun _ _ _ h => h) (Or.inl ⟨by rfl, ?_⟩) hHeld ?_ ?_
        rotate_left
        ·rintro w' ⟨s0, s1, s2, s3⟩
         go_simp
         with_reducible rfl
        rotate_left
        ·simp only [Act.put, List.setIfInBounds_toArray, List.set_cons_zero, List.set_cons_succ, i64_w, i32_w]
         rfl
        refine take_ (i := 7) (N := some 24) (v := ?_) (a' := ?_) #[T, T, T, T, T, T, T, T, F, F] rfl rfl (take_ofW HT_.out HW_.out (by kernel_rfl)) (fun _ _ _ h => h) (Or.inl ⟨by rfl, ?_⟩) hHeld ?_ ?_
        rotate_left
        ·rintro w' ⟨s0, s1, s2, s3⟩
         go_simp
         with_reducible rfl
        rotate_left
        ·simp only [Act.put, List.setIfInBounds_toArray, List.set_cons_zero, List.set_cons_succ, i64_w, i32_w]
         rfl
        refine one_ (i := 8) (N := some 25) #[T, T, T, T, T, T, T, T, T, F] rfl rfl (one_of HT_.out (by kernel_rfl)) (by decide) (fun K hK => ?_)
        refine goes_ Try.func50 (by kernel_rfl) rfl #[.agg #[.int .i64 ((rd_T55 l0 x5_1).f0), .int .i64 ((rd_T55 l0 x5_1).f1)], .agg #[.int .i64 ((rd_T55 l1 x5_1).f0), .int .i64 ((rd_T55 l1 x5_1).f1)]] (by rfl) rfl rfl (by (try simp only [List.map_toArray, List.map_cons, List.map_nil]); first | done | rfl) ?_
        with_reducible refine (laws_eqCell.calls ((rd_T55 l0 x5_1).f0) ((rd_T55 l0 x5_1).f1) ((rd_T55 l1 x5_1).f0) ((rd_T55 l1 x5_1).f1) false _ A7.out).mono ?_
        rintro e w12 ⟨rfl, hb⟩
        refine ⟨_, rfl, ?_⟩
        have n0_ := Aside0.mk (below_step (by repeat (with_reducible first | exact HB.out | apply below_alloc | apply pw_below_drewN | apply below_drew1)) hb)
        clear HB
        have HB := n0_
        clear n0_
        (try clear hb)
        refine hK.out _ _ ⟨((HB.out.cell (World.block_lt_of_cell? w _ hw558_0)).trans hw558_0), ((HB.out.cell (World.block_lt_of_cell? w _ hw558_1)).trans hw558_1), ((HB.out.cell (World.block_lt_of_cell? w _ hw559_0)).trans hw559_0), ((HB.out.cell (World.block_lt_of_cell? w _ hw559_1)).trans hw559_1)⟩ (fun hHeld => ?_)
        clear hK K
        refine norm_ (a' := ?_) ?_ ?_
        rotate_left
        ·show Act.put _ (some 25) _ = _
         simp only [Act.put, List.setIfInBounds_toArray, List.set_cons_zero, List.set_cons_succ, i64_w, i32_w]
         rfl
        refine pure_ (i := 9) (N := some 26) (v := ?_) (a' := ?_) #[T, T, T, T, T, T, T, T, T, T] rfl rfl (any_of HT_.out (by kernel_rfl)) (fun _ _ _ h => h) (Or.inl ⟨by rfl, ?_⟩) ?_ ?_
        rotate_left
        ·intro w'
         go_simp
         with_reducible rfl
        rotate_left
        ·simp only [Act.put, List.setIfInBounds_toArray, List.set_cons_zero, List.set_cons_succ, i64_w, i32_w]
         rfl
        refine done_ (done_of HT_.out (by kernel_rfl)) ?_
        try go_wp2
        go_ret
        exact ⟨by first | rfl | (simp [*] <;> rfl), by repeat (with_reducible first | exact HB.out | apply below_alloc | apply pw_below_drewN | apply below_drew1)⟩
      ·rw [if_neg c6] at H
       exact absurd H (by simp)
     ·rw [if_neg c5] at H
      exact absurd H (by simp)
    ·rw [if_neg c4] at H
     have c4b0 : decide (x5_1 < (l0.length : Int)) = false := decide_eq_false c4
     clear c4
     obtain rfl := Option.some.inj H
     go_wp2
     go_ret
     exact ⟨by first | rfl | (simp [*] <;> rfl), by repeat (with_reducible first | exact HB.out | apply below_alloc | apply pw_below_drewN | apply below_drew1)⟩
 ·rw [if_neg c3] at H
  have c3b0 : ((l0.length : Int) == (l1.length : Int)) = false := beq_eq_false_iff_ne.mpr c3
  have c3b1 : ((l0.length : Int) != (l1.length : Int)) = true := bne_iff_ne.mpr c3
  have c3b2 : (l0.length == l1.length) = false := by first | simpa using c3 | (simp at c3 ⊢; omega)
  obtain rfl := Option.some.inj H
  go_enter Try.func13, Try.ntmps13
  go_wp2
  go_ret
  exact ⟨by first | rfl | (simp [*] <;> rfl), by repeat (with_reducible first | exact HB.out | apply below_alloc | apply pw_below_drewN | apply below_drew1)⟩

end Go.Proofs.Ytbkafaoehheioaa.X
