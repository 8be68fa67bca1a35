-- xprint.py
import Derived.DeepKeys4
import Derived.Maps.OwnSet
import Derived.Test.YtpilmhjbgbpbmaaXx0
import Derived.Test.YtpilmhjbgbpbmaaXx12
import Derived.Test.YtpilmhjbgbpbmaaXx13
import Derived.Test.YtpilmhjbgbpbmaaXx15
namespace Go.Proofs.Ytpilmhjbgbpbmaa.X
open Go.RowKit Go.Proofs.YtpilmhjbgbpbmaaW.PrintWords Go.Proofs.YtpilmhjbgbpbmaaW.PrintLast Go.Proofs.YtpilmhjbgbpbmaaW.PrintMore
attribute [local go_sem] max2_int min2_int max_two min_two max_three min_three max_four min_four   -- for this text's walks alone
set_option linter.unusedVariables false
set_option linter.unusedSimpArgs false

/-! ### impl_parts: function 67, by hand -/
-- IMPORT Derived.Maps.OwnSet
-- IMPORT Derived.DeepKeys4
/-- the place that the map holds for a cell behind n rounds: the last one -/
def plN_ (l : List S42) : Nat → Int → Int → Option Nat
 | 0, _, _ => none
 | i + 1, x, y => if (rd_T42 l (i : Nat)).f0 = x ∧ (rd_T42 l (i : Nat)).f1 = y then some i else plN_ l i x y
/-- the neighbours of one cell, one by one -/
def impl_parts.near (l : List S42) (i : Int) : List S42 → List Int → List Int → Option (List Int × List Int)
 | [], out, q => some (out, q)
 | d :: r, out, q => match plN_ l l.length d.f0 d.f1 with
  | some j => if rd out (j : Nat) < 0 then (if q.length < 1000000 then impl_parts.near l i r (out.set j i) (q ++ [(j : Int)]) else none) else impl_parts.near l i r out q
  | none => impl_parts.near l i r out q
/-- the list of the reached places, from the a-th on -/
def impl_parts.bfs : Nat → List S42 → Int → Nat → List Int → List Int → Option (List Int)
 | 0, _, _, _, _, _ => none
 | k + 1, l, i, a, out, q => if a < q.length then (if 0 ≤ rd q (a : Nat) then (if rd q (a : Nat) < (l.length : Int) then ((impl_around.f (rd_T42 l (rd q (a : Nat))).f0 (rd_T42 l (rd q (a : Nat))).f1).bind fun ds => ((impl_parts.near l i ds out q).bind fun z => impl_parts.bfs k l i (a + 1) z.1 z.2)) else none) else none) else some out
def impl_parts.outer (k : Nat) (l : List S42) : Nat → Nat → List Int → Option (List Int)
 | 0, _, out => some out
 | d + 1, i, out => if rd out (i : Nat) ≥ 0 then impl_parts.outer k l d (i + 1) out else ((impl_parts.bfs k l (i : Nat) 0 (out.set i (i : Nat)) [(i : Int)]).bind fun out => impl_parts.outer k l d (i + 1) out)
def wfC_ (l : List S42) : Bool := l.all fun c => decide (-1000000 ≤ c.f0 ∧ c.f0 ≤ 1000000 ∧ -1000000 ≤ c.f1 ∧ c.f1 ≤ 1000000)
def impl_parts.f (k : Nat) (l0 : List S42) : Option (List Int) := if l0.length ≤ 1000000 then (if wfC_ l0 = true then impl_parts.outer k l0 l0.length 0 (List.replicate l0.length (-1)) else none) else none
theorem impl_parts.mono : ∀ a0 k, LeO (impl_parts.f k a0) (impl_parts.f (k + 1) a0) := by
 have hb : ∀ k l i a out q, LeO (impl_parts.bfs k l i a out q) (impl_parts.bfs (k + 1) l i a out q) := by
  intro k
  induction k with
  | zero => intro l i a out q r h; simp [impl_parts.bfs] at h
  | succ k ih =>
   intro l i a out q
   unfold impl_parts.bfs
   exact LeO.ite (LeO.ite (LeO.ite (LeO.bind (LeO.refl _) (fun ds => LeO.bind (LeO.refl _) (fun z => ih _ _ _ _ _))) (LeO.refl _)) (LeO.refl _)) (LeO.refl _)
 have ho : ∀ k l d i out, LeO (impl_parts.outer k l d i out) (impl_parts.outer (k + 1) l d i out) := by
  intro k l d
  induction d with
  | zero => intro i out; exact LeO.refl _
  | succ d ih =>
   intro i out
   unfold impl_parts.outer
   exact LeO.ite (ih _ _) (LeO.bind (hb _ _ _ _ _ _) (fun z => ih _ _))
 intro a0 k
 unfold impl_parts.f
 exact LeO.ite (LeO.ite (ho _ _ _ _ _) (LeO.refl _)) (LeO.refl _)
section
open Go.Maps
theorem laidC_ : laidOutB Try.prog = true := by kernel_rfl
theorem lawC_ : Keyed Try.prog 42 := Keyed.of_law (deep_law_laid laidC_ (m := 2) (by omega) (of_decide_eq_true (by kernel_rfl)) (by kernel_rfl) (by kernel_rfl))
theorem zeroI_ (w : World) : (zeroValue 3).run Try.prog w = .ok (.int .i64 0) w := by kernel_rfl
theorem wfI_ {x : Int} (h1 : -9223372036854775808 ≤ x) (h2 : x ≤ 9223372036854775807) : (Lit.int .i64 x).wf = true := by
 simp only [Lit.wf, Bool.and_eq_true, decide_eq_true_eq]; exact ⟨h1, h2⟩
theorem keyGen_ {P : Program} {t : TypeId} {f0 f1 : Field} (hu : P.underlying t = some (.struct #[f0, f1])) (u0 : P.underlying f0.type = some (.int .i64)) (u1 : P.underlying f1.type = some (.int .i64)) (ct : P.cellsOf t = 2) (c0 : P.cellsOf f0.type = 1) (c1 : P.cellsOf f1.type = 1)
  (o0 : f0.offset = 0) (o1 : f1.offset = 1) (n0 : (f0.name != "_") = true) (n1 : (f1.name != "_") = true) (hk : P.keyType t = true) (hs : 0 < P.types.size) (x y : Int) (hx : (Lit.int .i64 x).wf = true) (hy : (Lit.int .i64 y).wf = true) : ∃ kl, keyOf P t (.agg #[.int .i64 x, .int .i64 y]) = some kl := by
 have e3 : (Value.agg #[.int .i64 x, .int .i64 y]).formed P t = true := by simp [Value.formed, hu, ct]
 obtain ⟨m, hm⟩ : ∃ m, P.types.size = m + 1 := ⟨P.types.size - 1, by omega⟩
 unfold keyOf
 simp only [hu, hk, e3, hm, Bool.and_self, if_true]
 have k0 : P.keyLits (m + 1) f0.type [.int .i64 x] = some [.int .i64 x] := by unfold Program.keyLits; simp only [u0, hx, and_self, if_true]
 have k1 : P.keyLits (m + 1) f1.type [.int .i64 y] = some [.int .i64 y] := by unfold Program.keyLits; simp only [u1, hy, and_self, if_true]
 have kk : P.keyLits (m + 1 + 1) t [.int .i64 x, .int .i64 y] = some [.int .i64 x, .int .i64 y] := by
  unfold Program.keyLits
  simp only [hu]
  simp [ct, n0, n1, o0, o1, c0, c1, k0, k1]
 exact ⟨_, by simp only [Value.cells]; rw [kk]; rfl⟩
theorem keyC_ (x y : Int) (hx : (Lit.int .i64 x).wf = true) (hy : (Lit.int .i64 y).wf = true) : ∃ kl, keyOf Try.prog 42 (.agg #[.int .i64 x, .int .i64 y]) = some kl :=
 keyGen_ Try.underlying42 Try.underlying2 Try.underlying2 (by kernel_rfl) (by kernel_rfl) (by kernel_rfl) rfl rfl (by decide) (by decide) (by kernel_rfl) (of_decide_eq_true (by kernel_rfl)) x y hx hy
/-- what the map says behind n rounds -/
def PlOk_ (D : DataW Unit) (l : List S42) (n : Nat) : Prop := Maps.IsMap D ∧ ∀ x y kl, keyOf Try.prog 42 (.agg #[.int .i64 x, .int .i64 y]) = some kl → (∀ j, plN_ l n x y = some j → Maps.has D kl = true ∧ D.atKey kl (.lit (.int .i64 0)) = .lit (.int .i64 (j : Nat))) ∧ (plN_ l n x y = none → Maps.has D kl = false)
theorem PlOk_.start (l : List S42) : PlOk_ (.map []) l 0 := ⟨⟨[], rfl⟩, fun x y kl _ => ⟨fun j h => by simp [plN_] at h, fun _ => rfl⟩⟩
theorem PlOk_.step {D : DataW Unit} {l : List S42} {n : Nat} (h : PlOk_ D l n) {kl0 : Lit} (hk : keyOf Try.prog 42 (.agg #[.int .i64 (rd_T42 l (n : Nat)).f0, .int .i64 (rd_T42 l (n : Nat)).f1]) = some kl0) : PlOk_ (D.put kl0 (.lit (.int .i64 (n : Nat)))) l (n + 1) := by
 refine ⟨h.1.put _ _, fun x y kl hkl => ?_⟩
 have e : plN_ l (n + 1) x y = if (rd_T42 l (n : Nat)).f0 = x ∧ (rd_T42 l (n : Nat)).f1 = y then some n else plN_ l n x y := rfl
 rw [e]
 by_cases c : (rd_T42 l (n : Nat)).f0 = x ∧ (rd_T42 l (n : Nat)).f1 = y
 ·rw [if_pos c]
  rw [c.1, c.2, hkl] at hk
  obtain rfl := Option.some.inj hk
  refine ⟨fun j hj => ?_, fun hj => absurd hj (by simp)⟩
  obtain rfl := Option.some.inj hj
  exact ⟨has_put_same h.1 (lawC_.key hkl) _, atKey_put_same h.1 (lawC_.key hkl) _ _⟩
 ·rw [if_neg c]
  have hne : kl ≠ kl0 := fun he => by
   subst he
   have := lawC_.inj hkl hk
   injection this with this
   simp at this
   exact c ⟨this.1.symm, this.2.symm⟩
  obtain ⟨a, b⟩ := h.2 x y kl hkl
  refine ⟨fun j hj => ?_, fun hj => ?_⟩
  ·rw [has_put_other hne, atKey_put_other hne]; exact a j hj
  ·rw [has_put_other hne]; exact b hj
theorem ownsMap_below {w w' : World} {b n : Nat} {D : DataW Unit} (h : w.ownsMap Try.prog 42 (plainElem Try.prog 3) b n D) (hb : Below w.heap.size w w') : w'.ownsMap Try.prog 42 (plainElem Try.prog 3) b n D := h.kept (grown_of_below hb none) (by simp)
/-- a row is no map's block -/
theorem R_notmap {α : Type} {d : Kd α} {e : Nat} {w : World} {base : Nat} {ok : Nat → Prop} {v : Value} {xs : List α} {B n : Nat} {D : DataW Unit} (h : d.R e w base ok v xs) (hm : w.ownsMap Try.prog 42 (plainElem Try.prog 3) B n D) : d.R e w base (fun k => ok k ∧ k ≠ B) v xs := by
 obtain ⟨es, clock, hb, _⟩ := hm
 refine Kd.R_mono (Kd.R_bound h) fun k hk => ⟨hk.1, ?_⟩
 obtain ⟨_, _, _, q, _, cells, hc⟩ := hk
 rintro rfl
 rw [hb] at hc
 exact absurd (Option.some.inj hc) (by simp)
theorem R_update {α : Type} {d : Kd α} {e : Nat} {w w' : World} {base : Nat} {v : Value} {xs : List α} {B n : Nat} {D : DataW Unit} (h : d.R e w base (fun _ => True) v xs) (hm : w.ownsMap Try.prog 42 (plainElem Try.prog 3) B n D) (hg : w.grownBy w' (some B)) : d.R e w' base (fun _ => True) v xs :=
 Kd.R_mono (Kd.R_grown (R_notmap h hm) hg (fun k hk he => hk.2 (Option.some.inj he))) (fun _ _ => trivial)
theorem R_madeAt {α : Type} {d : Kd α} {e : Nat} {w : World} {base : Nat} {ok : Nat → Prop} {v : Value} {xs : List α} (h : d.R e w base ok v xs) {b : Nat} (hb : v.ownBlock = some b) : ∃ co, v = .slice (some ⟨b, 0, none⟩) xs.length co ∧ base ≤ b := by
 obtain ⟨inner, h1, h2⟩ := Kd.R_own h
 rcases h2 with ⟨rfl, _⟩ | ⟨g, cap, cur, rfl, hge, _⟩
 ·simp [Value.ownBlock] at hb
 ·have : g = b := by simpa [Value.ownBlock] using hb
  subst this; exact ⟨cap, rfl, hge⟩
theorem wfC_at {l : List S42} (h : wfC_ l = true) (j : Nat) (hj : j < l.length) : (Lit.int .i64 (rd_T42 l (j : Nat)).f0).wf = true ∧ (Lit.int .i64 (rd_T42 l (j : Nat)).f1).wf = true := by
 unfold wfC_ at h
 rw [List.all_eq_true] at h
 have hm : rd_T42 l (j : Nat) ∈ l := by
  unfold rd_T42; rw [List.getD_eq_getElem?_getD, Int.toNat_natCast, List.getElem?_eq_getElem hj]; exact List.getElem_mem hj
 have := of_decide_eq_true (h _ hm)
 exact ⟨wfI_ (by omega) (by omega), wfI_ (by omega) (by omega)⟩
theorem rdn_get (l : List Int) (j : Nat) (hj : j < l.length) : l[j]? = some (rd l (j : Nat)) := by
 unfold rd; rw [List.getD_eq_getElem?_getD, Int.toNat_natCast, List.getElem?_eq_getElem hj]; rfl
theorem rep_of_get (z : List Int) (n : Nat) (hn : z.length = n) (h : ∀ j, j < n → z[j]? = some (-1)) : z = List.replicate n (-1) := by
 apply List.ext_getElem?
 intro j
 by_cases hj : j < n
 ·rw [h j hj, List.getElem?_replicate, if_pos hj]
 ·rw [List.getElem?_eq_none (by omega), List.getElem?_eq_none (by simp; omega)]
theorem infoI_ : (Try.prog.info? 3).map (fun i => (i.zero, i.size, i.bytes)) = some (some (.int .i64 0), 1, 8) := by kernel_rfl
theorem map_ne {α : Type} {d : Kd α} {e : Nat} {w : World} {base : Nat} {ok : Nat → Prop} {v : Value} {xs : List α} {B n : Nat} {D : DataW Unit} (h : d.R e w base ok v xs) (hm : w.ownsMap Try.prog 42 (plainElem Try.prog 3) B n D) : some B ≠ v.ownBlock := fun he => ((R_notmap h hm).1 B he.symm).2 rfl
theorem around_wf {x y : Int} {ds : List S42} (h : impl_around.f x y = some ds) (hx : (Lit.int .i64 x).wf = true) (hy : (Lit.int .i64 y).wf = true) : ds.length = 4 ∧ ∀ j, j < ds.length → (Lit.int .i64 (rd_T42 ds (j : Nat)).f0).wf = true ∧ (Lit.int .i64 (rd_T42 ds (j : Nat)).f1).wf = true := by
 unfold impl_around.f at h
 obtain rfl := Option.some.inj h
 refine ⟨rfl, fun j hj => ?_⟩
 have : j = 0 ∨ j = 1 ∨ j = 2 ∨ j = 3 := by simp at hj; omega
 rcases this with rfl | rfl | rfl | rfl
 ·exact ⟨hx, wrap64_wf _⟩
 ·exact ⟨wrap64_wf _, hy⟩
 ·exact ⟨wrap64_wf _, hy⟩
 ·exact ⟨hx, wrap64_wf _⟩
theorem dropC_cons (l : List S42) (j : Nat) (hj : j < l.length) : l.drop j = rd_T42 l (j : Nat) :: l.drop (j + 1) := by
 rw [List.drop_eq_getElem_cons hj]; congr 1
 unfold rd_T42; rw [List.getD_eq_getElem?_getD, Int.toNat_natCast, List.getElem?_eq_getElem hj]; rfl
theorem plN_lt (l : List S42) (x y : Int) : ∀ (n j : Nat), plN_ l n x y = some j → j < n := by
 intro n
 induction n with
 | zero => intro j h; simp [plN_] at h
 | succ n ih =>
  intro j h
  unfold plN_ at h
  split at h
  ·obtain rfl := Option.some.inj h; omega
  ·have := ih j h; omega
set_option maxHeartbeats 8000000 in
set_option maxRecDepth 100000 in
theorem impl_parts.calls (k : Nat) (A0 : Option Addr) (c0 : Nat) (l0 : List S42) (r : List Int) (w : World) (hr0 : Kd.C k42 w A0 l0.length l0) (hc0 : l0.length ≤ c0) (h : impl_parts.f k l0 = some r) :
  Calls Try.prog 67 #[.slice A0 l0.length c0, .func (.func 68) #[] #[]] w fun e w' => ∃ v0_ : Value, e = .returned (v0_) ∧ Kd.R (Kd.int .i64) 2 w' w.heap.size (fun _ => True) v0_ r ∧ Below w.heap.size w w' := by
 have hu1 := Try.underlying24
 have hu2 := Try.underlying42
 have hmm := @run_makeMap Try.prog
 have HR0 := Aside0.mk hr0
 have HC0 := Aside0.mk hc0
 clear hr0 hc0
 unfold impl_parts.f at h
 by_cases hb : l0.length ≤ 1000000
 rotate_left
 ·rw [if_neg hb] at h; exact absurd h (by simp)
 rw [if_pos hb] at h
 by_cases hw : wfC_ l0 = true
 rotate_left
 ·rw [if_neg hw] at h; exact absurd h (by simp)
 rw [if_pos hw] at h
 have H := Aside0.mk h
 have HW := Aside0.mk hw
 clear h hw
 go_enter Try.func67, Try.ntmps67
 go_wp2_with ((with_reducible refine gate_dst (N := 19) rfl ?_); refine Kd.R_make (Kd.int .i64) (w0 := w) w.heap.size 2 rfl (N := 19) rfl 24 _ _ rfl (l0.length : Int) rfl rfl hu1 (.int .i64 0) 8 info2 rfl (by decide) (by decide) 0 (ok := fun _ => True) (okp := fun _ => True) rfl (fun _ hk => hk) trivial (by omega) (by simp only [Int.toNat_natCast]; omega) (below_alloc (Below.refl _ _) _) (by simp) ?_)
 intro vo w1 hR hB1 hg g hgb hgs
 obtain ⟨co, rfl, hgw⟩ := R_madeAt hR hgb
 rw [List.length_replicate] at *
 clear hgs
 have HO := Aside0.mk hR
 have HB := Aside0.mk hB1
 have HM := Aside0.mk ((World.ownsMap_made (H := Unit) w Try.prog 42 (plainElem Try.prog 3)).kept hg (by simp))
 have HG := Aside0.mk hgw
 clear hR hB1 hg hgb hgw
 go_wp2_with fail
 go_loopg [22] l0.length (fun gk v22 wr => ∃ (i : Nat) (z : List Int) (D : DataW Unit), v22 = .int .i64 i ∧ Aside0 (gk + i = l0.length) ∧ Aside0 (PlOk_ D l0 i) ∧ Aside0 (wr.ownsMap Try.prog 42 (plainElem Try.prog 3) w.heap.size i D) ∧ Aside0 (Kd.R (Kd.int .i64) 2 wr w.heap.size (fun _ => True) (.slice (some ⟨g, 0, none⟩) l0.length co) z) ∧ Aside0 (∀ j, j < i → z[j]? = some (-1)) ∧ Aside0 (Below w.heap.size w wr))
 case atStart => exact ⟨0, List.replicate l0.length 0, .map [], rfl, ⟨rfl⟩, ⟨PlOk_.start l0⟩, HM, HO, ⟨fun j hj => by omega⟩, HB⟩
 case round =>
  clear HM HO HB
  obtain ⟨i, z, D, rfl, HK, HP, HM, HO, HZ, HB⟩ := hrel
  have hzl := (Kd.R_reads' HO.out).1
  have HZL := Aside0.mk hzl
  cases gk with
  | zero =>
   have hi : i = l0.length := by have := HK.out; omega
   have d1 : decide ((i : Int) < (l0.length : Int)) = false := decide_eq_false (by omega)
   have d2 : decide (i < l0.length) = false := decide_eq_false (by omega)
   have hz : z = List.replicate l0.length (-1) := rep_of_get z _ hzl.symm (fun j hj => HZ.out j (by omega))
   have H2 : Aside0 (impl_parts.outer k l0 l0.length 0 z = some r) := ⟨by rw [hz]; exact H.out⟩
   have HP2 : Aside0 (PlOk_ D l0 l0.length) := ⟨by rw [← hi]; exact HP.out⟩
   have HI := Aside0.mk hi
   clear hzl hz H HP HZ hi
   go_wp2_with fail
   go_loopg [36] l0.length (fun gk v36 wr => ∃ (i2 : Nat) (z2 : List Int), v36 = .int .i64 i2 ∧ Aside0 (gk + i2 = l0.length) ∧ Aside0 (impl_parts.outer k l0 gk i2 z2 = some r) ∧ Aside0 (wr.ownsMap Try.prog 42 (plainElem Try.prog 3) w.heap.size i D) ∧ Aside0 (Kd.R (Kd.int .i64) 2 wr w.heap.size (fun _ => True) (.slice (some ⟨g, 0, none⟩) l0.length co) z2) ∧ Aside0 (Below w.heap.size w wr))
   case atStart => exact ⟨0, z, rfl, ⟨rfl⟩, H2, HM, HO, HB⟩
   case round =>
    clear H2 HM HO HB HZL
    obtain ⟨i2, z2, rfl, HK2, H2, HM, HO, HB⟩ := hrel
    cases gk with
    | zero =>
     have hi2 : i2 = l0.length := by have := HK2.out; omega
     have e1 : decide ((i2 : Int) < (l0.length : Int)) = false := decide_eq_false (by omega)
     have e2 : decide (i2 < l0.length) = false := decide_eq_false (by omega)
     have hz2 : some z2 = some r := H2.out
     obtain rfl := Option.some.inj hz2
     clear hz2 H2 hi2
     go_wp2_with fail
     go_ret
     exact ⟨_, rfl, HO.out, HB.out⟩
    | succ gk2 =>
     have hi2 : i2 < l0.length := by have := HK2.out; omega
     have p1 : 0 ≤ (i2 : Int) := by omega
     have q1 : (i2 : Int) < (l0.length : Int) := by omega
     have e1 : decide ((i2 : Int) < (l0.length : Int)) = true := decide_eq_true q1
     have e2 : decide (i2 < l0.length) = true := decide_eq_true hi2
     obtain ⟨hy, hz⟩ := Kd.R_celln 0 HO.out (i2 : Int) p1 q1
     rw [Int.toNat_natCast] at hy hz
     replace hy : wr.cell? ⟨g, i2, none⟩ = some (.int .i64 (rd z2 i2)) := hy
     have hH : (if rd z2 (i2 : Nat) ≥ 0 then impl_parts.outer k l0 gk2 (i2 + 1) z2 else ((impl_parts.bfs k l0 (i2 : Nat) 0 (z2.set i2 (i2 : Nat)) [(i2 : Int)]).bind fun out => impl_parts.outer k l0 gk2 (i2 + 1) out)) = some r := H2.out
     clear H2 d1 d2
     by_cases c : rd z2 (i2 : Nat) ≥ 0
     ·rw [if_pos c] at hH
      have H2 := Aside0.mk hH
      have c1 : decide (0 ≤ rd z2 (i2 : Nat)) = true := decide_eq_true c
      clear hH c
      go_wp2_with fail
      go_roundg gk2
      case measure => omega
      case rel => exact ⟨i2 + 1, z2, by go_num, ⟨by have := HK2.out; omega⟩, H2, HM, HO, HB⟩
     ·rw [if_neg c] at hH
      have c1 : decide (0 ≤ rd z2 (i2 : Nat)) = false := decide_eq_false c
      obtain ⟨z3, hz3, hH3⟩ := Option.bind_eq_some_iff.mp hH
      have H2 := Aside0.mk hH3
      have HZ3 := Aside0.mk hz3
      clear hH c hH3 hz3
      have HPG := Aside0.mk (Kd.R_putg HO.out (i2 : Int) (i2 : Int))
      rw [Int.toNat_natCast] at HPG
      generalize rd z2 (i2 : Nat) = zz at *
      go_wp2_with ((with_reducible refine gate_store (t := 2) (p := 47) rfl ?_); refine store_event (t := 2) (p := 47) (v := .tmp 46) (w1 := wr.setCell ⟨g, i2, none⟩ (.int .i64 (i2 : Int))) rfl rfl rfl (by first | (go_simp; done) | (go_simp; rfl)) ?_)
      intro w3 hw3
      have hne := (R_notmap HO.out HM.out).1 g (by simp [Value.ownBlock])
      have HO3 : Aside0 (Kd.R (Kd.int .i64) 2 w3 w.heap.size (fun _ => True) (.slice (some ⟨g, 0, none⟩) l0.length co) (z2.set i2 (i2 : Int))) := ⟨by rw [hw3]; exact HPG.out.1⟩
      have HM3 : Aside0 (w3.ownsMap Try.prog 42 (plainElem Try.prog 3) w.heap.size i D) := ⟨by rw [hw3]; exact HM.out.setCell (fun e => hne.2 e.symm) _⟩
      have HB3 : Aside0 (Below w.heap.size w w3) := ⟨by rw [hw3]; exact below_set HB.out HG.out⟩
      clear HPG HM HB HO hy hz hw3 hne
      go_wp2_with ((with_reducible refine gate_dst (N := 49) rfl ?_); refine Kd.R_lit (Kd.int .i64) _ 3 ?hg (N := 49) ?hd (xs := ([(i2 : Int)] : List Int)) (inner := [.int .i64 (i2 : Int)]) (ok := fun _ => True) (okp := fun _ => True) ?hr ?hp (fun _ hk => hk) trivial (Below.refl _ _) (Nat.le_refl _) (by simp) ?_; (case hd => rfl); (case hg => rfl); (case hr => first | (go_simp; done) | (go_simp; rfl)); (case hp => exact (Reps.one (show Kd.M (Kd.int .i64) _ _ _ (i2 : Int) [.int .i64 (i2 : Int)] from rfl) (Reps.none _ _))))
      intro vq w4 ho hb4 hg4 nb hnb hns
      have HQ : Aside0 (Kd.R (Kd.int .i64) 3 w4 w.heap.size (fun _ => True) vq [(i2 : Int)]) := ⟨Kd.R_lower ho HB3.out.size⟩
      have HO4 := Aside0.mk (Kd.R_below HO3.out hb4)
      have HM4 := Aside0.mk (ownsMap_below HM3.out hb4)
      have HB4 := Aside0.mk (below_step HB3.out hb4)
      clear ho hb4 hg4 hnb hns HO3 HM3 HB3
      go_wp2_with fail
      go_loopg [10, 11] k (fun kq v10 v11 wr => ∃ (a : Nat) (out q : List Int), v11 = .int .i64 a ∧ Aside0 (impl_parts.bfs kq l0 (i2 : Nat) a out q = some z3) ∧ Aside0 (wr.ownsMap Try.prog 42 (plainElem Try.prog 3) w.heap.size i D) ∧ Aside0 (Kd.R (Kd.int .i64) 2 wr w.heap.size (fun _ => True) (.slice (some ⟨g, 0, none⟩) l0.length co) out) ∧ Aside0 (Kd.R (Kd.int .i64) 3 wr w.heap.size (fun _ => True) v10 q) ∧ Aside0 (Below w.heap.size w wr))
      case atStart => exact ⟨0, _, _, rfl, HZ3, HM4, HO4, HQ, HB4⟩
      case round =>
       clear HZ3 HM4 HO4 HQ HB4
       obtain ⟨a, out, q, rfl, HF, HM, HO, HQ, HB⟩ := hrel
       obtain ⟨Aq, cq, rfl, hcq, hCq⟩ := Kd.R_reads HQ.out
       have HCQ := Aside0.mk hCq
       have hql : q.length ≤ 9223372036854775807 := hCq.2.1
       clear hCq hcq
       cases gk with
       | zero => exact absurd HF.out (by simp [impl_parts.bfs])
       | succ kq =>
        have hF := HF.out
        clear HF
        simp only [impl_parts.bfs] at hF
        by_cases ca : a < q.length
        ·rw [if_pos ca] at hF
         have f1 : decide ((a : Int) < (q.length : Int)) = true := decide_eq_true (by omega)
         have f2 : decide (a < q.length) = true := decide_eq_true ca
         have pa : 0 ≤ (a : Int) := by omega
         have qa : (a : Int) < (q.length : Int) := by omega
         by_cases cb : 0 ≤ rd q (a : Nat)
         rotate_left
         ·rw [if_neg cb] at hF; exact absurd hF (by simp)
         rw [if_pos cb] at hF
         by_cases cc : rd q (a : Nat) < (l0.length : Int)
         rotate_left
         ·rw [if_neg cc] at hF; exact absurd hF (by simp)
         rw [if_pos cc] at hF
         obtain ⟨ds, hds, hF⟩ := Option.bind_eq_some_iff.mp hF
         obtain ⟨⟨o', q'⟩, hnear, hF⟩ := Option.bind_eq_some_iff.mp hF
         replace hF : impl_parts.bfs kq l0 (i2 : Nat) (a + 1) o' q' = some z3 := hF
         obtain ⟨m, hm⟩ := Int.eq_ofNat_of_zero_le cb
         obtain ⟨adq, eq1, hq0⟩ := Kd.at_int HCQ.out (a : Int) pa qa
         subst eq1
         rw [Int.toNat_natCast, hm] at hq0
         rw [hm] at cb cc hds
         obtain ⟨wf0, wf1⟩ := wfC_at HW.out m (by omega)
         obtain ⟨ds4, dswf⟩ := around_wf hds wf0 wf1
         obtain ⟨ad, e3, hx0, hx1⟩ := at_T42 HR0.out (m : Int) cb cc
         subst e3
         rw [Int.toNat_natCast] at hx0 hx1
         replace hx0 := (HB.out.cell (World.block_lt_of_cell? w _ hx0)).trans hx0
         replace hx1 := (HB.out.cell (World.block_lt_of_cell? w _ hx1)).trans hx1
         have g1 : decide ((m : Int) < (l0.length : Int)) = true := decide_eq_true cc
         have g2 : decide (m < l0.length) = true := decide_eq_true (by omega)
         have HDS := Aside0.mk hds
         have HDW := Aside0.mk dswf
         have HD4 := Aside0.mk ds4
         have HF := Aside0.mk hF
         have HN : Aside0 (impl_parts.near l0 (i2 : Nat) (ds.drop 0) out q = some (o', q')) := ⟨hnear⟩
         clear hF hnear hds dswf ds4 hm wf0 wf1 ca
         generalize rd_T42 l0 (m : Int) = cm at *
         go_wp2_with fail
         refine (impl_around.calls cm.f0 cm.f1 ds _ HDS.out).mono ?_
         rintro e w5 ⟨vd, rfl, hRd, hb5⟩
         obtain ⟨Ad, cd, rfl, hcd, hCd⟩ := Kd.R_reads hRd
         have HD := Aside0.mk (Kd.R_lower hRd HB.out.size)
         have HO5 := Aside0.mk (Kd.R_below HO.out hb5)
         have HQ5 := Aside0.mk (Kd.R_below HQ.out hb5)
         have HM5 := Aside0.mk (ownsMap_below HM.out hb5)
         have HB5 := Aside0.mk (below_step HB.out hb5)
         have hdl : ds.length ≤ 9223372036854775807 := hCd.2.1
         clear hRd hb5 hcd hCd HO HQ HM HB hq0 hx0 hx1 HCQ
         go_wp2_with fail
         go_loopg [10, 66] ds.length (fun gk v10 v66 wr => ∃ (j : Nat) (out q : List Int), v66 = .int .i64 j ∧ Aside0 (gk + j = ds.length) ∧ Aside0 (impl_parts.near l0 (i2 : Nat) (ds.drop j) out q = some (o', q')) ∧ Aside0 (wr.ownsMap Try.prog 42 (plainElem Try.prog 3) w.heap.size i D) ∧ Aside0 (Kd.R (Kd.int .i64) 2 wr w.heap.size (fun _ => True) (.slice (some ⟨g, 0, none⟩) l0.length co) out) ∧ Aside0 (Kd.R (Kd.int .i64) 3 wr w.heap.size (fun _ => True) v10 q) ∧ Aside0 (Kd.R k42 42 wr w.heap.size (fun _ => True) (.slice Ad ds.length cd) ds) ∧ Aside0 (Below w.heap.size w wr))
         case atStart => exact ⟨0, out, q, rfl, ⟨rfl⟩, HN, HM5, HO5, HQ5, HD, HB5⟩
         case round =>
          clear HN HM5 HO5 HQ5 HD HB5
          obtain ⟨j, out, q, rfl, HKJ, HN, HM, HO, HQ, HD, HB⟩ := hrel
          cases gk with
          | zero =>
           have hj : j = ds.length := by have := HKJ.out; omega
           have h1 : decide ((j : Int) < (ds.length : Int)) = false := decide_eq_false (by omega)
           have h2 : decide (j < ds.length) = false := decide_eq_false (by omega)
           have hn := HN.out
           rw [hj, List.drop_length] at hn
           have hn2 : some (out, q) = some (o', q') := hn
           obtain ⟨rfl, rfl⟩ := Prod.mk.inj (Option.some.inj hn2)
           clear hn hn2 HN hj
           go_wp2_with fail
           go_roundg kq
           case measure => omega
           case rel => exact ⟨a + 1, out, q, by go_num, HF, HM, HO, HQ, HB⟩
          | succ gk3 =>
           have hj : j < ds.length := by have := HKJ.out; omega
           have h1 : decide ((j : Int) < (ds.length : Int)) = true := decide_eq_true (by omega)
           have h2 : decide (j < ds.length) = true := decide_eq_true hj
           have pj : 0 ≤ (j : Int) := by omega
           have qj : (j : Int) < (ds.length : Int) := by omega
           obtain ⟨ad, e3, hx0, hx1⟩ := at_T42 (Kd.R_reads' HD.out).2.2 j pj qj
           subst e3
           rw [Int.toNat_natCast] at hx0 hx1
           obtain ⟨wf0, wf1⟩ := HDW.out j hj
           obtain ⟨kl, hkl⟩ := keyC_ _ _ wf0 wf1
           have hn := HN.out
           rw [dropC_cons ds j hj] at hn
           have HKL := Aside0.mk hkl
           obtain ⟨px, py⟩ := HP2.out.2 _ _ kl hkl
           clear hkl wf0 wf1 HN
           generalize rd_T42 ds (j : Int) = cj at *
           obtain ⟨jj, hjj⟩ : ∃ jj, jj = j := ⟨j, rfl⟩
           rw [← hjj] at hn
           have hn2 : (match plN_ l0 l0.length cj.f0 cj.f1 with
            | some j => if rd out (j : Nat) < 0 then (if q.length < 1000000 then impl_parts.near l0 (i2 : Nat) (ds.drop (jj + 1)) (out.set j (i2 : Nat)) (q ++ [(j : Int)]) else none) else impl_parts.near l0 (i2 : Nat) (ds.drop (jj + 1)) out q
            | none => impl_parts.near l0 (i2 : Nat) (ds.drop (jj + 1)) out q) = some (o', q') := hn
           clear hn
           rw [hjj] at hn2
           clear hjj
           cases hpl : plN_ l0 l0.length cj.f0 cj.f1 with
           | none =>
            have hh := py hpl
            rw [hpl] at hn2
            have HN := Aside0.mk hn2
            clear hn2 px py hpl
            go_wp2_with (at_lookup; refine wpList_lookup_own_ok_int _ rfl _ _ 86 rfl 42 3 .i64 lawC_ Try.underlying86 Try.underlying3 (zeroI_ _) w.heap.size i D rfl (HM.out.alloc _) _ _ rfl HKL.out ?_)
            intro c hat hwc
            clear hat hwc hh
            go_wp2_with fail
            go_roundg gk3
            case measure => omega
            case rel => exact ⟨j + 1, out, q, by go_num, ⟨by have := HKJ.out; omega⟩, HN, ⟨HM.out.alloc _⟩, ⟨Kd.R_alloc HO.out _⟩, ⟨Kd.R_alloc HQ.out _⟩, ⟨Kd.R_alloc HD.out _⟩, ⟨below_alloc HB.out _⟩⟩
           | some jx =>
            obtain ⟨hh, hat0⟩ := px jx hpl
            have hjx := plN_lt l0 _ _ _ _ hpl
            rw [hpl] at hn2
            have hn3 : (if rd out (jx : Nat) < 0 then (if q.length < 1000000 then impl_parts.near l0 (i2 : Nat) (ds.drop (j + 1)) (out.set jx (i2 : Nat)) (q ++ [(jx : Int)]) else none) else impl_parts.near l0 (i2 : Nat) (ds.drop (j + 1)) out q) = some (o', q') := hn2
            have HT := Aside0.mk hat0
            clear hn2 px py hpl hat0
            have px : 0 ≤ (jx : Int) := by omega
            have qx : (jx : Int) < (l0.length : Int) := by omega
            have g3 : decide ((jx : Int) < (l0.length : Int)) = true := decide_eq_true qx
            have g4 : decide (jx < l0.length) = true := decide_eq_true hjx
            have HOA := Aside0.mk (Kd.R_alloc HO.out (.cells #[.int .i64 cj.f0, .int .i64 cj.f1] 42 (0, 0)))
            obtain ⟨hy, hz⟩ := Kd.R_celln 0 HOA.out (jx : Int) px qx
            rw [Int.toNat_natCast] at hy hz
            replace hy : (wr.alloc (.cells #[.int .i64 cj.f0, .int .i64 cj.f1] 42 (0, 0))).cell? ⟨g, jx, none⟩ = some (.int .i64 (rd out jx)) := hy
            have HPG := Aside0.mk (Kd.R_putg HOA.out (jx : Int) (i2 : Int))
            rw [Int.toNat_natCast] at HPG
            by_cases cn : rd out (jx : Nat) < 0
            ·rw [if_pos cn] at hn3
             have cn1 : decide (rd out (jx : Nat) < 0) = true := decide_eq_true cn
             by_cases cq2 : q.length < 1000000
             rotate_left
             ·rw [if_neg cq2] at hn3; exact absurd hn3 (by simp)
             rw [if_pos cq2] at hn3
             have HN := Aside0.mk hn3
             have HQL := Aside0.mk cq2
             clear hn3 cn cq2
             generalize rd out (jx : Nat) = zz at *
             go_wp2_with (at_lookup; refine wpList_lookup_own_ok_int _ rfl _ _ 86 rfl 42 3 .i64 lawC_ Try.underlying86 Try.underlying3 (zeroI_ _) w.heap.size i D rfl (HM.out.alloc _) _ _ rfl HKL.out ?_)
             intro c hat hwc
             have hcj : c = (jx : Int) := by
              rw [HT.out] at hat
              injection hat with hat
              injection hat with _ hat
              exact hat.symm
             subst hcj
             clear hat hwc hh
             go_wp2_with ((with_reducible refine gate_store (t := 2) (p := 87) rfl ?_); refine store_event (t := 2) (p := 87) (v := .tmp 86) (w1 := (wr.alloc (.cells #[.int .i64 cj.f0, .int .i64 cj.f1] 42 (0, 0))).setCell ⟨g, jx, none⟩ (.int .i64 (i2 : Int))) rfl rfl rfl (by first | (go_simp; done) | (go_simp; rfl)) ?_)
             intro w6 hw6
             have hne := (R_notmap HO.out HM.out).1 g (by simp [Value.ownBlock])
             have hg6 : (wr.alloc (.cells #[.int .i64 cj.f0, .int .i64 cj.f1] 42 (0, 0))).grownBy w6 (some g) := by rw [hw6]; exact HPG.out.2
             have HO6 : Aside0 (Kd.R (Kd.int .i64) 2 w6 w.heap.size (fun _ => True) (.slice (some ⟨g, 0, none⟩) l0.length co) (out.set jx (i2 : Int))) := ⟨by rw [hw6]; exact HPG.out.1⟩
             have HM6 : Aside0 (w6.ownsMap Try.prog 42 (plainElem Try.prog 3) w.heap.size i D) := ⟨by rw [hw6]; exact (HM.out.alloc _).setCell (fun e => hne.2 e.symm) _⟩
             have HQ6 : Aside0 (Kd.R (Kd.int .i64) 3 w6 w.heap.size (fun _ => True) u10 q) := ⟨Kd.R_over' (v := .slice (some ⟨g, 0, none⟩) l0.length co) (Kd.R_alloc HQ.out _) (Kd.R_typed HOA.out) (by decide) hg6⟩
             have HD6 : Aside0 (Kd.R k42 42 w6 w.heap.size (fun _ => True) (.slice (some ad) ds.length cd) ds) := ⟨Kd.R_over' (v := .slice (some ⟨g, 0, none⟩) l0.length co) (Kd.R_alloc HD.out _) (Kd.R_typed HOA.out) (by decide) hg6⟩
             have HB6 : Aside0 (Below w.heap.size w w6) := ⟨by rw [hw6]; exact below_set (below_alloc HB.out _) HG.out⟩
             clear HPG HM HB HO HQ HD HOA hy hz hw6 hne hg6 hx0 hx1
             go_wp2_with ((with_reducible refine gate_builtin (b := .append) (xs := #[.tmp 88, .tmp 90]) rfl ?_); at_builtin; refine Kd.R_append (Kd.int .i64) (w0 := w) w.heap.size rfl (.tmp 88) (.tmp 90) 87 3 (.int .i64 0) 8 rfl Try.underlying87 infoI_ rfl (by decide) (by omega) u10 q (jx : Int) [.int .i64 (jx : Int)] (fun _ => True) (fun _ => False) rfl rfl ?aP (fun _ hk => hk.elim) ?aF ?aO ?aB ?aS ?aL ?_; (case aP => exact rfl); (case aB => exact HB6.out); (case aF => exact (fun _ _ => trivial)); (case aO => exact HQ6.out); (case aS => exact HB6.out.size); (case aL => have := HQL.out; omega))
             intro v7 w7 ho hb7 hg7 hat7
             have HO7 := Aside0.mk (Kd.R_over' HO6.out (Kd.R_typed HQ6.out) (by decide) hg7)
             have HD7 := Aside0.mk (Kd.R_over' HD6.out (Kd.R_typed HQ6.out) (by decide) hg7)
             have HM7 := Aside0.mk (HM6.out.kept hg7 (map_ne HQ6.out HM6.out))
             have HQ7 := Aside0.mk ho
             have HB7 := Aside0.mk hb7
             clear ho hb7 hg7 hat7 HO6 HD6 HM6 HQ6 HB6
             go_wp2_with fail
             go_roundg gk3
             case measure => omega
             case rel => exact ⟨j + 1, out.set jx (i2 : Int), q ++ [(jx : Int)], by go_num, ⟨by have := HKJ.out; omega⟩, HN, HM7, HO7, HQ7, HD7, HB7⟩
            ·rw [if_neg cn] at hn3
             have cn1 : decide (rd out (jx : Nat) < 0) = false := decide_eq_false cn
             have HN := Aside0.mk hn3
             clear hn3 cn HPG
             generalize rd out (jx : Nat) = zz at *
             go_wp2_with (at_lookup; refine wpList_lookup_own_ok_int _ rfl _ _ 86 rfl 42 3 .i64 lawC_ Try.underlying86 Try.underlying3 (zeroI_ _) w.heap.size i D rfl (HM.out.alloc _) _ _ rfl HKL.out ?_)
             intro c hat hwc
             have hcj : c = (jx : Int) := by
              rw [HT.out] at hat
              injection hat with hat
              injection hat with _ hat
              exact hat.symm
             subst hcj
             clear hat hwc hh
             go_wp2_with fail
             go_roundg gk3
             case measure => omega
             case rel => exact ⟨j + 1, out, q, by go_num, ⟨by have := HKJ.out; omega⟩, HN, ⟨HM.out.alloc _⟩, HOA, ⟨Kd.R_alloc HQ.out _⟩, ⟨Kd.R_alloc HD.out _⟩, ⟨below_alloc HB.out _⟩⟩
        ·rw [if_neg ca] at hF
         obtain rfl := Option.some.inj hF
         have f1 : decide ((a : Int) < (q.length : Int)) = false := decide_eq_false (by omega)
         have f2 : decide (a < q.length) = false := decide_eq_false ca
         clear hF ca
         go_wp2_with fail
         go_roundg gk2
         case measure => omega
         case rel => exact ⟨i2 + 1, out, by go_num, ⟨by have := HK2.out; omega⟩, H2, HM, HO, HB⟩
  | succ gk2 =>
   have hi : i < l0.length := by have := HK.out; omega
   have p1 : 0 ≤ (i : Int) := by omega
   have q1 : (i : Int) < (l0.length : Int) := by omega
   obtain ⟨ad, e1, hx0, hx1⟩ := at_T42 HR0.out i p1 q1
   subst e1
   rw [Int.toNat_natCast] at hx0 hx1
   have d1 : decide ((i : Int) < (l0.length : Int)) = true := decide_eq_true q1
   have d2 : decide (i < l0.length) = true := decide_eq_true hi
   obtain ⟨wf0, wf1⟩ := wfC_at HW.out i hi
   obtain ⟨kl, hkl⟩ := keyC_ _ _ wf0 wf1
   have HP2 := Aside0.mk (HP.out.step hkl)
   replace hx0 := (HB.out.cell (World.block_lt_of_cell? w _ hx0)).trans hx0
   replace hx1 := (HB.out.cell (World.block_lt_of_cell? w _ hx1)).trans hx1
   have HKL := Aside0.mk hkl
   have hlm : i < maxLen := by simp only [maxLen]; omega
   clear HP hkl wf0 wf1 hzl
   generalize rd_T42 l0 (i : Int) = cc at *
   have wfi : (Lit.int .i64 (i : Int)).wf = true := wfI_ (by omega) (by omega)
   go_wp2_with (at_mapUpdate; refine wpList_mapUpdate_own _ rfl _ _ _ 86 rfl 42 3 lawC_ Try.underlying86 _ w.heap.size i _ rfl (HM.out.alloc _) hlm _ _ _ rfl rfl HKL.out _ [] (plainElem_int Try.underlying3 wfi) ?_)
   intro w2 hown hg
   have HO2 := Aside0.mk (R_update (Kd.R_alloc HO.out _) (HM.out.alloc _) hg)
   have hne := (R_notmap HO2.out hown).1 g (by simp [Value.ownBlock])
   have HB2 := Aside0.mk ((below_alloc HB.out (.cells #[.int .i64 cc.f0, .int .i64 cc.f1] 42 (0, 0))).grown hg (below_alloc HB.out _).size (by intro k hk; cases hk; exact Nat.le_refl _))
   obtain ⟨hy, hz⟩ := Kd.R_celln 0 HO2.out (i : Int) p1 q1
   have HPG := Aside0.mk (Kd.R_putg HO2.out (i : Int) (-1))
   have HM2 := Aside0.mk hown
   have HNE := Aside0.mk hne.2
   clear HO HM HB hg hown hne
   rw [Int.toNat_natCast] at hy hz HPG
   go_wp2_with ((with_reducible refine gate_store (t := 2) (p := 32) rfl ?_); refine store_event (t := 2) (p := 32) (v := .const (.int .i64 (-1))) (w1 := w2.setCell ⟨g, i, none⟩ (.int .i64 (-1))) rfl rfl rfl (by first | (go_simp; done) | (go_simp; rfl)) ?_)
   intro w3 hw3
   have HO3 : Aside0 (Kd.R (Kd.int .i64) 2 w3 w.heap.size (fun _ => True) (.slice (some ⟨g, 0, none⟩) l0.length co) (z.set i (-1))) := ⟨by rw [hw3]; exact HPG.out.1⟩
   have HM3 : Aside0 (w3.ownsMap Try.prog 42 (plainElem Try.prog 3) w.heap.size (i + 1) (D.put kl (.lit (.int .i64 (i : Nat))))) := ⟨by rw [hw3]; exact HM2.out.setCell (fun e => HNE.out e.symm) _⟩
   have HB3 : Aside0 (Below w.heap.size w w3) := ⟨by rw [hw3]; exact below_set HB2.out HG.out⟩
   clear HPG HM2 HB2 HO2 hy hz hw3 hx0 hx1
   go_wp2_with fail
   go_roundg gk2
   case measure => omega
   case rel => exact ⟨i + 1, z.set i (-1), _, by go_num, ⟨by have := HK.out; omega⟩, HP2, HM3, HO3, ⟨fun j hj => by
    rw [List.getElem?_set]
    by_cases e : i = j
    ·rw [if_pos e, if_pos (by have := HZL.out; omega)]
    ·rw [if_neg e]; exact HZ.out j (by omega)⟩, HB3⟩
end

/-! ### spec_l02Parts: function 70 -/
mutual
def spec_l02Parts.l0 : Nat → List (S42) → List Int → Int → Option (List Int)
 | 0, _, _, _ => none
 | k + 1, x0, x3, x4 => if x4 < (x0.length : Int) then (if x3.length < 17592186044416 then (spec_l02Parts.l0 k x0 (x3 ++ [(-1)]) (wrap64 (x4 + 1))) else (none)) else (spec_l02Parts.l1 k x0 x3 0)
def spec_l02Parts.l1 : Nat → List (S42) → List Int → Int → Option (List Int)
 | 0, _, _, _ => none
 | k + 1, x0, x3, x5 => if x5 < (x0.length : Int) then (if 0 ≤ x5 then (if x5 < (x3.length : Int) then (if (rd x3 x5) ≥ 0 then (spec_l02Parts.l1 k x0 x3 (wrap64 (x5 + 1))) else (spec_l02Parts.l2 k x0 (x3.set (x5 : Int).toNat x5) x5 (([x5] : List Int)))) else (none)) else (none)) else (some x3)
def spec_l02Parts.l2 : Nat → List (S42) → List Int → Int → List Int → Option (List Int)
 | 0, _, _, _, _ => none
 | k + 1, x0, x3, x5, x6 => if (x6.length : Int) > 0 then (if 0 < (x6.length : Int) then (if 0 ≤ (rd x6 0) then (if (rd x6 0) < (x0.length : Int) then ((spec_l02Around.f ((rd_T42 x0 (rd x6 0)).f0) ((rd_T42 x0 (rd x6 0)).f1)).bind fun t720 => (if 1 ≤ (x6.length : Int) then (spec_l02Parts.l3 k x0 x3 x5 (x6.drop (1 : Int).toNat) t720 0) else (none))) else (none)) else (none)) else (none)) else (spec_l02Parts.l1 k x0 x3 (wrap64 (x5 + 1)))
def spec_l02Parts.l3 : Nat → List (S42) → List Int → Int → List Int → List (S42) → Int → Option (List Int)
 | 0, _, _, _, _, _, _ => none
 | k + 1, x0, x3, x5, x6, x7, x8 => if x8 < 4 then (if 0 ≤ x8 then (if x8 < (x7.length : Int) then ((spec_l02Index.f k x0 ((rd_T42 x7 x8).f0) ((rd_T42 x7 x8).f1)).bind fun t727 => (if t727 ≥ 0 then (if 0 ≤ t727 then (if t727 < (x3.length : Int) then (if (rd x3 t727) < 0 then (if x6.length < 17592186044416 then (spec_l02Parts.l3 k x0 (x3.set (t727 : Int).toNat x5) x5 (x6 ++ [t727]) x7 (wrap64 (x8 + 1))) else (none)) else (spec_l02Parts.l3 k x0 x3 x5 x6 x7 (wrap64 (x8 + 1)))) else (none)) else (none)) else (spec_l02Parts.l3 k x0 x3 x5 x6 x7 (wrap64 (x8 + 1))))) else (none)) else (none)) else (spec_l02Parts.l2 k x0 x3 x5 x6)
end
def spec_l02Parts.f (k : Nat) (l0 : List (S42)) : Option (List Int) := spec_l02Parts.l0 k l0 (([] : List Int)) 0
theorem spec_l02Parts.mono_l : ∀ k, (∀ y0 y1 y2, LeO (spec_l02Parts.l0 k y0 y1 y2) (spec_l02Parts.l0 (k + 1) y0 y1 y2)) ∧ (∀ y0 y1 y2, LeO (spec_l02Parts.l1 k y0 y1 y2) (spec_l02Parts.l1 (k + 1) y0 y1 y2)) ∧ (∀ y0 y1 y2 y3, LeO (spec_l02Parts.l2 k y0 y1 y2 y3) (spec_l02Parts.l2 (k + 1) y0 y1 y2 y3)) ∧ (∀ y0 y1 y2 y3 y4 y5, LeO (spec_l02Parts.l3 k y0 y1 y2 y3 y4 y5) (spec_l02Parts.l3 (k + 1) y0 y1 y2 y3 y4 y5))
 | 0 => ⟨fun _ _ _ r h => by simp [spec_l02Parts.l0] at h, fun _ _ _ r h => by simp [spec_l02Parts.l1] at h, fun _ _ _ _ r h => by simp [spec_l02Parts.l2] at h, fun _ _ _ _ _ _ r h => by simp [spec_l02Parts.l3] at h⟩
 | k + 1 => by
  obtain ⟨ih0, ih1, ih2, ih3⟩ := spec_l02Parts.mono_l k
  refine ⟨?_, ?_, ?_, ?_⟩
  ·intro y0 y1 y2
   unfold spec_l02Parts.l0
   repeat' first
   | (with_reducible exact ih0 _ _ _)
   | (with_reducible exact ih1 _ _ _)
   | (with_reducible exact ih2 _ _ _ _)
   | (with_reducible exact ih3 _ _ _ _ _ _)
   | (with_reducible exact spec_l02Index.mono _ _ _ _)
   | (with_reducible exact LeO.refl _)
   | (with_reducible exact LeO.none _)
   | (with_reducible refine LeO.ite ?_ ?_)
   | (with_reducible refine LeO.bind ?_ (fun _ => ?_))
   | exact ih0 _ _ _
   | exact ih1 _ _ _
   | exact ih2 _ _ _ _
   | exact ih3 _ _ _ _ _ _
   | exact spec_l02Index.mono _ _ _ _
   | exact LeO.none _
   | refine LeO.ite ?_ ?_
   | refine LeO.bind ?_ (fun _ => ?_)
  ·intro y0 y1 y2
   unfold spec_l02Parts.l1
   repeat' first
   | (with_reducible exact ih0 _ _ _)
   | (with_reducible exact ih1 _ _ _)
   | (with_reducible exact ih2 _ _ _ _)
   | (with_reducible exact ih3 _ _ _ _ _ _)
   | (with_reducible exact spec_l02Index.mono _ _ _ _)
   | (with_reducible exact LeO.refl _)
   | (with_reducible exact LeO.none _)
   | (with_reducible refine LeO.ite ?_ ?_)
   | (with_reducible refine LeO.bind ?_ (fun _ => ?_))
   | exact ih0 _ _ _
   | exact ih1 _ _ _
   | exact ih2 _ _ _ _
   | exact ih3 _ _ _ _ _ _
   | exact spec_l02Index.mono _ _ _ _
   | exact LeO.none _
   | refine LeO.ite ?_ ?_
   | refine LeO.bind ?_ (fun _ => ?_)
  ·intro y0 y1 y2 y3
   unfold spec_l02Parts.l2
   repeat' first
   | (with_reducible exact ih0 _ _ _)
   | (with_reducible exact ih1 _ _ _)
   | (with_reducible exact ih2 _ _ _ _)
   | (with_reducible exact ih3 _ _ _ _ _ _)
   | (with_reducible exact spec_l02Index.mono _ _ _ _)
   | (with_reducible exact LeO.refl _)
   | (with_reducible exact LeO.none _)
   | (with_reducible refine LeO.ite ?_ ?_)
   | (with_reducible refine LeO.bind ?_ (fun _ => ?_))
   | exact ih0 _ _ _
   | exact ih1 _ _ _
   | exact ih2 _ _ _ _
   | exact ih3 _ _ _ _ _ _
   | exact spec_l02Index.mono _ _ _ _
   | exact LeO.none _
   | refine LeO.ite ?_ ?_
   | refine LeO.bind ?_ (fun _ => ?_)
  ·intro y0 y1 y2 y3 y4 y5
   unfold spec_l02Parts.l3
   repeat' first
   | (with_reducible exact ih0 _ _ _)
   | (with_reducible exact ih1 _ _ _)
   | (with_reducible exact ih2 _ _ _ _)
   | (with_reducible exact ih3 _ _ _ _ _ _)
   | (with_reducible exact spec_l02Index.mono _ _ _ _)
   | (with_reducible exact LeO.refl _)
   | (with_reducible exact LeO.none _)
   | (with_reducible refine LeO.ite ?_ ?_)
   | (with_reducible refine LeO.bind ?_ (fun _ => ?_))
   | exact ih0 _ _ _
   | exact ih1 _ _ _
   | exact ih2 _ _ _ _
   | exact ih3 _ _ _ _ _ _
   | exact spec_l02Index.mono _ _ _ _
   | exact LeO.none _
   | refine LeO.ite ?_ ?_
   | refine LeO.bind ?_ (fun _ => ?_)
theorem spec_l02Parts.mono : ∀ a0 k, LeO (spec_l02Parts.f k a0) (spec_l02Parts.f (k + 1) a0) := by
 intro a0 k
 obtain ⟨ih0, ih1, ih2, ih3⟩ := spec_l02Parts.mono_l k
 unfold spec_l02Parts.f
 repeat' first
   | (with_reducible exact ih0 _ _ _)
   | (with_reducible exact ih1 _ _ _)
   | (with_reducible exact ih2 _ _ _ _)
   | (with_reducible exact ih3 _ _ _ _ _ _)
   | (with_reducible exact spec_l02Index.mono _ _ _ _)
   | (with_reducible exact LeO.refl _)
   | (with_reducible exact LeO.none _)
   | (with_reducible refine LeO.ite ?_ ?_)
   | (with_reducible refine LeO.bind ?_ (fun _ => ?_))
   | exact ih0 _ _ _
   | exact ih1 _ _ _
   | exact ih2 _ _ _ _
   | exact ih3 _ _ _ _ _ _
   | exact spec_l02Index.mono _ _ _ _
   | exact LeO.none _
   | refine LeO.ite ?_ ?_
   | refine LeO.bind ?_ (fun _ => ?_)
set_option maxHeartbeats 8000000 in
set_option maxRecDepth 100000 in
theorem spec_l02Parts.calls (k : Nat) (A0 : Option Addr) (c0 : Nat) (l0 : List (S42)) (r : List Int) (w : World) (hr0 : Kd.C k42 w A0 l0.length l0) (hc0 : l0.length ≤ c0) (h : spec_l02Parts.f k l0 = some r) :
  Calls Try.prog 70 #[.slice A0 l0.length c0] w fun e w' => ∃ v0_ : Value, e = .returned (v0_) ∧ Kd.R (Kd.int .i64) 2 w' w.heap.size (fun _ => True) v0_ r ∧ Below w.heap.size w w' := by
 have hu42 := Try.underlying42
 have HR0 := Aside0.mk hr0
 have HC0 := Aside0.mk hc0
 clear hr0 hc0
 have HB := Aside0.mk (Below.refl w.heap.size w)
 have H : (spec_l02Parts.l0 k l0 (([] : List Int)) 0) = some r := h
 clear h
 obtain ⟨y707, hy707⟩ : ∃ y_ : List Int, y_ = (([] : List Int)) := ⟨_, rfl⟩
 replace H : (spec_l02Parts.l0 k l0 y707 0) = some r := by first | (rw [hy707]; with_reducible exact H) | (have H2_ := (Option.bind_some _ _).symm.trans H; rw [hy707]; with_reducible exact H2_) | (have H2_ := (Option.bind_some _ _).symm.trans H; with_reducible exact H2_) | with_reducible exact H | (rw [hy707]; exact H) | exact H
 have Ny707 := Aside0.mk hy707
 clear hy707
 have H' := Aside0.mk H
 clear H
 go_enter Try.func70, Try.ntmps70
 go_wp2_with (first | ((with_reducible refine gate_dst (N := 10) rfl ?_); refine Kd.R_lit (Kd.int .i64) _ 2 ?hg (N := 10) ?hd (xs := ([] : List Int)) (inner := []) (ok := fun _ => True) (okp := fun _ => True) ?hr ?hp (fun _ hk => hk) trivial (Below.refl _ _) (Nat.le_refl _) (by simp) ?_; (case hd => rfl); (case hg => rfl); (case hr => first | (go_simp; done) | (go_simp; rfl)); (case hp => exact (Reps.none _ _)); intro v708 w2 ho3 hb hg_ hnew_; clear hg_ hnew_; (first | rw [← Ny707.out] at ho3 | (simp only [Int.reduceToNat] at ho3; rw [← Ny707.out] at ho3)); have n0_ := Aside0.mk (Kd.R_lower ho3 (below_size (by repeat (with_reducible first | exact HB.out | apply below_alloc | apply pw_below_drewN | apply below_drew1)))); have n1_ := Aside0.mk (below_step (by repeat (with_reducible first | exact HB.out | apply below_alloc | apply pw_below_drewN | apply below_drew1)) hb); clear HB; have HO709 := n0_; have HB := n1_; clear n0_ n1_; clear hb ho3))
 go_loopg [3, 4] k (fun kq v3 v4 w' => ∃ (x3_1 : List Int) (x4_1 : Int), v4 = .int .i64 x4_1 ∧ Aside0 (spec_l02Parts.l0 kq l0 x3_1 x4_1 = some r) ∧ Aside0 (kq ≤ k) ∧ Aside0 (Kd.R (Kd.int .i64) 2 w' w.heap.size (fun _ => True) v3 x3_1) ∧ Aside0 (Below w.heap.size w w'))
 case atStart => exact ⟨(y707), (0), (by first | rfl | (simp; done) | (simp [*]; done)), H', ⟨Nat.le_refl _⟩, ⟨by (with_reducible repeat (first | apply Kd.R_alloc | apply Kd.R_drewN | apply Kd.R_drew)); exact HO709.out⟩, ⟨by repeat (with_reducible first | exact HB.out | apply below_alloc | apply pw_below_drewN | apply below_drew1)⟩⟩
 case round =>
  clear H'
  try clear p2
  obtain ⟨x3_1, x4_1, rfl, HA, HK1, HO_3, HB⟩ := hrel
  cases gk with
  | zero => exact absurd HA.out (by simp [spec_l02Parts.l0])
  | succ k1 =>
   have H := HA.out
   clear HA
   simp only [spec_l02Parts.l0] at H
   by_cases c4 : x4_1 < (l0.length : Int)
   ·rw [if_pos c4] at H
    have c4b0 : decide (x4_1 < (l0.length : Int)) = true := decide_eq_true c4
    clear c4
    by_cases c5 : x3_1.length < 17592186044416
    ·rw [if_pos c5] at H
     have LMc5 := Aside0.mk c5
     clear c5
     obtain ⟨y710, hy710⟩ : ∃ y_ : List Int, y_ = (x3_1 ++ [(-1)]) := ⟨_, rfl⟩
     replace H : (spec_l02Parts.l0 k1 l0 y710 (wrap64 (x4_1 + 1))) = some r := by first | (rw [hy710]; with_reducible exact H) | (have H2_ := (Option.bind_some _ _).symm.trans H; rw [hy710]; with_reducible exact H2_) | (have H2_ := (Option.bind_some _ _).symm.trans H; with_reducible exact H2_) | with_reducible exact H | (rw [hy710]; exact H) | exact H
     have Ny710 := Aside0.mk hy710
     clear hy710
     have H' := Aside0.mk H
     clear H
     go_wp2_with (first | ((with_reducible refine gate_builtin (b := .append) (xs := #[.tmp 17, .tmp 18]) rfl ?_); at_builtin; refine Kd.R_append (Kd.int .i64) (w0 := w) w.heap.size rfl (.tmp 17) (.tmp 18) 24 2 (.int .i64 0) 8 rfl Try.underlying24 info2 rfl (by decide) (by omega) u3 x3_1 (-1) [.int .i64 (-1)] (fun _ => True) (fun _ => False) rfl rfl ?aP (fun _ hk => hk.elim) ?aF ?aO ?aB ?aS ?aL ?_; (case aP => exact rfl); (case aB => exact (by repeat (with_reducible first | exact HB.out | apply below_alloc | apply pw_below_drewN | apply below_drew1))); (case aF => exact (fun _ _ => trivial)); (case aO => exact (by (with_reducible repeat (first | apply Kd.R_alloc | apply Kd.R_drewN | apply Kd.R_drew)); exact HO_3.out)); (case aS => exact (below_size (by repeat (with_reducible first | exact HB.out | apply below_alloc | apply pw_below_drewN | apply below_drew1)))); (case aL => have := LMc5.out; omega); intro v711 w6 ho hb hg hat; rw [← Ny710.out] at ho; have n0_ := Aside0.mk (hb); have n1_ := Aside0.mk (ho); clear HB; clear HO_3; have HB := n0_; have HO712 := n1_; clear n0_ n1_; clear ho hb hg hat))
     go_roundg k1
     case measure => have := HK1.out; omega
     case rel => exact ⟨(y710), (wrap64 (x4_1 + 1)), (by first | rfl | (simp; done) | (simp [*]; done)), H', ⟨by have := HK1.out; omega⟩, ⟨by (with_reducible repeat (first | apply Kd.R_alloc | apply Kd.R_drewN | apply Kd.R_drew)); exact HO712.out⟩, ⟨by repeat (with_reducible first | exact HB.out | apply below_alloc | apply pw_below_drewN | apply below_drew1)⟩⟩
    ·rw [if_neg c5] at H
     exact absurd H (by simp)
   ·rw [if_neg c4] at H
    have c4b0 : decide (x4_1 < (l0.length : Int)) = false := decide_eq_false c4
    clear c4
    have H' := Aside0.mk H
    clear H
    go_wp2
    go_loopg [5] k1 (fun kq v5 w' => ∃ (x3_2 : List Int) (x5_2 : Int), v5 = .int .i64 x5_2 ∧ Aside0 (spec_l02Parts.l1 kq l0 x3_2 x5_2 = some r) ∧ Aside0 (kq ≤ k1) ∧ Aside0 (Kd.R (Kd.int .i64) 2 w' w.heap.size (fun _ => True) u3 x3_2) ∧ Aside0 (Below w.heap.size w w'))
    case atStart => exact ⟨(x3_1), (0), (by first | rfl | (simp; done) | (simp [*]; done)), H', ⟨Nat.le_refl _⟩, ⟨by (with_reducible repeat (first | apply Kd.R_alloc | apply Kd.R_drewN | apply Kd.R_drew)); exact HO_3.out⟩, ⟨by repeat (with_reducible first | exact HB.out | apply below_alloc | apply pw_below_drewN | apply below_drew1)⟩⟩
    case round =>
     clear H'
     try clear p2
     try clear c4
     try clear c4b0
     try clear c5
     try clear p6
     try clear p2
     obtain ⟨x3_2, x5_2, rfl, HA, HK2, HO_3, HB⟩ := hrel
     cases gk with
     | zero => exact absurd HA.out (by simp [spec_l02Parts.l1])
     | succ k2 =>
      have H := HA.out
      clear HA
      simp only [spec_l02Parts.l1] at H
      by_cases c7 : x5_2 < (l0.length : Int)
      ·rw [if_pos c7] at H
       have c7b0 : decide (x5_2 < (l0.length : Int)) = true := decide_eq_true c7
       clear c7
       by_cases c8 : 0 ≤ x5_2
       ·rw [if_pos c8] at H
        have c8b0 : decide (0 ≤ x5_2) = true := decide_eq_true c8
        clear c8
        by_cases c9 : x5_2 < (x3_2.length : Int)
        ·rw [if_pos c9] at H
         have c9b0 : decide (x5_2 < (x3_2.length : Int)) = true := decide_eq_true c9
         clear c9
         by_cases c10 : (rd x3_2 x5_2) ≥ 0
         ·rw [if_pos c10] at H
          have c10b0 : decide (0 ≤ (rd x3_2 x5_2)) = true := decide_eq_true c10
          clear c10
          have H' := Aside0.mk H
          clear H
          obtain ⟨Ao11, co11, eo11⟩ := Kd.R_slice HO_3.out
          subst eo11
          have p713 : 0 ≤ (x5_2 : Int) := of_decide_eq_true (by first | (with_reducible assumption) | assumption)
          have q713 : x5_2 < (x3_2.length : Int) := of_decide_eq_true (by first | (with_reducible assumption) | assumption)
          obtain ⟨ad713, e713, hx713_0⟩ := Kd.at_int (Kd.R_reads' HO_3.out).2.2 x5_2 p713 q713
          cases e713
          replace p713 := eq_true p713
          replace q713 := eq_true q713
          go_wp2
          go_roundg k2
          case measure => have := HK1.out; have := HK2.out; omega
          case rel => exact ⟨(x3_2), (wrap64 (x5_2 + 1)), (by first | rfl | (simp; done) | (simp [*]; done)), H', ⟨by have := HK1.out; have := HK2.out; omega⟩, ⟨by (with_reducible repeat (first | apply Kd.R_alloc | apply Kd.R_drewN | apply Kd.R_drew)); exact HO_3.out⟩, ⟨by repeat (with_reducible first | exact HB.out | apply below_alloc | apply pw_below_drewN | apply below_drew1)⟩⟩
         ·rw [if_neg c10] at H
          have c10b0 : decide (0 ≤ (rd x3_2 x5_2)) = false := decide_eq_false c10
          clear c10
          obtain ⟨y714, hy714⟩ : ∃ y_ : List Int, y_ = (x3_2.set (x5_2 : Int).toNat x5_2) := ⟨_, rfl⟩
          replace H : (spec_l02Parts.l2 k2 l0 y714 x5_2 (([x5_2] : List Int))) = some r := by first | (rw [hy714]; with_reducible exact H) | (have H2_ := (Option.bind_some _ _).symm.trans H; rw [hy714]; with_reducible exact H2_) | (have H2_ := (Option.bind_some _ _).symm.trans H; with_reducible exact H2_) | with_reducible exact H | (rw [hy714]; exact H) | exact H
          have Ny714 := Aside0.mk hy714
          clear hy714
          obtain ⟨y715, hy715⟩ : ∃ y_ : List Int, y_ = (([x5_2] : List Int)) := ⟨_, rfl⟩
          replace H : (spec_l02Parts.l2 k2 l0 y714 x5_2 y715) = some r := by first | (rw [hy715]; with_reducible exact H) | (have H2_ := (Option.bind_some _ _).symm.trans H; rw [hy715]; with_reducible exact H2_) | (have H2_ := (Option.bind_some _ _).symm.trans H; with_reducible exact H2_) | with_reducible exact H | (rw [hy715]; exact H) | exact H
          have Ny715 := Aside0.mk hy715
          clear hy715
          have H' := Aside0.mk H
          clear H
          obtain ⟨Ao13, co13, eo13⟩ := Kd.R_slice HO_3.out
          subst eo13
          have p713 : 0 ≤ (x5_2 : Int) := of_decide_eq_true (by first | (with_reducible assumption) | assumption)
          have q713 : x5_2 < (x3_2.length : Int) := of_decide_eq_true (by first | (with_reducible assumption) | assumption)
          obtain ⟨ad713, e713, hx713_0⟩ := Kd.at_int (Kd.R_reads' HO_3.out).2.2 x5_2 p713 q713
          cases e713
          replace p713 := eq_true p713
          replace q713 := eq_true q713
          have p12 : 0 ≤ (x5_2 : Int) := of_decide_eq_true (by first | (with_reducible assumption) | assumption)
          have q12 : (x5_2 : Int) < ((x3_2.length : Int) : Int) := of_decide_eq_true (by first | (with_reducible assumption) | assumption)
          obtain ⟨go12, co12, eo12, gb12, gl12, cl12, HG12⟩ := Kd.R_form HO_3.out (by omega)
          (first | cases eo12 | (injection eo12 with ea_ en_ ec_; (first | subst ea_ | (injection ea_ with ea_; subst ea_)); subst ec_; clear en_))
          have GB12 := Aside0.mk gb12
          have GG12 := Aside0.mk HG12
          clear gb12 gl12 HG12
          (first | simp only [add_plain] at hx713_0 | skip)
          obtain ⟨hx12_0, hf12_0⟩ := Kd.R_celln 0 HO_3.out (x5_2 : Int) p12 q12
          replace p12 := eq_true p12
          replace q12 := eq_true q12
          have HP14 := Kd.R_putg HO_3.out (x5_2 : Int) x5_2
          go_wp2_with (first | ((with_reducible refine gate_store (t := 2) (p := 34) rfl ?_); refine store_event (t := 2) (p := 34) (v := ?vo_w15) (w1 := (wr.setCell ⟨go12, (x5_2 : Int).toNat, none⟩ (.int .i64 x5_2))) ?hg ?ho ?hn ?hr ?_; (case ho => rfl); (case hg => rfl); (case hn => rfl); (case hr => first | (go_simp; done) | (go_simp; rfl)); intro w15 hw; have hg : wr.grownBy w15 (some go12) := (by rw [hw]; exact HP14.2); have hp_ : Kd.R (Kd.int .i64) 2 w15 w.heap.size (fun _ => True) (.slice (some ⟨go12, 0, none⟩) x3_2.length co13) y714 := (by rw [hw, Ny714.out]; exact HP14.1); clear HP14; have n0_ := Aside0.mk (hp_); have n1_ := Aside0.mk ((by rw [hw]; exact below_set (HB.out) GB12.out : Below w.heap.size w w15)); clear HO_3; clear HB; have HO_3 := n0_; have HB := n1_; clear n0_ n1_; clear hg hw hp_) | ((with_reducible refine gate_dst (N := 36) rfl ?_); refine Kd.R_lit (Kd.int .i64) _ 2 ?hg (N := 36) ?hd (xs := ([x5_2] : List Int)) (inner := [.int .i64 x5_2]) (ok := fun _ => True) (okp := fun _ => True) ?hr ?hp (fun _ hk => hk) trivial (Below.refl _ _) (Nat.le_refl _) (by simp) ?_; (case hd => rfl); (case hg => rfl); (case hr => first | (go_simp; done) | (go_simp; rfl)); (case hp => exact (Reps.one (show Kd.M (Kd.int .i64) _ _ _ x5_2 [.int .i64 x5_2] from rfl) (Reps.none _ _))); intro v716 w16 ho17 hb hg_ hnew_; clear hg_ hnew_; (first | rw [← Ny715.out] at ho17 | (simp only [Int.reduceToNat] at ho17; rw [← Ny715.out] at ho17)); have n0_ := Aside0.mk (Kd.R_elder' (by (with_reducible repeat (first | apply Kd.R_alloc | apply Kd.R_drewN | apply Kd.R_drew)); exact HO_3.out) (Kd.R_base ho17) hb); have n1_ := Aside0.mk (Kd.R_lower (Kd.R_new' ho17 (Kd.R_lt (by (with_reducible repeat (first | apply Kd.R_alloc | apply Kd.R_drewN | apply Kd.R_drew)); exact HO_3.out))) (below_size (by repeat (with_reducible first | exact HB.out | apply below_alloc | apply pw_below_drewN | apply below_drew1)))); have n2_ := Aside0.mk (below_step (by repeat (with_reducible first | exact HB.out | apply below_alloc | apply pw_below_drewN | apply below_drew1)) hb); clear HO_3; clear HB; have HO_3 := n0_; have HO717 := n1_; have HB := n2_; clear n0_ n1_ n2_; clear hb ho17))
          go_loopg [6] k2 (fun kq v6 w' => ∃ (x3_3 : List Int) (x6_3 : List Int), Aside0 (spec_l02Parts.l2 kq l0 x3_3 x5_2 x6_3 = some r) ∧ Aside0 (kq ≤ k2) ∧ Aside0 (Kd.R (Kd.int .i64) 2 w' w.heap.size (fun k_ => some k_ ≠ (v6 : Value).ownBlock) (.slice (some ⟨go12, 0, none⟩) x3_2.length co13) x3_3) ∧ Aside0 (Kd.Q (Kd.int .i64) 2 w' w.heap.size (fun k_ => some k_ ≠ ((.slice (some ⟨go12, 0, none⟩) x3_2.length co13) : Value).ownBlock) v6 x6_3) ∧ Aside0 (Below w.heap.size w w'))
          case atStart => exact ⟨(y714), (y715), H', ⟨Nat.le_refl _⟩, ⟨by (with_reducible repeat (first | apply Kd.R_alloc | apply Kd.R_drewN | apply Kd.R_drew)); exact Kd.R_mono HO_3.out (fun _ hk => hk.2)⟩, ⟨Kd.Q_of_R (by (with_reducible repeat (first | apply Kd.R_alloc | apply Kd.R_drewN | apply Kd.R_drew)); exact Kd.R_mono HO717.out (fun _ hk => hk.2))⟩, ⟨by repeat (with_reducible first | exact HB.out | apply below_alloc | apply pw_below_drewN | apply below_drew1)⟩⟩
          case round =>
           clear H'
           try clear c1
           try clear p1
           try clear q1
           try clear hx1
           try clear hf1
           try clear p2
           try clear c4
           try clear c4b0
           try clear c5
           try clear p6
           try clear c7
           try clear c7b0
           try clear p7
           try clear q7
           try clear hx7
           try clear c8
           try clear c8b0
           try clear c9
           try clear c9b0
           try clear c10
           try clear c10b0
           try clear p12
           try clear q12
           try clear hx12
           try clear hf12
           try clear hx12_0
           try clear hx713_0
           try clear p12
           try clear p2
           try clear p6
           try clear p713
           try clear q12
           try clear q713
           obtain ⟨x3_3, x6_3, HA, HK3, HO_3, HO_6, HB⟩ := hrel
           have hl3_3 := (Kd.R_reads' HO_3.out).1
           rw [hl3_3] at HO_3
           (try simp only [hl3_3])
           (try simp only [hl3_3] at HO_6)
           cases gk with
           | zero => exact absurd HA.out (by simp [spec_l02Parts.l2])
           | succ k3 =>
            have H := HA.out
            clear HA
            simp only [spec_l02Parts.l2] at H
            by_cases c18 : (x6_3.length : Int) > 0
            ·rw [if_pos c18] at H
             have c18b0 : decide (0 < (x6_3.length : Int)) = true := decide_eq_true c18
             have c18b1 : decide (0 < x6_3.length) = true := decide_eq_true (by omega)
             clear c18
             by_cases c19 : 0 < (x6_3.length : Int)
             ·rw [if_pos c19] at H
              have c19b0 : decide (0 < (x6_3.length : Int)) = true := decide_eq_true c19
              have c19b1 : decide (0 < x6_3.length) = true := decide_eq_true (by omega)
              clear c19
              by_cases c20 : 0 ≤ (rd x6_3 0)
              ·rw [if_pos c20] at H
               have c20b0 : decide (0 ≤ (rd x6_3 0)) = true := decide_eq_true c20
               clear c20
               by_cases c21 : (rd x6_3 0) < (l0.length : Int)
               ·rw [if_pos c21] at H
                have c21b0 : decide ((rd x6_3 0) < (l0.length : Int)) = true := decide_eq_true c21
                clear c21
                replace H := Option.bind_eq_some_iff.mp H
                obtain ⟨t720, A220, H⟩ := H
                replace H : (if 1 ≤ (x6_3.length : Int) then (spec_l02Parts.l3 k3 l0 x3_3 x5_2 (x6_3.drop (1 : Int).toNat) t720 0) else (none)) = some r := H
                have A22 := Aside0.mk A220
                clear A220
                by_cases c23 : 1 ≤ (x6_3.length : Int)
                ·rw [if_pos c23] at H
                 have c23b0 := eq_true c23
                 have c23b1 : decide (1 ≤ (x6_3.length : Int)) = true := decide_eq_true c23
                 clear c23
                 obtain ⟨y723, hy723⟩ : ∃ y_ : List Int, y_ = (x6_3.drop (1 : Int).toNat) := ⟨_, rfl⟩
                 replace H : (spec_l02Parts.l3 k3 l0 x3_3 x5_2 y723 t720 0) = some r := by first | (rw [hy723]; with_reducible exact H) | (have H2_ := (Option.bind_some _ _).symm.trans H; rw [hy723]; with_reducible exact H2_) | (have H2_ := (Option.bind_some _ _).symm.trans H; with_reducible exact H2_) | with_reducible exact H | (rw [hy723]; exact H) | exact H
                 have Ny723 := Aside0.mk hy723
                 clear hy723
                 have H' := Aside0.mk H
                 clear H
                 obtain ⟨Ao24, co24, eo24, _⟩ := Kd.Q_slice HO_6.out
                 subst eo24
                 have p718 : 0 ≤ (0 : Int) := (by omega)
                 have q718 : 0 < (x6_3.length : Int) := of_decide_eq_true (by first | (with_reducible assumption) | assumption)
                 obtain ⟨ad718, e718, hx718_0⟩ := Kd.at_int (Kd.Q_reads' HO_6.out).2.2 0 p718 q718
                 cases e718
                 have qi718 : (0 < x6_3.length) = True := eq_true (by omega)
                 (try rw [show ((0 : Int)).toNat = 0 from rfl] at hx718_0)
                 (try rw [Addr.add_zero'] at hx718_0)
                 replace p718 := eq_true p718
                 replace q718 := eq_true q718
                 have p719 : 0 ≤ ((rd x6_3 0) : Int) := of_decide_eq_true (by first | (with_reducible assumption) | assumption)
                 have q719 : (rd x6_3 0) < (l0.length : Int) := of_decide_eq_true (by first | (with_reducible assumption) | assumption)
                 obtain ⟨ad719, e719, hx719_0, hx719_1⟩ := at_T42 HR0.out (rd x6_3 0) p719 q719
                 cases e719
                 replace hx719_0 := (HB.out.cell (World.block_lt_of_cell? w _ hx719_0)).trans hx719_0
                 replace hx719_1 := (HB.out.cell (World.block_lt_of_cell? w _ hx719_1)).trans hx719_1
                 replace p719 := eq_true p719
                 replace q719 := eq_true q719
                 go_wp2_with (first | ((with_reducible refine gate_callee (f := 105) rfl ?_); refine goesL_ (some 46) rfl rfl Try.func105 (by kernel_rfl) rfl #[.agg #[.int .i64 ((rd_T42 l0 (rd x6_3 0)).f0), .int .i64 ((rd_T42 l0 (rd x6_3 0)).f1)]] rfl (by (try simp only [List.map_toArray, List.map_cons, List.map_nil]); first | done | rfl) ?_; (with_reducible refine (spec_l02Around.calls ((rd_T42 l0 (rd x6_3 0)).f0) ((rd_T42 l0 (rd x6_3 0)).f1) t720 _ A22.out).mono ?_); rintro e w25 ⟨v721, rfl, ho0, hb⟩; refine ⟨_, rfl, ?_⟩; have n0_ := Aside0.mk (Kd.R_below (by (with_reducible repeat (first | apply Kd.R_alloc | apply Kd.R_drewN | apply Kd.R_drew)); exact HO_3.out) hb); have n1_ := Aside0.mk (Kd.Q_below (by (with_reducible repeat (first | apply Kd.Q_alloc | apply Kd.Q_drewN | apply Kd.Q_drew)); exact HO_6.out) hb); have n2_ := Aside0.mk (Kd.R_lower ho0 (below_size (by repeat (with_reducible first | exact HB.out | apply below_alloc | apply pw_below_drewN | apply below_drew1)))); have n3_ := Aside0.mk (below_step (by repeat (with_reducible first | exact HB.out | apply below_alloc | apply pw_below_drewN | apply below_drew1)) hb); clear HO_3; clear HO_6; clear HB; have HO_3 := n0_; have HO_6 := n1_; have HO722 := n2_; have HB := n3_; clear n0_ n1_ n2_ n3_; (try clear hb); (try clear ho0); have q26 : (1 : Int) ≤ ((x6_3.length : Int) : Int) := of_decide_eq_true (by first | (with_reducible assumption) | assumption); obtain ⟨i026, hi026, _, hsz26, _⟩ := info_parts info2; have hcut26 := cut_from (P := Try.prog) 24 2 .i64 Try.underlying24 hi026 1 hsz26 (some ad718) x6_3.length co24 1 (by omega) q26; have hr26 := Kd.Q_drop (k := (1 : Int).toNat) HO_6.out (by omega); obtain ⟨A26, hA26⟩ : ∃ A1, A1 = (if co24 = (1 : Int).toNat then (some ad718) else ((some ad718) : Option Addr).map (·.add ((1 : Int).toNat * 1))) := ⟨_, rfl⟩; obtain ⟨c26, hc26⟩ : ∃ c1, c1 = co24 - (1 : Int).toNat := ⟨_, rfl⟩; have hy26 : y723.length = x6_3.length - (1 : Int).toNat := (by rw [Ny723.out, List.length_drop]); rw [← Ny723.out] at hr26; rw [← hy26, ← hA26, ← hc26] at hcut26; replace hr26 : Kd.Q (Kd.int .i64) 2 w25 w.heap.size (fun k_ => some k_ ≠ (.slice (some ⟨go12, 0, none⟩) x3_3.length co13 : Value).ownBlock) (.slice A26 y723.length c26) y723 := (by rw [hA26, hc26, hy26]; exact hr26); have HE26 : Aside0 ((Value.slice A26 y723.length c26).ownBlock = (.slice (some ad718) x6_3.length co24 : Value).ownBlock) := ⟨by rw [hA26]; split <;> (cases ((some ad718) : Option Addr) <;> rfl)⟩; clear hy26 hi026 hsz26 HO_6 hA26 hc26; have HO725 := Aside0.mk hr26; clear hr26; replace q26 := eq_true q26; have n_ := Aside0.mk (Kd.R_mono (ok' := fun k_ => some k_ ≠ (.slice A26 y723.length c26 : Value).ownBlock) HO_3.out (fun k_ hk => (by rw [HE26.out]; exact hk))); clear HO_3; have HO_3 := n_; clear n_))
                 go_loopg [6, 8] k3 (fun kq v6 v8 w' => ∃ (x3_4 : List Int) (x6_4 : List Int) (x8_4 : Int), v8 = .int .i64 x8_4 ∧ Aside0 (spec_l02Parts.l3 kq l0 x3_4 x5_2 x6_4 t720 x8_4 = some r) ∧ Aside0 (kq ≤ k3) ∧ Aside0 (Kd.R (Kd.int .i64) 2 w' w.heap.size (fun k_ => some k_ ≠ (v6 : Value).ownBlock) (.slice (some ⟨go12, 0, none⟩) x3_3.length co13) x3_4) ∧ Aside0 (Kd.Q (Kd.int .i64) 2 w' w.heap.size (fun k_ => some k_ ≠ ((.slice (some ⟨go12, 0, none⟩) x3_3.length co13) : Value).ownBlock) v6 x6_4) ∧ Aside0 (Kd.R k42 42 w' w.heap.size (fun _ => True) v721 t720) ∧ Aside0 (Below w.heap.size w w'))
                 case atStart => exact ⟨(x3_3), (y723), (0), (by first | rfl | (simp; done) | (simp [*]; done)), H', ⟨Nat.le_refl _⟩, ⟨by (try simp only [hl3_3]); (with_reducible repeat (first | apply Kd.R_alloc | apply Kd.R_drewN | apply Kd.R_drew)); exact HO_3.out⟩, ⟨by (try simp only [hl3_3]); (with_reducible repeat (first | apply Kd.Q_alloc | apply Kd.Q_drewN | apply Kd.Q_drew)); exact HO725.out⟩, ⟨by (try simp only [hl3_3]); (with_reducible repeat (first | apply Kd.R_alloc | apply Kd.R_drewN | apply Kd.R_drew)); exact HO722.out⟩, ⟨by repeat (with_reducible first | exact HB.out | apply below_alloc | apply pw_below_drewN | apply below_drew1)⟩⟩
                 case round =>
                  clear H'
                  try clear c1
                  try clear p1
                  try clear q1
                  try clear hx1
                  try clear hf1
                  try clear c2
                  try clear p2
                  try clear q2
                  try clear c4
                  try clear c4b0
                  try clear c5
                  try clear p6
                  try clear c7
                  try clear c7b0
                  try clear p7
                  try clear q7
                  try clear hx7
                  try clear qi7
                  try clear c8
                  try clear c8b0
                  try clear c9
                  try clear c9b0
                  try clear c10
                  try clear c10b0
                  try clear p12
                  try clear q12
                  try clear hx12
                  try clear hf12
                  try clear c18
                  try clear c18b0
                  try clear c18b1
                  try clear c19
                  try clear c19b0
                  try clear c19b1
                  try clear c20
                  try clear c20b0
                  try clear c21
                  try clear c21b0
                  try clear c23
                  try clear c23b0
                  try clear c23b1
                  try clear c26
                  try clear q26
                  try clear hx12_0
                  try clear hx713_0
                  try clear hx718_0
                  try clear hx719_0
                  try clear hx719_1
                  try clear p1
                  try clear p12
                  try clear p2
                  try clear p6
                  try clear p7
                  try clear p713
                  try clear p718
                  try clear p719
                  try clear q1
                  try clear q12
                  try clear q26
                  try clear q7
                  try clear q713
                  try clear q718
                  try clear q719
                  obtain ⟨x3_4, x6_4, x8_4, rfl, HA, HK4, HO_3, HO_6, HO_7, HB⟩ := hrel
                  have hl3_4 := (Kd.R_reads' HO_3.out).1
                  rw [hl3_4] at HO_3
                  (try simp only [hl3_4])
                  (try simp only [hl3_4] at HO_6)
                  (try simp only [hl3_4] at HO_7)
                  cases gk with
                  | zero => exact absurd HA.out (by simp [spec_l02Parts.l3])
                  | succ k4 =>
                   have H := HA.out
                   clear HA
                   simp only [spec_l02Parts.l3] at H
                   by_cases c27 : x8_4 < 4
                   ·rw [if_pos c27] at H
                    have c27b0 : decide (x8_4 < 4) = true := decide_eq_true c27
                    clear c27
                    by_cases c28 : 0 ≤ x8_4
                    ·rw [if_pos c28] at H
                     have c28b0 : decide (0 ≤ x8_4) = true := decide_eq_true c28
                     clear c28
                     by_cases c29 : x8_4 < (t720.length : Int)
                     ·rw [if_pos c29] at H
                      have c29b0 : decide (x8_4 < (t720.length : Int)) = true := decide_eq_true c29
                      clear c29
                      replace H := Option.bind_eq_some_iff.mp H
                      obtain ⟨t727, A300, H⟩ := H
                      replace H : (if t727 ≥ 0 then (if 0 ≤ t727 then (if t727 < (x3_4.length : Int) then (if (rd x3_4 t727) < 0 then (if x6_4.length < 17592186044416 then (spec_l02Parts.l3 k4 l0 (x3_4.set (t727 : Int).toNat x5_2) x5_2 (x6_4 ++ [t727]) t720 (wrap64 (x8_4 + 1))) else (none)) else (spec_l02Parts.l3 k4 l0 x3_4 x5_2 x6_4 t720 (wrap64 (x8_4 + 1)))) else (none)) else (none)) else (spec_l02Parts.l3 k4 l0 x3_4 x5_2 x6_4 t720 (wrap64 (x8_4 + 1)))) = some r := H
                      have A30 := Aside0.mk A300
                      clear A300
                      by_cases c31 : t727 ≥ 0
                      ·rw [if_pos c31] at H
                       have c31b0 : decide (0 ≤ t727) = true := decide_eq_true c31
                       clear c31
                       by_cases c32 : 0 ≤ t727
                       ·rw [if_pos c32] at H
                        have c32b0 : decide (0 ≤ t727) = true := decide_eq_true c32
                        clear c32
                        by_cases c33 : t727 < (x3_4.length : Int)
                        ·rw [if_pos c33] at H
                         have c33b0 : decide (t727 < (x3_4.length : Int)) = true := decide_eq_true c33
                         clear c33
                         by_cases c34 : (rd x3_4 t727) < 0
                         ·rw [if_pos c34] at H
                          have c34b0 : decide ((rd x3_4 t727) < 0) = true := decide_eq_true c34
                          clear c34
                          obtain ⟨y729, hy729⟩ : ∃ y_ : List Int, y_ = (x3_4.set (t727 : Int).toNat x5_2) := ⟨_, rfl⟩
                          replace H : (if x6_4.length < 17592186044416 then (spec_l02Parts.l3 k4 l0 y729 x5_2 (x6_4 ++ [t727]) t720 (wrap64 (x8_4 + 1))) else (none)) = some r := by first | (rw [hy729]; with_reducible exact H) | (have H2_ := (Option.bind_some _ _).symm.trans H; rw [hy729]; with_reducible exact H2_) | (have H2_ := (Option.bind_some _ _).symm.trans H; with_reducible exact H2_) | with_reducible exact H | (rw [hy729]; exact H) | exact H
                          have Ny729 := Aside0.mk hy729
                          clear hy729
                          by_cases c36 : x6_4.length < 17592186044416
                          ·rw [if_pos c36] at H
                           have LMc36 := Aside0.mk c36
                           clear c36
                           obtain ⟨y730, hy730⟩ : ∃ y_ : List Int, y_ = (x6_4 ++ [t727]) := ⟨_, rfl⟩
                           replace H : (spec_l02Parts.l3 k4 l0 y729 x5_2 y730 t720 (wrap64 (x8_4 + 1))) = some r := by first | (rw [hy730]; with_reducible exact H) | (have H2_ := (Option.bind_some _ _).symm.trans H; rw [hy730]; with_reducible exact H2_) | (have H2_ := (Option.bind_some _ _).symm.trans H; with_reducible exact H2_) | with_reducible exact H | (rw [hy730]; exact H) | exact H
                           have Ny730 := Aside0.mk hy730
                           clear hy730
                           have H' := Aside0.mk H
                           clear H
                           obtain ⟨Ao37, co37, eo37⟩ := Kd.R_slice HO_7.out
                           subst eo37
                           have p726 : 0 ≤ (x8_4 : Int) := of_decide_eq_true (by first | (with_reducible assumption) | assumption)
                           have q726 : x8_4 < (t720.length : Int) := of_decide_eq_true (by first | (with_reducible assumption) | assumption)
                           obtain ⟨ad726, e726, hx726_0, hx726_1⟩ := at_T42 (Kd.R_reads' HO_7.out).2.2 x8_4 p726 q726
                           cases e726
                           replace p726 := eq_true p726
                           replace q726 := eq_true q726
                           go_wp2_with (first | ((with_reducible refine gate_callee (f := 106) rfl ?_); refine goesL_ (some 58) rfl rfl Try.func106 (by kernel_rfl) rfl #[.slice (some ad719) l0.length c0, .agg #[.int .i64 ((rd_T42 t720 x8_4).f0), .int .i64 ((rd_T42 t720 x8_4).f1)]] rfl (by (try simp only [List.map_toArray, List.map_cons, List.map_nil]); first | done | rfl) ?_; (with_reducible refine (spec_l02Index.calls k4 _ _ l0 ((rd_T42 t720 x8_4).f0) ((rd_T42 t720 x8_4).f1) t727 _ ?side1 ?side2 A30.out).mono ?_); (case side1 => repeat (first | exact (Kd.C_below HR0.out HB.out) | (with_reducible refine Kd.C_alloc ?_ _) | (with_reducible refine Kd.C_drewN ?_ _) | (with_reducible refine Kd.C_drew ?_))); (case side2 => exact HC0.out); rintro e w38 ⟨rfl, hb⟩; refine ⟨_, rfl, ?_⟩; have n0_ := Aside0.mk (Kd.R_below (by (with_reducible repeat (first | apply Kd.R_alloc | apply Kd.R_drewN | apply Kd.R_drew)); exact HO_3.out) hb); have n1_ := Aside0.mk (Kd.Q_below (by (with_reducible repeat (first | apply Kd.Q_alloc | apply Kd.Q_drewN | apply Kd.Q_drew)); exact HO_6.out) hb); have n2_ := Aside0.mk (Kd.R_below (by (with_reducible repeat (first | apply Kd.R_alloc | apply Kd.R_drewN | apply Kd.R_drew)); exact HO_7.out) hb); have n3_ := Aside0.mk (below_step (by repeat (with_reducible first | exact HB.out | apply below_alloc | apply pw_below_drewN | apply below_drew1)) hb); clear HO_3; clear HO_6; clear HO_7; clear HB; have HO_3 := n0_; have HO_6 := n1_; have HO_7 := n2_; have HB := n3_; clear n0_ n1_ n2_ n3_; (try clear hb); have p728 : 0 ≤ (t727 : Int) := of_decide_eq_true (by first | (with_reducible assumption) | assumption); have q728 : t727 < (x3_4.length : Int) := of_decide_eq_true (by first | (with_reducible assumption) | assumption); obtain ⟨ad728, e728, hx728_0⟩ := Kd.at_int (Kd.R_reads' HO_3.out).2.2 t727 p728 q728; obtain rfl : (⟨go12, 0, none⟩ : Addr) = ad728 := (by injection e728); (first | simp only [add_plain] at hx728_0 | simp only [add_at] at hx728_0 | simp only [Addr.add, Nat.zero_add] at hx728_0 | skip); replace p728 := eq_true p728; replace q728 := eq_true q728; have p35 : 0 ≤ (t727 : Int) := of_decide_eq_true (by first | (with_reducible assumption) | assumption); have q35 : (t727 : Int) < ((x3_4.length : Int) : Int) := of_decide_eq_true (by first | (with_reducible assumption) | assumption); obtain ⟨hx35_0, hf35_0⟩ := Kd.R_celln 0 HO_3.out (t727 : Int) p35 q35; replace p35 := eq_true p35; replace q35 := eq_true q35; obtain ⟨hy39_, hz39_⟩ := Kd.R_celln 0 HO_3.out (t727 : Int) (of_decide_eq_true (by first | (with_reducible assumption) | assumption)) (of_decide_eq_true (by first | (with_reducible assumption) | assumption)); have HP39 := Kd.R_putg HO_3.out (t727 : Int) x5_2) | ((with_reducible refine gate_store (t := 2) (p := 71) rfl ?_); refine store_event (t := 2) (p := 71) (v := ?vo_w40) (w1 := (w38.setCell ⟨go12, (t727 : Int).toNat, none⟩ (.int .i64 x5_2))) ?hg ?ho ?hn ?hr ?_; (case ho => rfl); (case hg => rfl); (case hn => rfl); (case hr => first | (go_simp; done) | (go_simp; rfl)); intro w40 hw; have hg : w38.grownBy w40 (some go12) := (by rw [hw]; exact HP39.2); have hp_ : Kd.R (Kd.int .i64) 2 w40 w.heap.size (fun k_ => some k_ ≠ (u6 : Value).ownBlock) (.slice (some ⟨go12, 0, none⟩) x3_4.length co13) y729 := (by rw [hw, Ny729.out]; exact HP39.1); clear HP39; have n0_ := Aside0.mk (hp_); have n1_ := Aside0.mk (Kd.Q_after (v := (.slice (some ⟨go12, 0, none⟩) x3_4.length co13)) (v1 := (.slice (some ⟨go12, 0, none⟩) x3_4.length co13)) (ok := (fun _ => True)) (by (with_reducible repeat (first | apply Kd.Q_alloc | apply Kd.Q_drewN | apply Kd.Q_drew)); exact Kd.Q_mono HO_6.out (fun _ hk => ⟨trivial, hk⟩)) hg (.inl rfl)); have n2_ := Aside0.mk (Kd.R_over' (v := (.slice (some ⟨go12, 0, none⟩) x3_4.length co13)) (by (with_reducible repeat (first | apply Kd.R_alloc | apply Kd.R_drewN | apply Kd.R_drew)); exact HO_7.out) (Kd.R_typed HO_3.out) (by decide) hg); have n3_ := Aside0.mk ((by rw [hw]; exact below_set (HB.out) GB12.out : Below w.heap.size w w40)); clear HO_3; clear HO_6; clear HO_7; clear HB; have HO_3 := n0_; have HO_6 := n1_; have HO_7 := n2_; have HB := n3_; clear n0_ n1_ n2_ n3_; clear hg hw hp_) | ((with_reducible refine gate_builtin (b := .append) (xs := #[.tmp 72, .tmp 74]) rfl ?_); at_builtin; refine Kd.Q_append (Kd.int .i64) (w0 := w) w.heap.size rfl (.tmp 72) (.tmp 74) 24 2 (.int .i64 0) 8 rfl Try.underlying24 info2 rfl (by decide) (by omega) u6 x6_4 t727 [.int .i64 t727] (fun k_ => some k_ ≠ (.slice (some ⟨go12, 0, none⟩) x3_4.length co13 : Value).ownBlock) (fun _ => False) rfl rfl ?aP (fun _ hk => hk.elim) ?aF ?aO ?aB ?aS ?aL ?_; (case aP => exact rfl); (case aB => exact (by repeat (with_reducible first | exact HB.out | apply below_alloc | apply pw_below_drewN | apply below_drew1))); (case aF => exact (fun k_ hk => Kd.fresh' (Kd.R_lt (by (with_reducible repeat (first | apply Kd.R_alloc | apply Kd.R_drewN | apply Kd.R_drew)); exact HO_3.out)) k_ hk)); (case aO => exact (by (with_reducible repeat (first | apply Kd.Q_alloc | apply Kd.Q_drewN | apply Kd.Q_drew)); exact Kd.Q_mono HO_6.out (fun _ hk => hk.2))); (case aS => exact (below_size (by repeat (with_reducible first | exact HB.out | apply below_alloc | apply pw_below_drewN | apply below_drew1)))); (case aL => have := LMc36.out; omega); intro v731 w41 ho hb hg hat; rw [← Ny730.out] at ho; have n0_ := Aside0.mk (Kd.R_after (ok := (fun _ => True)) (by (with_reducible repeat (first | apply Kd.R_alloc | apply Kd.R_drewN | apply Kd.R_drew)); exact Kd.R_mono HO_3.out (fun _ hk => ⟨trivial, hk⟩)) hg hat); have n1_ := Aside0.mk (Kd.R_over' (by (with_reducible repeat (first | apply Kd.R_alloc | apply Kd.R_drewN | apply Kd.R_drew)); exact HO_7.out) (Kd.Q_typed (by (with_reducible repeat (first | apply Kd.Q_alloc | apply Kd.Q_drewN | apply Kd.Q_drew)); exact HO_6.out)) (by decide) hg); have n2_ := Aside0.mk (hb); have n3_ := Aside0.mk (ho); clear HO_3; clear HO_7; clear HB; clear HO_6; have HO_3 := n0_; have HO_7 := n1_; have HB := n2_; have HO732 := n3_; clear n0_ n1_ n2_ n3_; clear ho hb hg hat))
                           (try simp only [← hl3_4])
                           go_roundg k4
                           case measure => have := HK1.out; have := HK2.out; have := HK3.out; have := HK4.out; omega
                           case rel => exact ⟨(y729), (y730), (wrap64 (x8_4 + 1)), (by first | rfl | (simp; done) | (simp [*]; done)), H', ⟨by have := HK1.out; have := HK2.out; have := HK3.out; have := HK4.out; omega⟩, ⟨by (try simp only [hl3_3]); (try simp only [hl3_4]); (with_reducible repeat (first | apply Kd.R_alloc | apply Kd.R_drewN | apply Kd.R_drew)); exact Kd.R_mono HO_3.out (fun _ hk => hk.2)⟩, ⟨by (try simp only [hl3_3]); (try simp only [hl3_4]); (with_reducible repeat (first | apply Kd.Q_alloc | apply Kd.Q_drewN | apply Kd.Q_drew)); exact HO732.out⟩, ⟨by (try simp only [hl3_3]); (try simp only [hl3_4]); (with_reducible repeat (first | apply Kd.R_alloc | apply Kd.R_drewN | apply Kd.R_drew)); exact HO_7.out⟩, ⟨by repeat (with_reducible first | exact HB.out | apply below_alloc | apply pw_below_drewN | apply below_drew1)⟩⟩
                          ·rw [if_neg c36] at H
                           exact absurd H (by simp)
                         ·rw [if_neg c34] at H
                          have c34b0 : decide ((rd x3_4 t727) < 0) = false := decide_eq_false c34
                          clear c34
                          have H' := Aside0.mk H
                          clear H
                          obtain ⟨Ao42, co42, eo42⟩ := Kd.R_slice HO_7.out
                          subst eo42
                          have p726 : 0 ≤ (x8_4 : Int) := of_decide_eq_true (by first | (with_reducible assumption) | assumption)
                          have q726 : x8_4 < (t720.length : Int) := of_decide_eq_true (by first | (with_reducible assumption) | assumption)
                          obtain ⟨ad726, e726, hx726_0, hx726_1⟩ := at_T42 (Kd.R_reads' HO_7.out).2.2 x8_4 p726 q726
                          cases e726
                          replace p726 := eq_true p726
                          replace q726 := eq_true q726
                          go_wp2_with (first | ((with_reducible refine gate_callee (f := 106) rfl ?_); refine goesL_ (some 58) rfl rfl Try.func106 (by kernel_rfl) rfl #[.slice (some ad719) l0.length c0, .agg #[.int .i64 ((rd_T42 t720 x8_4).f0), .int .i64 ((rd_T42 t720 x8_4).f1)]] rfl (by (try simp only [List.map_toArray, List.map_cons, List.map_nil]); first | done | rfl) ?_; (with_reducible refine (spec_l02Index.calls k4 _ _ l0 ((rd_T42 t720 x8_4).f0) ((rd_T42 t720 x8_4).f1) t727 _ ?side1 ?side2 A30.out).mono ?_); (case side1 => repeat (first | exact (Kd.C_below HR0.out HB.out) | (with_reducible refine Kd.C_alloc ?_ _) | (with_reducible refine Kd.C_drewN ?_ _) | (with_reducible refine Kd.C_drew ?_))); (case side2 => exact HC0.out); rintro e w43 ⟨rfl, hb⟩; refine ⟨_, rfl, ?_⟩; have n0_ := Aside0.mk (Kd.R_below (by (with_reducible repeat (first | apply Kd.R_alloc | apply Kd.R_drewN | apply Kd.R_drew)); exact HO_3.out) hb); have n1_ := Aside0.mk (Kd.Q_below (by (with_reducible repeat (first | apply Kd.Q_alloc | apply Kd.Q_drewN | apply Kd.Q_drew)); exact HO_6.out) hb); have n2_ := Aside0.mk (Kd.R_below (by (with_reducible repeat (first | apply Kd.R_alloc | apply Kd.R_drewN | apply Kd.R_drew)); exact HO_7.out) hb); have n3_ := Aside0.mk (below_step (by repeat (with_reducible first | exact HB.out | apply below_alloc | apply pw_below_drewN | apply below_drew1)) hb); clear HO_3; clear HO_6; clear HO_7; clear HB; have HO_3 := n0_; have HO_6 := n1_; have HO_7 := n2_; have HB := n3_; clear n0_ n1_ n2_ n3_; (try clear hb); have p728 : 0 ≤ (t727 : Int) := of_decide_eq_true (by first | (with_reducible assumption) | assumption); have q728 : t727 < (x3_4.length : Int) := of_decide_eq_true (by first | (with_reducible assumption) | assumption); obtain ⟨ad728, e728, hx728_0⟩ := Kd.at_int (Kd.R_reads' HO_3.out).2.2 t727 p728 q728; obtain rfl : (⟨go12, 0, none⟩ : Addr) = ad728 := (by injection e728); (first | simp only [add_plain] at hx728_0 | simp only [add_at] at hx728_0 | simp only [Addr.add, Nat.zero_add] at hx728_0 | skip); replace p728 := eq_true p728; replace q728 := eq_true q728))
                          (try simp only [← hl3_4])
                          go_roundg k4
                          case measure => have := HK1.out; have := HK2.out; have := HK3.out; have := HK4.out; omega
                          case rel => exact ⟨(x3_4), (x6_4), (wrap64 (x8_4 + 1)), (by first | rfl | (simp; done) | (simp [*]; done)), H', ⟨by have := HK1.out; have := HK2.out; have := HK3.out; have := HK4.out; omega⟩, ⟨by (try simp only [hl3_3]); (try simp only [hl3_4]); (with_reducible repeat (first | apply Kd.R_alloc | apply Kd.R_drewN | apply Kd.R_drew)); exact HO_3.out⟩, ⟨by (try simp only [hl3_3]); (try simp only [hl3_4]); (with_reducible repeat (first | apply Kd.Q_alloc | apply Kd.Q_drewN | apply Kd.Q_drew)); exact HO_6.out⟩, ⟨by (try simp only [hl3_3]); (try simp only [hl3_4]); (with_reducible repeat (first | apply Kd.R_alloc | apply Kd.R_drewN | apply Kd.R_drew)); exact HO_7.out⟩, ⟨by repeat (with_reducible first | exact HB.out | apply below_alloc | apply pw_below_drewN | apply below_drew1)⟩⟩
                        ·rw [if_neg c33] at H
                         exact absurd H (by simp)
                       ·rw [if_neg c32] at H
                        exact absurd H (by simp)
                      ·rw [if_neg c31] at H
                       have c31b0 : decide (0 ≤ t727) = false := decide_eq_false c31
                       clear c31
                       have H' := Aside0.mk H
                       clear H
                       obtain ⟨Ao44, co44, eo44⟩ := Kd.R_slice HO_7.out
                       subst eo44
                       have p726 : 0 ≤ (x8_4 : Int) := of_decide_eq_true (by first | (with_reducible assumption) | assumption)
                       have q726 : x8_4 < (t720.length : Int) := of_decide_eq_true (by first | (with_reducible assumption) | assumption)
                       obtain ⟨ad726, e726, hx726_0, hx726_1⟩ := at_T42 (Kd.R_reads' HO_7.out).2.2 x8_4 p726 q726
                       cases e726
                       replace p726 := eq_true p726
                       replace q726 := eq_true q726
                       go_wp2_with (first | ((with_reducible refine gate_callee (f := 106) rfl ?_); refine goesL_ (some 58) rfl rfl Try.func106 (by kernel_rfl) rfl #[.slice (some ad719) l0.length c0, .agg #[.int .i64 ((rd_T42 t720 x8_4).f0), .int .i64 ((rd_T42 t720 x8_4).f1)]] rfl (by (try simp only [List.map_toArray, List.map_cons, List.map_nil]); first | done | rfl) ?_; (with_reducible refine (spec_l02Index.calls k4 _ _ l0 ((rd_T42 t720 x8_4).f0) ((rd_T42 t720 x8_4).f1) t727 _ ?side1 ?side2 A30.out).mono ?_); (case side1 => repeat (first | exact (Kd.C_below HR0.out HB.out) | (with_reducible refine Kd.C_alloc ?_ _) | (with_reducible refine Kd.C_drewN ?_ _) | (with_reducible refine Kd.C_drew ?_))); (case side2 => exact HC0.out); rintro e w45 ⟨rfl, hb⟩; refine ⟨_, rfl, ?_⟩; have n0_ := Aside0.mk (Kd.R_below (by (with_reducible repeat (first | apply Kd.R_alloc | apply Kd.R_drewN | apply Kd.R_drew)); exact HO_3.out) hb); have n1_ := Aside0.mk (Kd.Q_below (by (with_reducible repeat (first | apply Kd.Q_alloc | apply Kd.Q_drewN | apply Kd.Q_drew)); exact HO_6.out) hb); have n2_ := Aside0.mk (Kd.R_below (by (with_reducible repeat (first | apply Kd.R_alloc | apply Kd.R_drewN | apply Kd.R_drew)); exact HO_7.out) hb); have n3_ := Aside0.mk (below_step (by repeat (with_reducible first | exact HB.out | apply below_alloc | apply pw_below_drewN | apply below_drew1)) hb); clear HO_3; clear HO_6; clear HO_7; clear HB; have HO_3 := n0_; have HO_6 := n1_; have HO_7 := n2_; have HB := n3_; clear n0_ n1_ n2_ n3_; (try clear hb)))
                       (try simp only [← hl3_4])
                       go_roundg k4
                       case measure => have := HK1.out; have := HK2.out; have := HK3.out; have := HK4.out; omega
                       case rel => exact ⟨(x3_4), (x6_4), (wrap64 (x8_4 + 1)), (by first | rfl | (simp; done) | (simp [*]; done)), H', ⟨by have := HK1.out; have := HK2.out; have := HK3.out; have := HK4.out; omega⟩, ⟨by (try simp only [hl3_3]); (try simp only [hl3_4]); (with_reducible repeat (first | apply Kd.R_alloc | apply Kd.R_drewN | apply Kd.R_drew)); exact HO_3.out⟩, ⟨by (try simp only [hl3_3]); (try simp only [hl3_4]); (with_reducible repeat (first | apply Kd.Q_alloc | apply Kd.Q_drewN | apply Kd.Q_drew)); exact HO_6.out⟩, ⟨by (try simp only [hl3_3]); (try simp only [hl3_4]); (with_reducible repeat (first | apply Kd.R_alloc | apply Kd.R_drewN | apply Kd.R_drew)); exact HO_7.out⟩, ⟨by repeat (with_reducible first | exact HB.out | apply below_alloc | apply pw_below_drewN | apply below_drew1)⟩⟩
                     ·rw [if_neg c29] at H
                      exact absurd H (by simp)
                    ·rw [if_neg c28] at H
                     exact absurd H (by simp)
                   ·rw [if_neg c27] at H
                    have c27b0 : decide (x8_4 < 4) = false := decide_eq_false c27
                    clear c27
                    have H' := Aside0.mk H
                    clear H
                    go_wp2
                    (try simp only [← hl3_3, ← hl3_4])
                    go_roundg k4
                    case measure => have := HK1.out; have := HK2.out; have := HK3.out; have := HK4.out; omega
                    case rel => exact ⟨(x3_4), (x6_4), H', ⟨by have := HK1.out; have := HK2.out; have := HK3.out; have := HK4.out; omega⟩, ⟨by (try simp only [hl3_3]); (try simp only [hl3_4]); (with_reducible repeat (first | apply Kd.R_alloc | apply Kd.R_drewN | apply Kd.R_drew)); exact HO_3.out⟩, ⟨by (try simp only [hl3_3]); (try simp only [hl3_4]); (with_reducible repeat (first | apply Kd.Q_alloc | apply Kd.Q_drewN | apply Kd.Q_drew)); exact HO_6.out⟩, ⟨by repeat (with_reducible first | exact HB.out | apply below_alloc | apply pw_below_drewN | apply below_drew1)⟩⟩
                ·rw [if_neg c23] at H
                 exact absurd H (by simp)
               ·rw [if_neg c21] at H
                exact absurd H (by simp)
              ·rw [if_neg c20] at H
               exact absurd H (by simp)
             ·rw [if_neg c19] at H
              exact absurd H (by simp)
            ·rw [if_neg c18] at H
             have c18b0 : decide (0 < (x6_3.length : Int)) = false := decide_eq_false c18
             have c18b1 : decide (0 < x6_3.length) = false := decide_eq_false (by omega)
             clear c18
             have H' := Aside0.mk H
             clear H
             obtain ⟨Ao46, co46, eo46, _⟩ := Kd.Q_slice HO_6.out
             subst eo46
             go_wp2
             (try simp only [← hl3_3])
             go_roundg k3
             case measure => have := HK1.out; have := HK2.out; have := HK3.out; omega
             case rel => exact ⟨(x3_3), (wrap64 (x5_2 + 1)), (by first | rfl | (simp; done) | (simp [*]; done)), H', ⟨by have := HK1.out; have := HK2.out; have := HK3.out; omega⟩, ⟨by (try simp only [hl3_3]); (with_reducible repeat (first | apply Kd.R_alloc | apply Kd.R_drewN | apply Kd.R_drew)); exact Kd.R_mono HO_3.out (fun _ hk => trivial)⟩, ⟨by repeat (with_reducible first | exact HB.out | apply below_alloc | apply pw_below_drewN | apply below_drew1)⟩⟩
        ·rw [if_neg c9] at H
         exact absurd H (by simp)
       ·rw [if_neg c8] at H
        exact absurd H (by simp)
      ·rw [if_neg c7] at H
       have c7b0 : decide (x5_2 < (l0.length : Int)) = false := decide_eq_false c7
       clear c7
       obtain rfl := Option.some.inj H
       go_wp2
       go_ret
       exact ⟨_, by first | rfl | (simp [*] <;> rfl), by (with_reducible repeat (first | apply Kd.R_alloc | apply Kd.R_drewN | apply Kd.R_drew)); exact HO_3.out, by repeat (with_reducible first | exact HB.out | apply below_alloc | apply pw_below_drewN | apply below_drew1)⟩

/-! ### slices_Max_int64: function 110 -/
def slices_Max_int64.l0 : Nat → List Int → Int → Int → Option (Int)
 | 0, _, _, _ => none
 | k + 1, x0, x3, x4 => if x4 < (x0.length : Int) then (if 0 ≤ x4 then (slices_Max_int64.l0 k x0 (mx x3 (rd x0 x4)) (wrap64 (x4 + 1))) else (none)) else (some x3)
def slices_Max_int64.f (k : Nat) (l0 : List Int) : Option (Int) := if (l0.length : Int) < 1 then (none) else (if 0 < (l0.length : Int) then (slices_Max_int64.l0 k l0 (rd l0 0) 1) else (none))
theorem slices_Max_int64.mono_l : ∀ k, (∀ y0 y1 y2, LeO (slices_Max_int64.l0 k y0 y1 y2) (slices_Max_int64.l0 (k + 1) y0 y1 y2))
 | 0 => fun _ _ _ r h => by simp [slices_Max_int64.l0] at h
 | k + 1 => by
  have ih0 := slices_Max_int64.mono_l k
  ·intro y0 y1 y2
   unfold slices_Max_int64.l0
   repeat' first
   | (with_reducible exact ih0 _ _ _)
   | (with_reducible exact LeO.refl _)
   | (with_reducible exact LeO.none _)
   | (with_reducible refine LeO.ite ?_ ?_)
   | (with_reducible refine LeO.bind ?_ (fun _ => ?_))
   | exact ih0 _ _ _
   | exact LeO.none _
   | refine LeO.ite ?_ ?_
   | refine LeO.bind ?_ (fun _ => ?_)
theorem slices_Max_int64.mono : ∀ a0 k, LeO (slices_Max_int64.f k a0) (slices_Max_int64.f (k + 1) a0) := by
 intro a0 k
 have ih0 := slices_Max_int64.mono_l k
 unfold slices_Max_int64.f
 repeat' first
   | (with_reducible exact ih0 _ _ _)
   | (with_reducible exact LeO.refl _)
   | (with_reducible exact LeO.none _)
   | (with_reducible refine LeO.ite ?_ ?_)
   | (with_reducible refine LeO.bind ?_ (fun _ => ?_))
   | exact ih0 _ _ _
   | exact LeO.none _
   | refine LeO.ite ?_ ?_
   | refine LeO.bind ?_ (fun _ => ?_)
set_option maxHeartbeats 8000000 in
set_option maxRecDepth 100000 in
theorem slices_Max_int64.calls (k : Nat) (A0 : Option Addr) (c0 : Nat) (l0 : List Int) (r : Int) (w : World) (hr0 : Kd.C (Kd.int .i64) w A0 l0.length l0) (hc0 : l0.length ≤ c0) (h : slices_Max_int64.f k l0 = some r) :
  Calls Try.prog 110 #[.slice A0 l0.length c0] w fun e w' => e = .returned (.int .i64 r) ∧ Below w.heap.size w w' := by
 have HR0 := Aside0.mk hr0
 have HC0 := Aside0.mk hc0
 clear hr0 hc0
 have HB := Aside0.mk (Below.refl w.heap.size w)
 have H : (if (l0.length : Int) < 1 then (none) else (if 0 < (l0.length : Int) then (slices_Max_int64.l0 k l0 (rd l0 0) 1) else (none))) = some r := h
 clear h
 by_cases c2 : (l0.length : Int) < 1
 ·rw [if_pos c2] at H
  exact absurd H (by simp)
 ·rw [if_neg c2] at H
  have c2b0 : decide ((l0.length : Int) < 1) = false := decide_eq_false c2
  have c2b1 : decide (l0.length < 1) = false := decide_eq_false (by omega)
  clear c2
  by_cases c3 : 0 < (l0.length : Int)
  ·rw [if_pos c3] at H
   have c3b0 : decide (0 < (l0.length : Int)) = true := decide_eq_true c3
   have c3b1 : decide (0 < l0.length) = true := decide_eq_true (by omega)
   clear c3
   have H' := Aside0.mk H
   clear H
   have p771 : 0 ≤ (0 : Int) := (by omega)
   have q771 : 0 < (l0.length : Int) := of_decide_eq_true (by first | (with_reducible assumption) | assumption)
   obtain ⟨ad771, e771, hx771_0⟩ := Kd.at_int HR0.out 0 p771 q771
   cases e771
   have qi771 : (0 < l0.length) = True := eq_true (by omega)
   (try rw [show ((0 : Int)).toNat = 0 from rfl] at hx771_0)
   (try rw [Addr.add_zero'] at hx771_0)
   replace p771 := eq_true p771
   replace q771 := eq_true q771
   go_enter Try.func110, Try.ntmps110
   go_wp2
   go_loopg [3, 4] k (fun kq v3 v4 w' => ∃ (x3_1 : Int) (x4_1 : Int), v3 = .int .i64 x3_1 ∧ v4 = .int .i64 x4_1 ∧ Aside0 (slices_Max_int64.l0 kq l0 x3_1 x4_1 = some r) ∧ Aside0 (kq ≤ k) ∧ Aside0 (Below w.heap.size w w'))
   case atStart => exact ⟨(rd l0 0), (1), (by first | rfl | (simp; done) | (simp [*]; done)), (by first | rfl | (simp; done) | (simp [*]; done)), H', ⟨Nat.le_refl _⟩, ⟨by repeat (with_reducible first | exact HB.out | apply below_alloc | apply pw_below_drewN | apply below_drew1)⟩⟩
   case round =>
    clear H'
    try clear c1
    try clear c2
    try clear c2b0
    try clear c2b1
    try clear p2
    try clear c3
    try clear c3b0
    try clear c3b1
    try clear hx771_0
    try clear p771
    try clear q771
    obtain ⟨x3_1, x4_1, rfl, rfl, HA, HK1, HB⟩ := hrel
    cases gk with
    | zero => exact absurd HA.out (by simp [slices_Max_int64.l0])
    | succ k1 =>
     have H := HA.out
     clear HA
     simp only [slices_Max_int64.l0] at H
     by_cases c4 : x4_1 < (l0.length : Int)
     ·rw [if_pos c4] at H
      have c4b0 : decide (x4_1 < (l0.length : Int)) = true := decide_eq_true c4
      clear c4
      by_cases c5 : 0 ≤ x4_1
      ·rw [if_pos c5] at H
       have c5b0 : decide (0 ≤ x4_1) = true := decide_eq_true c5
       clear c5
       obtain ⟨ji6, hji6⟩ : ∃ j_ : Int, (mx x3_1 (rd l0 x4_1)) = j_ := ⟨_, rfl⟩
       replace H : (slices_Max_int64.l0 k1 l0 ji6 (wrap64 (x4_1 + 1))) = some r := by first | (rw [hji6] at H; exact H) | (simp only [hji6] at H ⊢; exact H)
       have hji6_ : (if x3_1 < (rd l0 x4_1) then (rd l0 x4_1) else x3_1) = ji6 := hji6
       have H' := Aside0.mk H
       clear H
       have p772 : 0 ≤ (x4_1 : Int) := of_decide_eq_true (by first | (with_reducible assumption) | assumption)
       have q772 : x4_1 < (l0.length : Int) := of_decide_eq_true (by first | (with_reducible assumption) | assumption)
       obtain ⟨ad772, e772, hx772_0⟩ := Kd.at_int HR0.out x4_1 p772 q772
       obtain rfl : ad771 = ad772 := (by injection e772)
       replace hx772_0 := (HB.out.cell (World.block_lt_of_cell? w _ hx772_0)).trans hx772_0
       replace p772 := eq_true p772
       replace q772 := eq_true q772
       go_wp2
       go_roundg k1
       case measure => have := HK1.out; omega
       case rel => exact ⟨(ji6), (wrap64 (x4_1 + 1)), (by first | rfl | (simp; done) | (simp only [← hji6] <;> (first | rfl | simp)) | (simp [*]; done)), (by first | rfl | (simp; done) | (simp [*]; done)), H', ⟨by have := HK1.out; omega⟩, ⟨by repeat (with_reducible first | exact HB.out | apply below_alloc | apply pw_below_drewN | apply below_drew1)⟩⟩
      ·rw [if_neg c5] at H
       exact absurd H (by simp)
     ·rw [if_neg c4] at H
      have c4b0 : decide (x4_1 < (l0.length : Int)) = false := decide_eq_false c4
      clear c4
      obtain rfl := Option.some.inj H
      go_wp2
      go_ret
      exact ⟨by first | rfl | (simp [*] <;> rfl), by repeat (with_reducible first | exact HB.out | apply below_alloc | apply pw_below_drewN | apply below_drew1)⟩
  ·rw [if_neg c3] at H
   exact absurd H (by simp)

/-! ### impl_connected: function 73 -/
def impl_connected.f (k : Nat) (l0 : List (S42))  : Option (Bool) := (impl_parts.f k l0).bind fun t773 => ((slices_Max_int64.f k t773).bind fun t776 => (some (t776 == 0)))
theorem impl_connected.mono : ∀ a0 k, LeO (impl_connected.f k a0) (impl_connected.f (k + 1) a0) := by
 intro a0 k
 unfold impl_connected.f
 repeat' first
   | (with_reducible exact impl_parts.mono _ _)
   | (with_reducible exact slices_Max_int64.mono _ _)
   | (with_reducible exact LeO.refl _)
   | (with_reducible exact LeO.none _)
   | (with_reducible refine LeO.ite ?_ ?_)
   | (with_reducible refine LeO.bind ?_ (fun _ => ?_))
   | exact impl_parts.mono _ _
   | exact slices_Max_int64.mono _ _
   | exact LeO.none _
   | refine LeO.ite ?_ ?_
   | refine LeO.bind ?_ (fun _ => ?_)
set_option maxHeartbeats 8000000 in
set_option maxRecDepth 100000 in
theorem impl_connected.calls (k : Nat) (A0 : Option Addr) (c0 : Nat) (l0 : List (S42))  (r : Bool) (w : World) (hr0 : Kd.C k42 w A0 l0.length l0) (hc0 : l0.length ≤ c0) (h : impl_connected.f k l0 = some r) :
  Calls Try.prog 73 #[.slice A0 l0.length c0, .func (.func 68) #[] #[]] w fun e w' => e = .returned (.bool r) ∧ Below w.heap.size w w' := by
 have HR0 := Aside0.mk hr0
 have HC0 := Aside0.mk hc0
 clear hr0 hc0
 have HB := Aside0.mk (Below.refl w.heap.size w)
 have H : ((impl_parts.f k l0).bind fun t773 => ((slices_Max_int64.f k t773).bind fun t776 => (some (t776 == 0)))) = some r := h
 clear h
 replace H := Option.bind_eq_some_iff.mp H
 obtain ⟨t773, A30, H⟩ := H
 replace H : ((slices_Max_int64.f k t773).bind fun t776 => (some (t776 == 0))) = some r := H
 have A3 := Aside0.mk A30
 clear A30
 replace H := Option.bind_eq_some_iff.mp H
 obtain ⟨t776, A40, H⟩ := H
 replace H : (some (t776 == 0)) = some r := H
 have A4 := Aside0.mk A40
 clear A40
 obtain rfl := Option.some.inj H
 go_enter Try.func73, Try.ntmps73
 go_wp2_with (first | ((with_reducible refine gate_callee (f := 67) rfl ?_); refine goesL_ (some 7) rfl rfl Try.func67 (by kernel_rfl) rfl #[.slice A0 l0.length c0, .func (.func 68) #[] #[]] rfl (by (try simp only [List.map_toArray, List.map_cons, List.map_nil]); first | done | rfl) ?_; (with_reducible refine (impl_parts.calls k _ _ l0  t773 _ ?side1 ?side2 A3.out).mono ?_); (case side1 => repeat (first | exact HR0.out | (with_reducible refine Kd.C_alloc ?_ _) | (with_reducible refine Kd.C_drewN ?_ _) | (with_reducible refine Kd.C_drew ?_))); (case side2 => exact HC0.out); rintro e w5 ⟨v774, rfl, ho0, hb⟩; refine ⟨_, rfl, ?_⟩; have n0_ := Aside0.mk (Kd.R_lower ho0 (below_size (by repeat (with_reducible first | exact HB.out | apply below_alloc | apply pw_below_drewN | apply below_drew1)))); have n1_ := Aside0.mk (below_step (by repeat (with_reducible first | exact HB.out | apply below_alloc | apply pw_below_drewN | apply below_drew1)) hb); clear HB; have HO775 := n0_; have HB := n1_; clear n0_ n1_; (try clear hb); (try clear ho0); obtain ⟨Ao6, co6, eo6⟩ := Kd.R_slice HO775.out; subst eo6) | ((with_reducible refine gate_callee (f := 110) rfl ?_); refine goesL_ (some 8) rfl rfl Try.func110 (by kernel_rfl) rfl #[.slice Ao6 t773.length co6] rfl (by (try simp only [List.map_toArray, List.map_cons, List.map_nil]); first | done | rfl) ?_; (with_reducible refine (slices_Max_int64.calls k _ _ t773 t776 _ ?side1 ?side2 A4.out).mono ?_); (case side1 => repeat (first | exact (Kd.R_reads' HO775.out).2.2 | (with_reducible refine Kd.C_alloc ?_ _) | (with_reducible refine Kd.C_drewN ?_ _) | (with_reducible refine Kd.C_drew ?_))); (case side2 => exact (Kd.R_reads' HO775.out).2.1); rintro e w7 ⟨rfl, hb⟩; refine ⟨_, rfl, ?_⟩; have n0_ := Aside0.mk (Kd.R_below (by (with_reducible repeat (first | apply Kd.R_alloc | apply Kd.R_drewN | apply Kd.R_drew)); exact HO775.out) hb); have n1_ := Aside0.mk (below_step (by repeat (with_reducible first | exact HB.out | apply below_alloc | apply pw_below_drewN | apply below_drew1)) hb); clear HO775; clear HB; have HO775 := n0_; have HB := n1_; clear n0_ n1_; (try clear hb)))
 go_ret
 exact ⟨by first | rfl | (simp [*] <;> rfl), by repeat (with_reducible first | exact HB.out | apply below_alloc | apply pw_below_drewN | apply below_drew1)⟩

/-! ### impl_IsConnected: function 35 -/
def impl_IsConnected.f (k : Nat) (l0 : List (S42)) : Option (Bool) := (impl_IsShape.f k l0).bind fun t777 => (if t777 = true then ((impl_connected.f k l0).bind fun t778 => (some t778)) else (some false))
theorem impl_IsConnected.mono : ∀ a0 k, LeO (impl_IsConnected.f k a0) (impl_IsConnected.f (k + 1) a0) := by
 intro a0 k
 unfold impl_IsConnected.f
 repeat' first
   | (with_reducible exact impl_IsShape.mono _ _)
   | (with_reducible exact impl_connected.mono _ _)
   | (with_reducible exact LeO.refl _)
   | (with_reducible exact LeO.none _)
   | (with_reducible refine LeO.ite ?_ ?_)
   | (with_reducible refine LeO.bind ?_ (fun _ => ?_))
   | exact impl_IsShape.mono _ _
   | exact impl_connected.mono _ _
   | exact LeO.none _
   | refine LeO.ite ?_ ?_
   | refine LeO.bind ?_ (fun _ => ?_)
set_option maxHeartbeats 8000000 in
set_option maxRecDepth 100000 in
theorem impl_IsConnected.calls (k : Nat) (A0 : Option Addr) (c0 : Nat) (l0 : List (S42)) (r : Bool) (w : World) (hr0 : Kd.C k42 w A0 l0.length l0) (hc0 : l0.length ≤ c0) (h : impl_IsConnected.f k l0 = some r) :
  Calls Try.prog 35 #[.slice A0 l0.length c0] w fun e w' => e = .returned (.bool r) ∧ Below w.heap.size w w' := by
 have HR0 := Aside0.mk hr0
 have HC0 := Aside0.mk hc0
 clear hr0 hc0
 have HB := Aside0.mk (Below.refl w.heap.size w)
 have H : ((impl_IsShape.f k l0).bind fun t777 => (if t777 = true then ((impl_connected.f k l0).bind fun t778 => (some t778)) else (some false))) = some r := h
 clear h
 replace H := Option.bind_eq_some_iff.mp H
 obtain ⟨t777, A20, H⟩ := H
 replace H : (if t777 = true then ((impl_connected.f k l0).bind fun t778 => (some t778)) else (some false)) = some r := H
 have A2 := Aside0.mk A20
 clear A20
 by_cases c3 : t777 = true
 ·subst c3
  have H1 : ((impl_connected.f k l0).bind fun t778 => (some t778)) = some r := by rw [if_pos rfl] at H; exact H
  clear H
  have H := H1
  clear H1
  replace H := Option.bind_eq_some_iff.mp H
  obtain ⟨t778, A40, H⟩ := H
  replace H : (some t778) = some r := H
  have A4 := Aside0.mk A40
  clear A40
  obtain rfl := Option.some.inj H
  go_enter Try.func35, Try.ntmps35
  go_wp2_with (first | ((with_reducible refine gate_callee (f := 66) rfl ?_); refine goesL_ (some 4) rfl rfl Try.func66 (by kernel_rfl) rfl #[.slice A0 l0.length c0] rfl (by (try simp only [List.map_toArray, List.map_cons, List.map_nil]); first | done | rfl) ?_; (with_reducible refine (impl_IsShape.calls k _ _ l0 true _ ?side1 ?side2 A2.out).mono ?_); (case side1 => repeat (first | exact HR0.out | (with_reducible refine Kd.C_alloc ?_ _) | (with_reducible refine Kd.C_drewN ?_ _) | (with_reducible refine Kd.C_drew ?_))); (case side2 => exact HC0.out); rintro e w5 ⟨rfl, hb⟩; refine ⟨_, rfl, ?_⟩; have n0_ := Aside0.mk (below_step (by repeat (with_reducible first | exact HB.out | apply below_alloc | apply pw_below_drewN | apply below_drew1)) hb); clear HB; have HB := n0_; clear n0_; (try clear hb)) | (go_at_call 73; (with_reducible refine (impl_connected.calls k _ _ l0  t778 _ ?side1 ?side2 A4.out).mono ?_); (case side1 => repeat (first | exact (Kd.C_below HR0.out HB.out) | (with_reducible refine Kd.C_alloc ?_ _) | (with_reducible refine Kd.C_drewN ?_ _) | (with_reducible refine Kd.C_drew ?_))); (case side2 => exact HC0.out); rintro e w6 ⟨rfl, hb⟩; have n0_ := Aside0.mk (below_step (by repeat (with_reducible first | exact HB.out | apply below_alloc | apply pw_below_drewN | apply below_drew1)) hb); clear HB; have HB := n0_; clear n0_; (try clear hb)))
  go_ret
  exact ⟨by first | rfl | (simp [*] <;> rfl), by repeat (with_reducible first | exact HB.out | apply below_alloc | apply pw_below_drewN | apply below_drew1)⟩
 ·replace c3 := Bool.eq_false_iff.mpr c3
  subst c3
  have H1 : (some false) = some r := by rw [if_neg (show ¬ (false = true) by decide)] at H; exact H
  clear H
  have H := H1
  clear H1
  obtain rfl := Option.some.inj H
  go_enter Try.func35, Try.ntmps35
  go_wp2_with (first | ((with_reducible refine gate_callee (f := 66) rfl ?_); refine goesL_ (some 4) rfl rfl Try.func66 (by kernel_rfl) rfl #[.slice A0 l0.length c0] rfl (by (try simp only [List.map_toArray, List.map_cons, List.map_nil]); first | done | rfl) ?_; (with_reducible refine (impl_IsShape.calls k _ _ l0 false _ ?side1 ?side2 A2.out).mono ?_); (case side1 => repeat (first | exact HR0.out | (with_reducible refine Kd.C_alloc ?_ _) | (with_reducible refine Kd.C_drewN ?_ _) | (with_reducible refine Kd.C_drew ?_))); (case side2 => exact HC0.out); rintro e w7 ⟨rfl, hb⟩; refine ⟨_, rfl, ?_⟩; have n0_ := Aside0.mk (below_step (by repeat (with_reducible first | exact HB.out | apply below_alloc | apply pw_below_drewN | apply below_drew1)) hb); clear HB; have HB := n0_; clear n0_; (try clear hb)))
  go_ret
  exact ⟨by first | rfl | (simp [*] <;> rfl), by repeat (with_reducible first | exact HB.out | apply below_alloc | apply pw_below_drewN | apply below_drew1)⟩

/-! ### spec_l02One: function 74 -/
def spec_l02One.l0 : Nat → List Int → Int → Option (Bool)
 | 0, _, _ => none
 | k + 1, x0, x3 => if x3 < (x0.length : Int) then (if 0 ≤ x3 then (if (rd x0 x3) = 0 then (spec_l02One.l0 k x0 (wrap64 (x3 + 1))) else (some false)) else (none)) else (some true)
def spec_l02One.f (k : Nat) (l0 : List Int) : Option (Bool) := spec_l02One.l0 k l0 0
theorem spec_l02One.mono_l : ∀ k, (∀ y0 y1, LeO (spec_l02One.l0 k y0 y1) (spec_l02One.l0 (k + 1) y0 y1))
 | 0 => fun _ _ r h => by simp [spec_l02One.l0] at h
 | k + 1 => by
  have ih0 := spec_l02One.mono_l k
  ·intro y0 y1
   unfold spec_l02One.l0
   repeat' first
   | (with_reducible exact ih0 _ _)
   | (with_reducible exact LeO.refl _)
   | (with_reducible exact LeO.none _)
   | (with_reducible refine LeO.ite ?_ ?_)
   | (with_reducible refine LeO.bind ?_ (fun _ => ?_))
   | exact ih0 _ _
   | exact LeO.none _
   | refine LeO.ite ?_ ?_
   | refine LeO.bind ?_ (fun _ => ?_)
theorem spec_l02One.mono : ∀ a0 k, LeO (spec_l02One.f k a0) (spec_l02One.f (k + 1) a0) := by
 intro a0 k
 have ih0 := spec_l02One.mono_l k
 unfold spec_l02One.f
 repeat' first
   | (with_reducible exact ih0 _ _)
   | (with_reducible exact LeO.refl _)
   | (with_reducible exact LeO.none _)
   | (with_reducible refine LeO.ite ?_ ?_)
   | (with_reducible refine LeO.bind ?_ (fun _ => ?_))
   | exact ih0 _ _
   | exact LeO.none _
   | refine LeO.ite ?_ ?_
   | refine LeO.bind ?_ (fun _ => ?_)
set_option maxHeartbeats 8000000 in
set_option maxRecDepth 100000 in
theorem spec_l02One.calls (k : Nat) (A0 : Option Addr) (c0 : Nat) (l0 : List Int) (r : Bool) (w : World) (hr0 : Kd.C (Kd.int .i64) w A0 l0.length l0) (hc0 : l0.length ≤ c0) (h : spec_l02One.f k l0 = some r) :
  Calls Try.prog 74 #[.slice A0 l0.length c0] w fun e w' => e = .returned (.bool r) ∧ Drawn0 w w' := by
 have HR0 := Aside0.mk hr0
 have HC0 := Aside0.mk hc0
 clear hr0 hc0
 have H : (spec_l02One.l0 k l0 0) = some r := h
 clear h
 have H' := Aside0.mk H
 clear H
 go_enter Try.func74, Try.ntmps74
 go_wp2
 go_loopg [3] k (fun kq v3 w' => ∃ (x3_1 : Int), v3 = .int .i64 x3_1 ∧ Aside0 (spec_l02One.l0 kq l0 x3_1 = some r) ∧ Aside0 (kq ≤ k) ∧ Drawn0 w w')
 case atStart => exact ⟨(0), (by first | rfl | (simp; done) | (simp [*]; done)), H', ⟨Nat.le_refl _⟩, by repeat (first | exact Drawn0.refl _ | apply Drawn0.step)⟩
 case round =>
  clear H'
  obtain ⟨x3_1, rfl, HA, HK1, ⟨m1, rfl⟩⟩ := hrel
  cases gk with
  | zero => exact absurd HA.out (by simp [spec_l02One.l0])
  | succ k1 =>
   have H := HA.out
   clear HA
   simp only [spec_l02One.l0] at H
   by_cases c2 : x3_1 < (l0.length : Int)
   ·rw [if_pos c2] at H
    have c2b0 : decide (x3_1 < (l0.length : Int)) = true := decide_eq_true c2
    clear c2
    by_cases c3 : 0 ≤ x3_1
    ·rw [if_pos c3] at H
     have c3b0 : decide (0 ≤ x3_1) = true := decide_eq_true c3
     clear c3
     by_cases c4 : (rd l0 x3_1) = 0
     ·rw [if_pos c4] at H
      have c4b0 : ((rd l0 x3_1) == 0) = true := beq_iff_eq.mpr c4
      have c4b1 : ((rd l0 x3_1) != 0) = false := bne_eq_false_iff_eq.mpr c4
      clear c4
      have H' := Aside0.mk H
      clear H
      have p779 : 0 ≤ (x3_1 : Int) := of_decide_eq_true (by first | (with_reducible assumption) | assumption)
      have q779 : x3_1 < (l0.length : Int) := of_decide_eq_true (by first | (with_reducible assumption) | assumption)
      obtain ⟨ad779, e779, hx779_0⟩ := Kd.at_int HR0.out x3_1 p779 q779
      cases e779
      replace p779 := eq_true p779
      replace q779 := eq_true q779
      go_wp2
      go_roundg k1
      case measure => have := HK1.out; omega
      case rel => exact ⟨(wrap64 (x3_1 + 1)), (by first | rfl | (simp; done) | (simp [*]; done)), H', ⟨by have := HK1.out; omega⟩, by repeat (first | exact Drawn0.refl _ | apply Drawn0.step)⟩
     ·rw [if_neg c4] at H
      have c4b0 : ((rd l0 x3_1) == 0) = false := beq_eq_false_iff_ne.mpr c4
      have c4b1 : ((rd l0 x3_1) != 0) = true := bne_iff_ne.mpr c4
      obtain rfl := Option.some.inj H
      have p779 : 0 ≤ (x3_1 : Int) := of_decide_eq_true (by first | (with_reducible assumption) | assumption)
      have q779 : x3_1 < (l0.length : Int) := of_decide_eq_true (by first | (with_reducible assumption) | assumption)
      obtain ⟨ad779, e779, hx779_0⟩ := Kd.at_int HR0.out x3_1 p779 q779
      cases e779
      replace p779 := eq_true p779
      replace q779 := eq_true q779
      go_wp2
      go_ret
      exact ⟨by first | rfl | (simp; done) | (simp [*]; done), by repeat (first | exact Drawn0.refl _ | apply Drawn0.step)⟩
    ·rw [if_neg c3] at H
     exact absurd H (by simp)
   ·rw [if_neg c2] at H
    have c2b0 : decide (x3_1 < (l0.length : Int)) = false := decide_eq_false c2
    clear c2
    obtain rfl := Option.some.inj H
    go_wp2
    go_ret
    exact ⟨by first | rfl | (simp; done) | (simp [*]; done), by repeat (first | exact Drawn0.refl _ | apply Drawn0.step)⟩

/-! ### spec_IsConnected: function 36 -/
def spec_IsConnected.f (k : Nat) (l0 : List (S42)) : Option (Bool) := (spec_IsShape.f k l0).bind fun t780 => (if t780 = true then ((spec_l02Parts.f k l0).bind fun t781 => ((spec_l02One.f k t781).bind fun t784 => (some t784))) else (some false))
theorem spec_IsConnected.mono : ∀ a0 k, LeO (spec_IsConnected.f k a0) (spec_IsConnected.f (k + 1) a0) := by
 intro a0 k
 unfold spec_IsConnected.f
 repeat' first
   | (with_reducible exact spec_IsShape.mono _ _)
   | (with_reducible exact spec_l02One.mono _ _)
   | (with_reducible exact spec_l02Parts.mono _ _)
   | (with_reducible exact LeO.refl _)
   | (with_reducible exact LeO.none _)
   | (with_reducible refine LeO.ite ?_ ?_)
   | (with_reducible refine LeO.bind ?_ (fun _ => ?_))
   | exact spec_IsShape.mono _ _
   | exact spec_l02One.mono _ _
   | exact spec_l02Parts.mono _ _
   | exact LeO.none _
   | refine LeO.ite ?_ ?_
   | refine LeO.bind ?_ (fun _ => ?_)
set_option maxHeartbeats 8000000 in
set_option maxRecDepth 100000 in
theorem spec_IsConnected.calls (k : Nat) (A0 : Option Addr) (c0 : Nat) (l0 : List (S42)) (r : Bool) (w : World) (hr0 : Kd.C k42 w A0 l0.length l0) (hc0 : l0.length ≤ c0) (h : spec_IsConnected.f k l0 = some r) :
  Calls Try.prog 36 #[.slice A0 l0.length c0] w fun e w' => e = .returned (.bool r) ∧ Below w.heap.size w w' := by
 have HR0 := Aside0.mk hr0
 have HC0 := Aside0.mk hc0
 clear hr0 hc0
 have HB := Aside0.mk (Below.refl w.heap.size w)
 have H : ((spec_IsShape.f k l0).bind fun t780 => (if t780 = true then ((spec_l02Parts.f k l0).bind fun t781 => ((spec_l02One.f k t781).bind fun t784 => (some t784))) else (some false))) = some r := h
 clear h
 replace H := Option.bind_eq_some_iff.mp H
 obtain ⟨t780, A20, H⟩ := H
 replace H : (if t780 = true then ((spec_l02Parts.f k l0).bind fun t781 => ((spec_l02One.f k t781).bind fun t784 => (some t784))) else (some false)) = some r := H
 have A2 := Aside0.mk A20
 clear A20
 by_cases c3 : t780 = true
 ·subst c3
  have H1 : ((spec_l02Parts.f k l0).bind fun t781 => ((spec_l02One.f k t781).bind fun t784 => (some t784))) = some r := by rw [if_pos rfl] at H; exact H
  clear H
  have H := H1
  clear H1
  replace H := Option.bind_eq_some_iff.mp H
  obtain ⟨t781, A40, H⟩ := H
  replace H : ((spec_l02One.f k t781).bind fun t784 => (some t784)) = some r := H
  have A4 := Aside0.mk A40
  clear A40
  replace H := Option.bind_eq_some_iff.mp H
  obtain ⟨t784, A50, H⟩ := H
  replace H : (some t784) = some r := H
  have A5 := Aside0.mk A50
  clear A50
  obtain rfl := Option.some.inj H
  go_enter Try.func36, Try.ntmps36
  go_wp2_with (first | ((with_reducible refine gate_callee (f := 69) rfl ?_); refine goesL_ (some 4) rfl rfl Try.func69 (by kernel_rfl) rfl #[.slice A0 l0.length c0] rfl (by (try simp only [List.map_toArray, List.map_cons, List.map_nil]); first | done | rfl) ?_; (with_reducible refine (spec_IsShape.calls k _ _ l0 true _ ?side1 ?side2 A2.out).mono ?_); (case side1 => repeat (first | exact HR0.out | (with_reducible refine Kd.C_alloc ?_ _) | (with_reducible refine Kd.C_drewN ?_ _) | (with_reducible refine Kd.C_drew ?_))); (case side2 => exact HC0.out); rintro e w6 ⟨rfl, hb⟩; refine ⟨_, rfl, ?_⟩; have n0_ := Aside0.mk (below_step (by repeat (with_reducible first | exact HB.out | apply below_alloc | apply pw_below_drewN | apply below_drew1)) hb); clear HB; have HB := n0_; clear n0_; (try clear hb)) | ((with_reducible refine gate_callee (f := 70) rfl ?_); refine goesL_ (some 7) rfl rfl Try.func70 (by kernel_rfl) rfl #[.slice A0 l0.length c0] rfl (by (try simp only [List.map_toArray, List.map_cons, List.map_nil]); first | done | rfl) ?_; (with_reducible refine (spec_l02Parts.calls k _ _ l0 t781 _ ?side1 ?side2 A4.out).mono ?_); (case side1 => repeat (first | exact (Kd.C_below HR0.out HB.out) | (with_reducible refine Kd.C_alloc ?_ _) | (with_reducible refine Kd.C_drewN ?_ _) | (with_reducible refine Kd.C_drew ?_))); (case side2 => exact HC0.out); rintro e w7 ⟨v782, rfl, ho0, hb⟩; refine ⟨_, rfl, ?_⟩; have n0_ := Aside0.mk (Kd.R_lower ho0 (below_size (by repeat (with_reducible first | exact HB.out | apply below_alloc | apply pw_below_drewN | apply below_drew1)))); have n1_ := Aside0.mk (below_step (by repeat (with_reducible first | exact HB.out | apply below_alloc | apply pw_below_drewN | apply below_drew1)) hb); clear HB; have HO783 := n0_; have HB := n1_; clear n0_ n1_; (try clear hb); (try clear ho0); obtain ⟨Ao8, co8, eo8⟩ := Kd.R_slice HO783.out; subst eo8) | ((with_reducible refine gate_callee (f := 74) rfl ?_); refine goesL_ (some 8) rfl rfl Try.func74 (by kernel_rfl) rfl #[.slice Ao8 t781.length co8] rfl (by (try simp only [List.map_toArray, List.map_cons, List.map_nil]); first | done | rfl) ?_; (with_reducible refine (spec_l02One.calls k _ _ t781 t784 _ ?side1 ?side2 A5.out).mono ?_); (case side1 => repeat (first | exact (Kd.R_reads' HO783.out).2.2 | (with_reducible refine Kd.C_alloc ?_ _) | (with_reducible refine Kd.C_drewN ?_ _) | (with_reducible refine Kd.C_drew ?_))); (case side2 => exact (Kd.R_reads' HO783.out).2.1); rintro e w' ⟨rfl, ⟨nd, rfl⟩⟩; refine ⟨_, rfl, ?_⟩))
  go_ret
  exact ⟨by first | rfl | (simp [*] <;> rfl), by repeat (with_reducible first | exact HB.out | apply below_alloc | apply pw_below_drewN | apply below_drew1)⟩
 ·replace c3 := Bool.eq_false_iff.mpr c3
  subst c3
  have H1 : (some false) = some r := by rw [if_neg (show ¬ (false = true) by decide)] at H; exact H
  clear H
  have H := H1
  clear H1
  obtain rfl := Option.some.inj H
  go_enter Try.func36, Try.ntmps36
  go_wp2_with (first | ((with_reducible refine gate_callee (f := 69) rfl ?_); refine goesL_ (some 4) rfl rfl Try.func69 (by kernel_rfl) rfl #[.slice A0 l0.length c0] rfl (by (try simp only [List.map_toArray, List.map_cons, List.map_nil]); first | done | rfl) ?_; (with_reducible refine (spec_IsShape.calls k _ _ l0 false _ ?side1 ?side2 A2.out).mono ?_); (case side1 => repeat (first | exact HR0.out | (with_reducible refine Kd.C_alloc ?_ _) | (with_reducible refine Kd.C_drewN ?_ _) | (with_reducible refine Kd.C_drew ?_))); (case side2 => exact HC0.out); rintro e w9 ⟨rfl, hb⟩; refine ⟨_, rfl, ?_⟩; have n0_ := Aside0.mk (below_step (by repeat (with_reducible first | exact HB.out | apply below_alloc | apply pw_below_drewN | apply below_drew1)) hb); clear HB; have HB := n0_; clear n0_; (try clear hb)))
  go_ret
  exact ⟨by first | rfl | (simp [*] <;> rfl), by repeat (with_reducible first | exact HB.out | apply below_alloc | apply pw_below_drewN | apply below_drew1)⟩

end Go.Proofs.Ytpilmhjbgbpbmaa.X
