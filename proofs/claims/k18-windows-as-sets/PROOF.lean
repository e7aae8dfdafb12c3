import PyProof.Rows.All
import Wide.All
import OpenK.AllK
import Wide.FinOn
import HandS.ForMost
import HandS.Walk
import HandS.Star
import HandS.Wide
import HandS.IsInst
import PySem.Challenge.RW_turndues_k18_windows_as_sets
set_option Elab.async false
set_option linter.all false
set_option maxRecDepth 100000
set_option maxHeartbeats 4000000
/-! L1: worlds: a visible heap G that only grows, and a list M of own objects that change. -/
namespace Td
open PySem L2

/-! ### growth -/
def Ex (H H' : Hp) : Prop := ∀ a o, H a = some o → H' a = some o
theorem Ex.refl (H : Hp) : Ex H H := fun _ _ h => h
theorem Ex.trans {H H1 H2 : Hp} (a : Ex H H1) (b : Ex H1 H2) : Ex H H2 := fun x o h => b x o (a x o h)
theorem Ex.after {H H1 H2 : Hp} (b : Ex H1 H2) (a : Ex H H1) : Ex H H2 := a.trans b
theorem Ex.new {H : Hp} {p : Addr} {o : HO} (h : H p = none) : Ex H (upd H p o) := fun a u e => by
  rw [upd_ne (ne_of_none e h)]
  exact e
theorem Ex.back {H H' : Hp} {p : Addr} (e : Ex H H') (h : H' p = none) : H p = none := by
  cases h1 : H p with
  | none => rfl
  | some o =>
    rw [e p o h1] at h
    cases h

/-! ### own objects -/
structure DS where
  n : Int
  cs : List Int
  gs : List Int
def dkvs (c g : Addr) (n : Int) : List (Key × V) := [(Sum.inr "cells", .ref c), (Sum.inr "great", .ref g), (Sum.inr "spot", .int n)]
inductive Mo where
  | lst (p : Addr) (xs : List V)
  | dK (p : Addr) (kvs : List (Key × V))
  | ins (x dx C : Addr) (fs : List (Str × V))
  | drw (m c g : Addr) (d : DS)
def Mo.put : Mo → Hp → Hp
  | .lst p xs, H => upd H p (.lst xs)
  | .dK p kvs, H => upd H p (.dK kvs)
  | .ins x dx C fs, H => upd (upd H dx (.own x)) x (.ins C dx fs)
  | .drw m c g d, H => upd (upd (upd H m (.dK (dkvs c g d.n))) c (.lst (d.cs.map V.int))) g (.lst (d.gs.map V.int))
def Mo.keys : Mo → List Addr
  | .lst p _ => [p]
  | .dK p _ => [p]
  | .ins x dx _ _ => [x, dx]
  | .drw m c g _ => [g, c, m]
def jn (G : Hp) : List Mo → Hp
  | [] => G
  | o :: M => o.put (jn G M)
def keys : List Mo → List Addr
  | [] => []
  | o :: M => o.keys ++ keys M
/-- all own objects stand apart, and the visible heap knows none of them -/
structure Dj (G : Hp) (M : List Mo) : Prop where
  nd : (keys M).Nodup
  out : ∀ a ∈ keys M, G a = none

theorem put_out {o : Mo} {H : Hp} {a : Addr} (h : a ∉ o.keys) : o.put H a = H a := by
  cases o with
  | lst p xs => exact upd_ne fun e => h (by rw [e]; exact List.mem_singleton.mpr rfl)
  | dK p kvs => exact upd_ne fun e => h (by rw [e]; exact List.mem_singleton.mpr rfl)
  | ins x dx C fs =>
    have h1 : a ≠ x := fun e => h (by rw [e]; simp [Mo.keys])
    have h2 : a ≠ dx := fun e => h (by rw [e]; simp [Mo.keys])
    exact (upd_ne h1).trans (upd_ne h2)
  | drw m c g d =>
    have h1 : a ≠ g := fun e => h (by rw [e]; simp [Mo.keys])
    have h2 : a ≠ c := fun e => h (by rw [e]; simp [Mo.keys])
    have h3 : a ≠ m := fun e => h (by rw [e]; simp [Mo.keys])
    exact ((upd_ne h1).trans (upd_ne h2)).trans (upd_ne h3)
/-- inside, what a unit lays does not hang on the heap below -/
theorem put_in {o : Mo} {H H' : Hp} {a : Addr} (h : a ∈ o.keys) : o.put H a = o.put H' a := by
  cases o with
  | lst p xs =>
    have e : a = p := List.mem_singleton.mp h
    subst e
    exact upd_same.trans upd_same.symm
  | dK p kvs =>
    have e : a = p := List.mem_singleton.mp h
    subst e
    exact upd_same.trans upd_same.symm
  | ins x dx C fs =>
    show upd (upd H dx (.own x)) x (.ins C dx fs) a = upd (upd H' dx (.own x)) x (.ins C dx fs) a
    by_cases e : a = x
    · subst e
      exact upd_same.trans upd_same.symm
    · have e2 : a = dx := by
        have h : a ∈ [x, dx] := h
        simp at h
        exact h.resolve_left e
      subst e2
      rw [upd_ne e, upd_ne e, upd_same, upd_same]
  | drw m c g d =>
    show upd (upd (upd H m _) c _) g _ a = upd (upd (upd H' m _) c _) g _ a
    by_cases e : a = g
    · subst e
      exact upd_same.trans upd_same.symm
    · rw [upd_ne e, upd_ne e]
      by_cases e1 : a = c
      · subst e1
        exact upd_same.trans upd_same.symm
      · rw [upd_ne e1, upd_ne e1]
        have e2 : a = m := by
          have h : a ∈ [g, c, m] := h
          simp at h
          exact (h.resolve_left e).resolve_left e1
        subst e2
        exact upd_same.trans upd_same.symm
theorem put_some {o : Mo} {H : Hp} {a : Addr} (h : a ∈ o.keys) : ∃ u, o.put H a = some u := by
  cases o with
  | lst p xs =>
    have e : a = p := List.mem_singleton.mp h
    subst e
    exact ⟨_, upd_same⟩
  | dK p kvs =>
    have e : a = p := List.mem_singleton.mp h
    subst e
    exact ⟨_, upd_same⟩
  | ins x dx C fs =>
    show ∃ u, upd (upd H dx (.own x)) x (.ins C dx fs) a = some u
    by_cases e : a = x
    · subst e
      exact ⟨_, upd_same⟩
    · have e2 : a = dx := by
        have h : a ∈ [x, dx] := h
        simp at h
        exact h.resolve_left e
      subst e2
      exact ⟨_, (upd_ne e).trans upd_same⟩
  | drw m c g d =>
    show ∃ u, upd (upd (upd H m _) c _) g _ a = some u
    by_cases e : a = g
    · subst e
      exact ⟨_, upd_same⟩
    · by_cases e1 : a = c
      · subst e1
        exact ⟨_, (upd_ne e).trans upd_same⟩
      · have e2 : a = m := by
          have h : a ∈ [g, c, m] := h
          simp at h
          exact (h.resolve_left e).resolve_left e1
        subst e2
        exact ⟨_, (upd_ne e).trans ((upd_ne e1).trans upd_same)⟩
theorem jn_out {G : Hp} : ∀ {M : List Mo} {a : Addr}, a ∉ keys M → jn G M a = G a
  | [], _, _ => rfl
  | o :: M, a, h => by
    have h1 : a ∉ o.keys := fun q => h (List.mem_append.mpr (.inl q))
    have h2 : a ∉ keys M := fun q => h (List.mem_append.mpr (.inr q))
    exact (put_out h1).trans (jn_out h2)
theorem jn_in {G G' : Hp} : ∀ {M : List Mo} {a : Addr}, a ∈ keys M → jn G M a = jn G' M a
  | [], _, h => by cases h
  | o :: M, a, h => by
    by_cases h1 : a ∈ o.keys
    · exact put_in h1
    · have h2 : a ∈ keys M := (List.mem_append.mp h).resolve_left h1
      exact (put_out h1).trans ((jn_in h2).trans (put_out h1).symm)
theorem jn_some {G : Hp} : ∀ {M : List Mo} {a : Addr}, a ∈ keys M → ∃ u, jn G M a = some u
  | [], _, h => by cases h
  | o :: M, a, h => by
    by_cases h1 : a ∈ o.keys
    · exact put_some h1
    · have h2 : a ∈ keys M := (List.mem_append.mp h).resolve_left h1
      obtain ⟨u, e⟩ := jn_some (G := G) h2
      exact ⟨u, (put_out h1).trans e⟩
theorem jn_none {G : Hp} {M : List Mo} {a : Addr} (h : jn G M a = none) : a ∉ keys M ∧ G a = none := by
  have h1 : a ∉ keys M := fun q => by
    obtain ⟨u, e⟩ := jn_some (G := G) q
    rw [h] at e
    cases e
  exact ⟨h1, (jn_out h1).symm.trans h⟩
theorem Dj.no {G : Hp} {M : List Mo} (D : Dj G M) {a : Addr} {o : HO} (h : G a = some o) : a ∉ keys M := fun q => by
  rw [D.out a q] at h
  cases h
theorem Dj.get {G : Hp} {M : List Mo} (D : Dj G M) {a : Addr} {o : HO} (h : G a = some o) : jn G M a = some o := (jn_out (D.no h)).trans h
theorem Dj.ex {G : Hp} {M : List Mo} (D : Dj G M) : Ex G (jn G M) := fun _ _ h => D.get h
theorem jn_ext {H H' : Hp} (h : ∀ a, H a = H' a) : H = H' := funext h
/-- a new visible object -/
theorem jn_new {G : Hp} {M : List Mo} {p : Addr} {o : HO} (h : p ∉ keys M) : upd (jn G M) p o = jn (upd G p o) M := by
  funext a
  by_cases ha : a = p
  · subst ha
    rw [upd_same, jn_out h, upd_same]
  · rw [upd_ne ha]
    by_cases hk : a ∈ keys M
    · exact jn_in hk
    · rw [jn_out hk, jn_out hk, upd_ne ha]
theorem Dj.new {G : Hp} {M : List Mo} {p : Addr} {o : HO} (D : Dj G M) (h : p ∉ keys M) : Dj (upd G p o) M :=
  ⟨D.nd, fun a ha => by
    have q : a ≠ p := fun e => h (by rw [← e]; exact ha)
    rw [upd_ne q]
    exact D.out a ha⟩
theorem Dj.mk1 {G : Hp} {M : List Mo} {o : Mo} (D : Dj G M) (h : ∀ a ∈ o.keys, jn G M a = none) (hn : o.keys.Nodup) : Dj G (o :: M) := by
  refine ⟨List.nodup_append.mpr ⟨hn, D.nd, fun a ha b hb e => ?_⟩, fun a ha => ?_⟩
  · subst e
    exact (jn_none (h a ha)).1 hb
  · rcases List.mem_append.mp ha with q | q
    · exact (jn_none (h a q)).2
    · exact D.out a q
theorem Dj.tail {G : Hp} {M : List Mo} {o : Mo} (D : Dj G (o :: M)) : Dj G M :=
  ⟨(List.nodup_append.mp D.nd).2.1, fun a ha => D.out a (List.mem_append.mpr (.inr ha))⟩
theorem Dj.head {G : Hp} {M : List Mo} {o : Mo} (D : Dj G (o :: M)) : ∀ a ∈ o.keys, a ∉ keys M := fun a ha hb =>
  (List.nodup_append.mp D.nd).2.2 a ha a hb rfl
theorem Dj.swap {G : Hp} {M : List Mo} {o o' : Mo} (D : Dj G (o :: M)) (h : o'.keys = o.keys) : Dj G (o' :: M) := by
  refine ⟨?_, fun a ha => D.out a ?_⟩
  · show (o'.keys ++ keys M).Nodup
    rw [h]
    exact D.nd
  · have ha : a ∈ o'.keys ++ keys M := ha
    rw [h] at ha
    exact ha
theorem Dj.keep {G G' : Hp} {M : List Mo} (D : Dj G M) (h : ∀ a ∈ keys M, G' a = none) : Dj G' M := ⟨D.nd, h⟩
/-- from own to visible -/
theorem jn_show {G : Hp} {M : List Mo} {o : Mo} (D : Dj G (o :: M)) : jn G (o :: M) = jn (o.put G) M := by
  funext a
  show o.put (jn G M) a = _
  by_cases h : a ∈ o.keys
  · rw [jn_out (D.head a h)]
    exact put_in h
  · rw [put_out h]
    by_cases hk : a ∈ keys M
    · exact jn_in hk
    · rw [jn_out hk, jn_out hk, put_out h]
theorem Dj.show {G : Hp} {M : List Mo} {o : Mo} (D : Dj G (o :: M)) : Dj (o.put G) M ∧ Ex G (o.put G) := by
  refine ⟨⟨D.tail.nd, fun a ha => ?_⟩, fun a u e => ?_⟩
  · have h : a ∉ o.keys := fun q => D.head a q ha
    rw [put_out h]
    exact D.tail.out a ha
  · have h : a ∉ o.keys := fun q => by
      rw [D.out a (List.mem_append.mpr (.inl q))] at e
      cases e
    rw [put_out h]
    exact e
/-- the order of own objects does not matter -/
theorem jn_comm {G : Hp} {M : List Mo} {o u : Mo} (D : Dj G (o :: u :: M)) : jn G (o :: u :: M) = jn G (u :: o :: M) := by
  funext a
  show o.put (u.put (jn G M)) a = u.put (o.put (jn G M)) a
  have hd : ∀ a ∈ o.keys, a ∉ u.keys := fun a ha hb => D.head a ha (List.mem_append.mpr (.inl hb))
  by_cases h : a ∈ o.keys
  · rw [put_out (hd a h)]
    exact put_in h
  · rw [put_out h]
    by_cases h2 : a ∈ u.keys
    · exact put_in h2
    · rw [put_out h2, put_out h2, put_out h]
theorem Dj.comm {G : Hp} {M : List Mo} {o u : Mo} (D : Dj G (o :: u :: M)) : Dj G (u :: o :: M) := by
  have p : List.Perm (o.keys ++ (u.keys ++ keys M)) (u.keys ++ (o.keys ++ keys M)) := by
    rw [← List.append_assoc, ← List.append_assoc]
    exact List.Perm.append_right _ List.perm_append_comm
  exact ⟨p.nodup_iff.mp D.nd, fun a ha => D.out a (p.mem_iff.mpr ha)⟩

/-! ### the frame rule -/
section
variable {P : Program} {w : World} {K : PySem.W.Frag} {mg : Str → Option Value} {base : Heap}
/-- the dict of an own instance is own -/
theorem own_of {G : Hp} : ∀ {M : List Mo} {b x : Addr}, Dj G M → b ∈ keys M → jn G M b = some (.own x) → ∃ C fs, jn G M x = some (.ins C b fs) ∧ x ∈ keys M
  | [], _, _, _, h, _ => by cases h
  | o :: M, b, x, D, h, e => by
    by_cases h1 : b ∈ o.keys
    · cases o with
      | lst p xs =>
        have q : b = p := List.mem_singleton.mp h1
        subst q
        have e : upd (jn G M) b (.lst xs) b = some (.own x) := e
        rw [upd_same] at e
        cases e
      | dK p kvs =>
        have q : b = p := List.mem_singleton.mp h1
        subst q
        have e : upd (jn G M) b (.dK kvs) b = some (.own x) := e
        rw [upd_same] at e
        cases e
      | ins y dx C fs =>
        have e : upd (upd (jn G M) dx (.own y)) y (.ins C dx fs) b = some (.own x) := e
        by_cases q : b = y
        · subst q
          rw [upd_same] at e
          cases e
        · have q2 : b = dx := by
            have h1 : b ∈ [y, dx] := h1
            simp at h1
            exact h1.resolve_left q
          subst q2
          rw [upd_ne q, upd_same] at e
          cases e
          exact ⟨C, fs, upd_same, List.mem_append.mpr (.inl (by simp [Mo.keys]))⟩
      | drw m c g d =>
        have e : upd (upd (upd (jn G M) m _) c _) g _ b = some (.own x) := e
        by_cases q : b = g
        · subst q
          rw [upd_same] at e
          cases e
        · rw [upd_ne q] at e
          by_cases q1 : b = c
          · subst q1
            rw [upd_same] at e
            cases e
          · rw [upd_ne q1] at e
            have q2 : b = m := by
              have h : b ∈ [g, c, m] := h1
              simp at h
              exact (h.resolve_left q).resolve_left q1
            subst q2
            rw [upd_same] at e
            cases e
    · have h2 : b ∈ keys M := (List.mem_append.mp h).resolve_left h1
      have e : o.put (jn G M) b = some (.own x) := e
      rw [put_out h1] at e
      obtain ⟨C, fs, e2, hx⟩ := own_of D.tail h2 e
      have hx1 : x ∉ o.keys := fun q => D.head x q hx
      exact ⟨C, fs, (put_out hx1).trans e2, List.mem_append.mpr (.inr hx)⟩
/-- what stands at an own address -/
theorem own_kind {G : Hp} : ∀ {M : List Mo} {b : Addr}, Dj G M → b ∈ keys M →
    (∃ xs, jn G M b = some (.lst xs)) ∨ (∃ kvs, jn G M b = some (.dK kvs)) ∨ (∃ C dx fs, jn G M b = some (.ins C dx fs) ∧ dx ∈ keys M) ∨ ∃ x, jn G M b = some (.own x)
  | [], _, _, h => by cases h
  | o :: M, b, D, h => by
    by_cases h1 : b ∈ o.keys
    · cases o with
      | lst p xs =>
        have q : b = p := List.mem_singleton.mp h1
        subst q
        exact .inl ⟨xs, upd_same⟩
      | dK p kvs =>
        have q : b = p := List.mem_singleton.mp h1
        subst q
        exact .inr (.inl ⟨kvs, upd_same⟩)
      | ins y dx C fs =>
        by_cases q : b = y
        · subst q
          exact .inr (.inr (.inl ⟨C, dx, fs, upd_same, List.mem_append.mpr (.inl (by simp [Mo.keys]))⟩))
        · have q2 : b = dx := by
            have h1 : b ∈ [y, dx] := h1
            simp at h1
            exact h1.resolve_left q
          subst q2
          exact .inr (.inr (.inr ⟨y, (upd_ne q).trans upd_same⟩))
      | drw m c g d =>
        by_cases q : b = g
        · subst q
          exact .inl ⟨_, upd_same⟩
        · by_cases q1 : b = c
          · subst q1
            exact .inl ⟨_, (upd_ne q).trans upd_same⟩
          · have q2 : b = m := by
              have h : b ∈ [g, c, m] := h1
              simp at h
              exact (h.resolve_left q).resolve_left q1
            subst q2
            exact .inr (.inl ⟨_, (upd_ne q).trans ((upd_ne q1).trans upd_same)⟩)
    · have h2 : b ∈ keys M := (List.mem_append.mp h).resolve_left h1
      have e : jn G (o :: M) b = jn G M b := put_out h1
      rw [e]
      rcases own_kind D.tail h2 with q | q | q | q
      · exact .inl q
      · exact .inr (.inl q)
      · obtain ⟨C, dx, fs, q1, q2⟩ := q
        exact .inr (.inr (.inl ⟨C, dx, fs, q1, List.mem_append.mpr (.inr q2)⟩))
      · exact .inr (.inr (.inr q))
theorem hok_vis {G : Hp} {M : List Mo} {h : Heap} (D : Dj G M) (ok : HOk P w (jn G M) h) : HOk P w G h := fun a o e => by
  refine (ok a o (D.get e)).stay (fun b u _ q => q) (fun b q => ?_) fun b xs q => ?_
  · by_cases hb : b ∈ keys M
    · obtain ⟨C, fs, _, hx⟩ := own_of D hb q
      exact absurd hx (D.no e)
    · rw [jn_out hb] at q
      exact q
  · by_cases hb : b ∈ keys M
    · rcases own_kind D hb with ⟨_, z⟩ | ⟨_, z⟩ | ⟨_, _, _, z, _⟩ | ⟨_, z⟩ <;> (rw [z] at q; cases q)
    · rw [jn_out hb] at q
      exact q
theorem un_jn {fs : List Addr} {G G' : Hp} {M : List Mo} {h h' : Heap} (D : Dj G M) (ok : HOk P w (jn G M) h) (u : Un fs [] G G' h h') : Dj G' M ∧ Un fs [] (jn G M) (jn G' M) h h' := by
  have D' : Dj G' M := D.keep fun a ha => by
    obtain ⟨o, eo⟩ : ∃ o, h.get? a = some o := by
      rcases own_kind D ha with ⟨xs, z⟩ | ⟨kvs, z⟩ | ⟨C, dx, fs', z, hdx⟩ | ⟨y, z⟩
      · obtain ⟨_, _, _, _, e1⟩ := ok a _ z
        exact ⟨_, e1⟩
      · obtain ⟨_, _, _, _, _, _, _, e1, _⟩ := ok a _ z
        exact ⟨_, e1⟩
      · obtain ⟨_, _, _, e1, _⟩ := ok a _ z
        exact ⟨_, e1⟩
      · obtain ⟨ob, e1⟩ := ok a _ z
        exact ⟨_, e1⟩
    exact u.free a o eo (D.out a ha) (by simp)
  refine ⟨D', ⟨fun b o e n hb hx => u.keep b o e (jn_none n).2 hb hx, fun b o e n hb hx => u.slot b o e (jn_none n).2 hb hx, fun b o e n hx => ?_, u.there, fun b xs q => ?_, fun b o v q => ?_, fun b ps q => ?_⟩⟩
  · rw [jn_out (jn_none n).1]
    exact u.free b o e (jn_none n).2 hx
  · by_cases hb : b ∈ keys M
    · rw [jn_in hb]
      exact q
    · rw [jn_out hb] at q ⊢
      exact u.tups b xs q
  · by_cases hb : b ∈ keys M
    · rw [jn_in hb]
      exact q
    · rw [jn_out hb] at q ⊢
      exact u.frzs b o v q
  · by_cases hb : b ∈ keys M
    · exact ⟨#[], by rw [jn_in hb, q]; simp⟩
    · rw [jn_out hb] at q ⊢
      exact u.tbls b ps q
theorem hok_jn {fs : List Addr} {G G' : Hp} {M : List Mo} {h h' : Heap} (D : Dj G M) (D' : Dj G' M) (ok : HOk P w (jn G M) h) (hfs : ∀ b ∈ fs, jn G M b = none) (u : Un fs [] G G' h h') (ok' : HOk P w G' h') : HOk P w (jn G' M) h' := fun b o e => by
  by_cases hb : b ∈ keys M
  · have e0 : jn G M b = some o := (jn_in hb).trans e
    have kp : ∀ c ∈ keys M, ∀ v, h.get? c = some v → h'.get? c = some v := fun c hc v q => u.keep c v q (D.out c hc) (fun z => by
      obtain ⟨y, ey⟩ := jn_some (G := G) hc
      rw [hfs c z] at ey
      cases ey) (by simp)
    have x := ok b o e0
    rcases own_kind D hb with ⟨xs, z⟩ | ⟨kvs, z⟩ | ⟨C, dx, fs', z, hdx⟩ | ⟨y, z⟩
    · rw [z] at e0
      cases e0
      obtain ⟨z1, its, n, r, e1⟩ := x
      exact ⟨z1, its, n, r, kp b hb _ e1⟩
    · rw [z] at e0
      cases e0
      obtain ⟨z1, y, vs, r, ob, es, ep, e1, c⟩ := x
      exact ⟨z1, y, vs, r, ob, es, ep, kp b hb _ e1, c⟩
    · rw [z] at e0
      cases e0
      obtain ⟨d, z1, ne, e1, mA, ⟨od, es, ep, e2, c⟩, r⟩ := x
      exact ⟨(jn_in hdx).trans d, z1, ne, kp b hb _ e1, mA, ⟨od, es, ep, kp dx hdx _ e2, c⟩, r⟩
    · rw [z] at e0
      cases e0
      obtain ⟨ob, e1⟩ := x
      exact ⟨ob, kp b hb _ e1⟩
  · have e1 : G' b = some o := (jn_out hb).symm.trans e
    exact (ok' b o e1).stay (fun c v _ q => q) (fun c q => D'.get q) fun c xs q => D'.get q
/-- the promise, with own objects around that the def does not see -/
def Frm (sp : Sp) : Sp := fun vs H Q E => ∃ G M, H = jn G M ∧ Dj G M ∧ sp vs G (fun v G' => Dj G' M → Q v (jn G' M)) E
theorem FnOk.frm {k : Nat} {f : Addr} {fd : FuncData} {ps : List Str} {sp : Sp} (F : FnOk P w K mg base CX0 k f fd ps sp) : FnOk P w K mg base CX0 k f fd ps (Frm sp) := by
  refine ⟨fun vs H Q E h => ?_, fun A outer s H args us vs Q E hr e0 hb hv h => ?_⟩
  · obtain ⟨G, M, _, _, q⟩ := h
    exact F.len vs G _ E q
  · obtain ⟨G, M, rfl, D, q⟩ := h
    have e1 : Env0 P w K mg base A outer s G := ⟨e0.frames, e0.mod, fun b o z => ⟨(e0.bs b o z).1, (jn_none (e0.bs b o z).2).2⟩, e0.bsz, e0.funs, fun b hb => (jn_none (e0.frf b hb)).2, hok_vis D e0.hok, e0.bare⟩
    refine codeAny_mono (F.run A outer s G args us vs _ E hr e1 hb hv q) fun r s' hq => ?_
    cases r with
    | error e => exact hq.elim
    | ok fl =>
      cases fl with
      | next => exact False.elim hq
      | brk => exact False.elim hq
      | cont => exact False.elim hq
      | ret u =>
        obtain ⟨v, G', os, bare, un, hok, r, q'⟩ := hq
        obtain ⟨D', un'⟩ := un_jn D e0.hok un
        exact ⟨v, jn G' M, os, bare, un', hok_jn D D' e0.hok e0.frf un hok, r, q' D'⟩
end
end Td

/-! L2: defs, methods, operators of own classes by positional promises; operators of any kind. -/
namespace Td
open PySem PySem.Spec PyProof.Rows L2

/-! ### contracts -/
structure Df (P : Program) (w : World) (K : PySem.W.Frag) (mg : Str → Option Value) (base : Heap) (CX : CXT) (k : Nat) (x : Str) (sp : Sp) : Prop where
  ex : ∃ f, FnR P w K mg base CX k f sp ∧ mg x = some (.ref f) ∧ PySem.W.keepIn K (.ref f) = true
/-- a method of the class at C -/
structure Mt (P : Program) (w : World) (K : PySem.W.Frag) (mg : Str → Option Value) (base : Heap) (CX : CXT) (k : Nat) (C : Addr) (m : Str) (sp : Sp) : Prop where
  ex : ∃ f, FnR P w K mg base CX k f sp ∧ Meth K C m f ∧ PySem.W.fnIn K f = true
structure Ini (P : Program) (w : World) (K : PySem.W.Frag) (mg : Str → Option Value) (base : Heap) (CX : CXT) (k : Nat) (x : Str) (C : Addr) (sp : Sp) : Prop where
  ex : ∃ f, FnR P w K mg base CX k f sp ∧ Mk K C f ∧ mg x = some (.ref C)
section
variable {P : Program} {w : World} {K : PySem.W.Frag} {mg : Str → Option Value} {base : Heap}
theorem FnR.frm {k : Nat} {f : Addr} {sp : Sp} (F : FnR P w K mg base CX0 k f sp) : FnR P w K mg base CX0 k f (Frm sp) := by
  intro A outer s H us vs Q E hr e0 hv h
  obtain ⟨G, M, rfl, D, q⟩ := h
  have e1 : Env0 P w K mg base A outer s G := ⟨e0.frames, e0.mod, fun b o z => ⟨(e0.bs b o z).1, (jn_none (e0.bs b o z).2).2⟩, e0.bsz, e0.funs, fun b hb => (jn_none (e0.frf b hb)).2, hok_vis D e0.hok, e0.bare⟩
  refine codeAny_mono (F A outer s G us vs _ E hr e1 hv q) fun r s' hq => ?_
  cases r with
  | error e => exact hq.elim
  | ok fl =>
    cases fl with
    | next => exact False.elim hq
    | brk => exact False.elim hq
    | cont => exact False.elim hq
    | ret u =>
      obtain ⟨v, G', os, bare, un, hok, r, q'⟩ := hq
      obtain ⟨D', un'⟩ := un_jn D e0.hok un
      exact ⟨v, jn G' M, os, bare, un', hok_jn D D' e0.hok e0.frf un hok, r, q' D'⟩
theorem Df.frm {k : Nat} {x : Str} {sp : Sp} (D : Df P w K mg base CX0 k x sp) : Df P w K mg base CX0 k x (Frm sp) := by
  obtain ⟨f, F, r⟩ := D.ex
  exact ⟨f, FnR.frm F, r⟩
theorem Mt.frm {k : Nat} {C : Addr} {m : Str} {sp : Sp} (D : Mt P w K mg base CX0 k C m sp) : Mt P w K mg base CX0 k C m (Frm sp) := by
  obtain ⟨f, F, r⟩ := D.ex
  exact ⟨f, FnR.frm F, r⟩
end

def tCl (sp : Sp) (E : XK) (t : TA) : TE := fun σ H Q => t σ H fun vs H1 => sp vs H1 Q E
def tMt (X : Cx) (C : Addr) (m : Str) (sp : Sp) (E : XK) (ta : TE) (t : TA) : TE := fun σ H Q => ta σ H fun x H1 => ∃ a dx fs, x = .ref a ∧ H1 a = some (.ins C dx fs) ∧ fs.lookup m = none ∧ t σ H1 fun vs H2 => sp (x :: vs) H2 Q E
section
variable {X : Cx} {CX : CXT} {k n : Nat} {C : Addr} {sp : Sp} {E : XK} {x m : Str} {e o : Expr} {es : List Expr} {ta : TE} {t : TA} {p pos apos : Pos}
theorem pe_df (D : Df X.prog X.w X.K X.mg X.base CX k x sp) (hr : Room n X.A) (hx : Passes CX X E) (ha : PA X (e :: es) t) (hle : k ≤ n := by decide) (hg : Gl X x := by rfl) (hdb : (x == ("__debug__" : Str)) = false := by decide)
    (he : starEach (e :: es) X.env = (false, eval e X.env) :: starEach es X.env := by rfl) (hpl : (backTo pos (starEach es X.env)).any (·.1) = false := by rfl) : PE X (.Call (.Name x p) (e :: es) [] pos) (tCl sp E t) := by
  obtain ⟨f, F, hm, hk⟩ := D.ex
  refine ⟨fun pins s σ H Q I h => ?_⟩
  refine wpAny_Call_Name_kw (ld_glob I hg hm ?_ hdb)
  refine PySem.W.callWith_K (h₀ := X.base) I.ok.mod.kin hk (thn (ha.run pos pins s σ H _ I h) fun us s1 ⟨vs, H1, I1, r, q⟩ => ⟨I1.kIn, ?_⟩) he hpl
  exact wpAny_call (run_fnR F (hr.mono hle) hx I1 r q)
theorem pe_df0 (D : Df X.prog X.w X.K X.mg X.base CX k x sp) (hr : Room n X.A) (hx : Passes CX X E) (hle : k ≤ n := by decide) (hg : Gl X x := by rfl) (hdb : (x == ("__debug__" : Str)) = false := by decide) : PE X (.Call (.Name x p) [] [] pos) (tCl sp E tNil) := by
  obtain ⟨f, F, hm, hk⟩ := D.ex
  refine ⟨fun pins s σ H Q I h => ?_⟩
  refine wpAny_Call_Name_kw (ld_glob I hg hm ?_ hdb)
  exact PySem.W.callWith_K0 I.kIn hk (wpAny_call (run_fnR (us := []) F (hr.mono hle) hx I .nil h))
theorem pe_mk (D : Ini X.prog X.w X.K X.mg X.base CX k x C sp) (hr : Room n X.A) (hx : Passes CX X E) (ha : PA X (e :: es) t) (hle : k + 1 ≤ n := by decide) (hg : Gl X x := by rfl) (hdb : (x == ("__debug__" : Str)) = false := by decide)
    (he : starEach (e :: es) X.env = (false, eval e X.env) :: starEach es X.env := by rfl) (hpl : (backTo pos (starEach es X.env)).any (·.1) = false := by rfl) : PE X (.Call (.Name x p) (e :: es) [] pos) (StX.tMakeR C sp E t) := by
  obtain ⟨f, F, M, hm⟩ := D.ex
  exact StX.pe_makeR M F (hr.mono hle) hg hm hx ha hdb he hpl
theorem pe_mt {pl : Sem Bool} (he : PE X o ta) (c : Cls X.K C) (D : Mt X.prog X.w X.K X.mg X.base CX k C m sp) (hr : Room n X.A) (hx : Passes CX X E) (ha : PA X (e :: es) t) (hle : k ≤ n := by decide)
    (hst : starEach (e :: es) X.env = (false, eval e X.env) :: starEach es X.env := by rfl) (hpl : (backTo pos (starEach es X.env)).any (·.1) = false := by rfl)
    (ht : eval (.Call (.Attribute o m apos) (e :: es) [] pos) X.env = (do
      let ov ← eval o X.env
      standAt apos.atName
      let (f, first) ← holding [ov] (getMethod ov m pl)
      callWith pos f first (backTo pos (starEach (e :: es) X.env)) (backToKw pos (keywordEach [] X.env))) := by rfl) :
    PE X (.Call (.Attribute o m apos) (e :: es) [] pos) (tMt X C m sp E ta t) := by
  obtain ⟨f, F, hm, _⟩ := D.ex
  refine ⟨fun pins s σ H Q I h => ?_⟩
  refine PySem.W.methodCall_KW (pl := pl) (thn (he.run pins s σ H _ I h) fun u s1 ⟨x, H1, I1, rx, a, dx, fs, ex, ea, l, q⟩ => ?_) ht
  subst ex
  obtain rfl : u = Value.ref a := rx
  refine getmeth_ok I1 ea c hm l ?_
  refine PySem.W.callWith_K (first := [.ref a]) (h₀ := X.base) I.ok.mod.kin hm.kp (thn (ha.run pos pins s1 σ H1 _ I1 q) fun us s2 ⟨vs, H2, I2, r, q2⟩ => ⟨I2.kIn, ?_⟩) hst hpl
  exact wpAny_call (run_fnR (us := .ref a :: us) (vs := .ref a :: vs) F (hr.mono hle) hx I2 (.cons rfl r) q2)
theorem pe_mt0 {pl : Sem Bool} (he : PE X o ta) (c : Cls X.K C) (D : Mt X.prog X.w X.K X.mg X.base CX k C m sp) (hr : Room n X.A) (hx : Passes CX X E) (hle : k ≤ n := by decide)
    (ht : eval (.Call (.Attribute o m apos) [] [] pos) X.env = (do
      let ov ← eval o X.env
      standAt apos.atName
      let (f, first) ← holding [ov] (getMethod ov m pl)
      callWith pos f first (backTo pos (starEach [] X.env)) (backToKw pos (keywordEach [] X.env))) := by rfl) :
    PE X (.Call (.Attribute o m apos) [] [] pos) (tMt X C m sp E ta tNil) := by
  obtain ⟨f, F, hm, _⟩ := D.ex
  refine ⟨fun pins s σ H Q I h => ?_⟩
  refine PySem.W.methodCall_KW (pl := pl) (thn (he.run pins s σ H _ I h) fun u s1 ⟨x, H1, I1, rx, a, dx, fs, ex, ea, l, q⟩ => ?_) ht
  subst ex
  obtain rfl : u = Value.ref a := rx
  refine getmeth_ok I1 ea c hm l ?_
  exact PySem.W.callWith_K0 (first := [.ref a]) I1.kIn hm.kp (wpAny_call (run_fnR (us := [.ref a]) (vs := [.ref a]) F (hr.mono hle) hx I1 (.cons rfl .nil) q))
end

/-! ### operators of own classes -/
section
variable {X : Cx} {CX : CXT} {k n : Nat} {C : Addr} {sp : Sp} {E : XK} {f : Addr}
theorem cback {pins : List (Addr × Obj)} {σ : L2.St} {Q : VK} {v : Value} {s' : Shared} (h : EP X pins σ Q v s') : PySem.W.CmpBack (EP X pins σ Q) v s' := by
  obtain ⟨z, H', I, r, q⟩ := id h
  cases z <;> first | (obtain ⟨_, rfl⟩ := r; exact h) | (cases r; exact h)
/-- x op y, x and y of the same class -/
def rOw2 (X : Cx) (C : Addr) (sp : Sp) (E : XK) : R2 := fun x y H Q => ∃ a b, x = .ref a ∧ y = .ref b ∧ StX.InsC X H a C ∧ StX.InsC X H b C ∧ sp [x, y] H Q E
theorem op_bin2 {op : Operator} (D : Mt X.prog X.w X.K X.mg X.base CX k C (PySem.dunder op.info.2) sp) (hc : PySem.W.selfFirst X.K C = true) (hr : Room n X.A) (hx : Passes CX X E) (hle : k ≤ n := by decide) : OpR X (binaryOp op) (rOw2 X C sp E) := by
  obtain ⟨f, F, hm, _⟩ := D.ex
  intro pins s σ H x y v u Q I rx ry h
  obtain ⟨a, b, rfl, rfl, ha, hb, q⟩ := h
  cases (show v = Value.ref a from rx)
  cases (show u = Value.ref b from ry)
  obtain ⟨ox, od, J, _⟩ := StX.insC_at I ha
  obtain ⟨oy, od', J', _⟩ := StX.insC_at I hb
  obtain ⟨m, hF⟩ := I.fr
  refine PySem.W.binop_K hF I.ok.mod.kin J J'.type hc hm.at_ hm.fn ?_
  exact wpAny_mono (wpAny_call (run_fnR (us := [.ref a, .ref b]) (vs := [.ref a, .ref b]) F (hr.mono hle) hx I (.cons rfl (.cons rfl .nil)) q)) (fun w s' z => cback z) fun _ _ x => x
/-- x op y by a comparison of x's class; y of the same class -/
theorem op_cmp2 {op : CmpOp} (D : Mt X.prog X.w X.K X.mg X.base CX k C (cmpInfo op).2.1 sp) (hop : ∀ a b, compareOp op a b = richCompare op a b) (hn : PySem.W.notFirst X.K C (.ref C) = true) (hr : Room n X.A) (hx : Passes CX X E) (hle : k ≤ n := by decide) :
    OpR X (compareOp op) (rOw2 X C sp E) := by
  obtain ⟨f, F, hm, _⟩ := D.ex
  intro pins s σ H x y v u Q I rx ry h
  obtain ⟨a, b, rfl, rfl, ha, hb, q⟩ := h
  cases (show v = Value.ref a from rx)
  cases (show u = Value.ref b from ry)
  obtain ⟨ox, od, J, _⟩ := StX.insC_at I ha
  obtain ⟨oy, od', J', _⟩ := StX.insC_at I hb
  obtain ⟨m, hF⟩ := I.fr
  rw [hop]
  refine PySem.W.cmp_K (op := op) (tb := .ref C) hr.units0 hF I.ok.mod.kin J J'.type hn hm.at_ hm.fn ?_
  exact wpAny_mono (wpAny_call (run_fnR (us := [.ref a, .ref b]) (vs := [.ref a, .ref b]) F (hr.mono hle) hx I (.cons rfl (.cons rfl .nil)) q)) (fun w s' z => cback z) fun _ _ x => x
/-- v in x, x of an own class; the answer a bool -/
def rOwIn (X : Cx) (C : Addr) (neg : Bool) (sp : Sp) (E : XK) : R2 := fun y x H Q => ∃ a, x = .ref a ∧ StX.InsC X H a C ∧ sp [x, y] H (fun z H' => ∃ b, z = .bl b ∧ Q (.bl (if neg then !b else b)) H') E
theorem op_owIn (D : Mt X.prog X.w X.K X.mg X.base CX k C "__contains__" sp) (hr : Room n X.A) (hx : Passes CX X E) (hle : k ≤ n := by decide) : OpR X (compareOp .In) (rOwIn X C false sp E) := by
  obtain ⟨f, F, hm, _⟩ := D.ex
  intro pins s σ H y x v u Q I ry rx h
  obtain ⟨a, rfl, ha, q⟩ := h
  cases (show u = Value.ref a from rx)
  obtain ⟨ox, od, J, _⟩ := StX.insC_at I ha
  obtain ⟨m, hF⟩ := I.fr
  refine PySem.W.in_K hF I.ok.mod.kin J hm.at_ hm.fn ?_
  refine wpAny_mono (wpAny_call (run_fnR (us := [.ref a, v]) (vs := [.ref a, y]) F (hr.mono hle) hx I (.cons rfl (.cons ry .nil)) q)) (fun w s' z => ?_) fun _ _ x => x
  obtain ⟨z', H', I', rz, b, ez, qz⟩ := z
  subst ez
  cases (show w = Value.bool b from rz)
  exact wpAny_truthy_bool ⟨.bl b, H', I', rfl, qz⟩
theorem op_owNotIn (D : Mt X.prog X.w X.K X.mg X.base CX k C "__contains__" sp) (hr : Room n X.A) (hx : Passes CX X E) (hle : k ≤ n := by decide) : OpR X (compareOp .NotIn) (rOwIn X C true sp E) := by
  obtain ⟨f, F, hm, _⟩ := D.ex
  intro pins s σ H y x v u Q I ry rx h
  obtain ⟨a, rfl, ha, q⟩ := h
  cases (show u = Value.ref a from rx)
  obtain ⟨ox, od, J, _⟩ := StX.insC_at I ha
  obtain ⟨m, hF⟩ := I.fr
  refine PySem.W.notIn_K hF I.ok.mod.kin J hm.at_ hm.fn ?_
  refine wpAny_mono (wpAny_call (run_fnR (us := [.ref a, v]) (vs := [.ref a, y]) F (hr.mono hle) hx I (.cons rfl (.cons ry .nil)) q)) (fun w s' z => ?_) fun _ _ x => x
  obtain ⟨z', H', I', rz, b, ez, qz⟩ := z
  subst ez
  cases (show w = Value.bool b from rz)
  exact wpAny_truthy_bool ⟨.bl (!b), H', I', rfl, qz⟩
/-- bool(x), x of an own class with __bool__ -/
def rOwB (X : Cx) (C : Addr) (sp : Sp) (E : XK) : List V → Hp → VK → Prop := fun xs H Q => ∃ a, xs = [.ref a] ∧ StX.InsC X H a C ∧ sp [.ref a] H (fun z H' => ∃ b, z = .bl b ∧ Q (.bl b) H') E
end

/-! ### x != y where the class has == of its own alone -/
section
variable {prog : Program} {w : World} {A : Around} {E : Value → Shared → Prop} {s : Shared} {K : PySem.W.Frag} {x C L f : Addr} {h0 : Heap} {m : Str → Option Value} {ox : Obj} {od : Option Obj} {name : Str} {b tb : Value}
theorem ne_slot : Slot "object" "__ne__" "object.__ne__" :=
  Slot.of (T := "object") (name := "__ne__") (owner := "object") (n := "__ne__") (by rw [typeLookup_type, builtinLookup_eq_fast]; kernel_rfl) (by decide +kernel) (by decide +kernel) (by decide +kernel)
    (.inl (by decide +kernel)) (by rw [isSubtype_type]; kernel_rfl)
theorem ifBound_B {M : Model} {id : String} {args : List Value} {Q : Option Value → Shared → Prop} (X : K.In s.heap) (I : PySem.W.InstAt s.heap x ox C od) (hs : PySem.W.findIn K (.ref C) name = some (some (.builtin id))) (hb : ∀ self, bindSpecial (.builtin id) self = pure (.builtin id, [self]))
    (h : wpAny M A (call (.builtin id) (.ref x :: args)) (fun v => Q (some v)) E s) : wpAny M A (callSpecialIfBound? (.ref x) name args) Q E s := by
  simp only [callSpecialIfBound?, bindSpecialIfBound?]
  refine wpAny_holding (wpAny_bind (wpAny_bind (wpAny_bind (I.type.here ((PySem.W.looks_findIn X hs).here ?_)))))
  refine wpAny_bind (wpAny_askSetting (wpAny_ite ?_))
  have fin : wpAny M A (call (.builtin id) ([.ref x] ++ args) >>= fun v => pure (some v)) Q E s := wpAny_bind (wpAny_mono h (fun v s' h' => wpAny_pure h') fun _ _ h' => h')
  split
  · exact wpAny_bind ((PySem.W.Looks.of_pure (hb _)).here (wpAny_pure (by exact fin)))
  · exact wpAny_tryCatch (wpAny_bind ((PySem.W.Looks.of_pure (hb _)).here (wpAny_pure (by exact fin))))
theorem kne_obj {Q : Value → Shared → Prop} (hu : A.in1.units < cLine) (X : K.In s.heap) (I : PySem.W.InstAt s.heap x ox C od) (hm : PySem.W.mroIn K C (.type "object") = some true) (hr : PySem.W.findIn K (.ref C) "__eq__" = some (some (.ref f))) (hf : PySem.W.isFn K (.ref f) = true)
    (h : wpAny (model prog w) A.in1 (call (.ref f) [.ref x, b]) (fun v s' => ∃ c, v = .bool c ∧ Q (.bool (!c)) s') E s) : wpAny (model prog w) A (call (.builtin "object.__ne__") [.ref x, b]) Q E s := by
  refine wpAny_call (codeAny_call_builtin ne_slot.plain F.cmpEntry_ne (PySem.W.check_slot (i := "object.__ne__") (owner := "object") (n := "__ne__") (by decide +kernel) (by decide +kernel) (I.type.andThen (PySem.W.looks_mroIn X hm)) (F.cmpArgs_ne _ _) ?_))
  unfold Builtin.«object.__ne__»
  refine wpAny_bind (m := slotArgs "__ne__" 1 _) (wpAny_pure ?_)
  refine wpAny_bind (m := cRoomFor _ _) (wpAny_cRoomFor hu ?_)
  refine wpAny_bind (m := callSpecialIfBound? (.ref x) (Str.ofString "__eq__") _) (PySem.W.ifBound_K X I hr hf (wpAny_mono h (fun r s' hq => ?_) fun _ _ y => y))
  obtain ⟨c, rfl, q⟩ := hq
  exact wpAny_bind (wpAny_truthy_bool (wpAny_pure q))
theorem ne_K {Q : Value → Shared → Prop} (hu : A.units + 1 < cLine) (X : K.In s.heap) (I : PySem.W.InstAt s.heap x ox C od) (hb : PySem.W.Looks (model prog w) s.heap (typeOf b) tb) (hn : PySem.W.notFirst K C tb = true)
    (hm : PySem.W.mroIn K C (.type "object") = some true) (hne : PySem.W.findIn K (.ref C) "__ne__" = some (some (.builtin "object.__ne__"))) (hr : PySem.W.findIn K (.ref C) "__eq__" = some (some (.ref f))) (hf : PySem.W.isFn K (.ref f) = true)
    (h : wpAny (model prog w) A.in1 (call (.ref f) [.ref x, b]) (fun v s' => ∃ c, v = .bool c ∧ Q (.bool (!c)) s') E s) : wpAny (model prog w) A (compareOp .NotEq (.ref x) b) Q E s := by
  have one : wpAny (model prog w) A (tryCompare (.ref x) "__ne__" b) (fun r s' => ∃ v, r = some v ∧ Q v s') E s := by
    unfold tryCompare
    refine wpAny_bind (ifBound_B X I hne ne_slot.bind ?_)
    refine wpAny_mono (kne_obj (Q := fun v s' => ∃ c, v = .bool c ∧ Q (.bool c) s') hu X I hm hr hf (wpAny_mono h (fun v s' hv => ?_) fun _ _ e => e)) (fun v s' hv => ?_) fun _ _ e => e
    · obtain ⟨c, rfl, q⟩ := hv
      exact ⟨c, rfl, !c, rfl, q⟩
    · obtain ⟨c, rfl, q⟩ := hv
      exact wpAny_pure ⟨_, rfl, q⟩
  show wpAny (model prog w) A (richCompare .NotEq (.ref x) b) Q E s
  unfold richCompare
  simp only [oneThing_ref]
  refine wpAny_holding (wpAny_bind (wpAny_cRoomFor (Nat.lt_of_succ_lt hu) ?_))
  refine wpAny_bind (I.type.here (wpAny_bind (hb.here ?_)))
  split
  · rename_i q
    have e : PySem.W.subIn K tb (.ref C) = some false := by
      rcases Bool.or_eq_true_iff.mp hn with e | e
      · rw [beq_iff_eq.mp e] at q; simp at q
      · exact beq_iff_eq.mp e
    refine wpAny_bind ((PySem.W.looks_subIn X e).here ?_)
    simp only [Bool.false_eq_true, if_false]
    refine wpAny_bind (wpAny_mono one (fun r s' z => ?_) fun _ _ e => e)
    obtain ⟨v, rfl, hq⟩ := z
    exact wpAny_pure hq
  · refine wpAny_bind (wpAny_pure ?_)
    simp only [Bool.false_eq_true, if_false]
    refine wpAny_bind (wpAny_mono one (fun r s' z => ?_) fun _ _ e => e)
    obtain ⟨v, rfl, hq⟩ := z
    exact wpAny_pure hq
end
section
variable {X : Cx} {CX : CXT} {k n : Nat} {C : Addr} {sp : Sp} {E : XK} {f : Addr}
/-- the class of a value, as a look says -/
def TyLk (X : Cx) (H : Hp) (y : V) (tb : Value) : Prop := ∀ (pins : List (Addr × Obj)) (σ : L2.St) (s : Shared) (u : Value), Inv X pins σ H s → RelV y u → PySem.W.Looks (model X.prog X.w) s.heap (typeOf u) tb
theorem tl_ins {H : Hp} {a : Addr} (h : StX.InsC X H a C) : TyLk X H (.ref a) (.ref C) := fun pins σ s u I r => by
  obtain ⟨ox, od, J, _⟩ := StX.insC_at I h
  cases (show u = Value.ref a from r)
  exact J.type
theorem tl_int {H : Hp} {i : Int} : TyLk X H (.int i) (.type "int") := fun pins σ s u I r => by
  obtain ⟨t, rfl⟩ := r
  exact PySem.W.Looks.of_pure rfl
theorem tl_str {H : Hp} {i : Str} : TyLk X H (.str i) (.type "str") := fun pins σ s u I r => by
  obtain ⟨t, rfl⟩ := r
  exact PySem.W.Looks.of_pure rfl
theorem tl_non {H : Hp} : TyLk X H .non (.type "NoneType") := fun pins σ s u I r => by
  cases r
  exact PySem.W.Looks.of_pure rfl
theorem tl_bl {H : Hp} {b : Bool} : TyLk X H (.bl b) (.type "bool") := fun pins σ s u I r => by
  cases r
  exact PySem.W.Looks.of_pure rfl
theorem tl_get {M : Model} {h : Heap} {a : Addr} {o : Obj} (e : h.get? a = some o) : PySem.W.Looks M h (typeOf (.ref a)) o.cls := fun A Q E s k q => by
  simp only [typeOf]
  exact wpAny_bind (wpAny_load (k _ _ e) (wpAny_pure q))
theorem tl_tup {H : Hp} {a : Addr} {xs : List V} (h : H a = some (.tup xs)) : TyLk X H (.ref a) (.type "tuple") := fun pins σ s u I r => by
  cases (show u = Value.ref a from r)
  obtain ⟨_, _, _, o, e, c, _⟩ := I.hok a _ h
  have q := tl_get (M := model X.prog X.w) e
  rw [c] at q
  exact q
theorem tl_lst {H : Hp} {a : Addr} {xs : List V} (h : H a = some (.lst xs)) : TyLk X H (.ref a) (.type "list") := fun pins σ s u I r => by
  cases (show u = Value.ref a from r)
  obtain ⟨_, _, _, _, e⟩ := I.hok a _ h
  exact tl_get (M := model X.prog X.w) e
/-- x op y by x's own def, y of any class that does not go first -/
def rOw1 (X : Cx) (C : Addr) (sp : Sp) (E : XK) : R2 := fun x y H Q => ∃ a tb, x = .ref a ∧ StX.InsC X H a C ∧ TyLk X H y tb ∧ PySem.W.notFirst X.K C tb = true ∧ sp [x, y] H Q E
theorem op_cmp1 {op : CmpOp} (D : Mt X.prog X.w X.K X.mg X.base CX k C (cmpInfo op).2.1 sp) (hop : ∀ a b, compareOp op a b = richCompare op a b) (hr : Room n X.A) (hx : Passes CX X E) (hle : k ≤ n := by decide) :
    OpR X (compareOp op) (rOw1 X C sp E) := by
  obtain ⟨f, F, hm, _⟩ := D.ex
  intro pins s σ H x y v u Q I rx ry h
  obtain ⟨a, tb, rfl, ha, hb, hn, q⟩ := h
  cases (show v = Value.ref a from rx)
  obtain ⟨ox, od, J, _⟩ := StX.insC_at I ha
  obtain ⟨m, hF⟩ := I.fr
  rw [hop]
  refine PySem.W.cmp_K (op := op) (tb := tb) hr.units0 hF I.ok.mod.kin J (hb _ _ _ _ I ry) hn hm.at_ hm.fn ?_
  exact wpAny_mono (wpAny_call (run_fnR (us := [.ref a, u]) (vs := [.ref a, y]) F (hr.mono hle) hx I (.cons rfl (.cons ry .nil)) q)) (fun w s' z => cback z) fun _ _ x => x
def rOwN (X : Cx) (C : Addr) (sp : Sp) (E : XK) : R2 := fun x y H Q => ∃ a tb, x = .ref a ∧ StX.InsC X H a C ∧ TyLk X H y tb ∧ PySem.W.notFirst X.K C tb = true ∧ sp [x, y] H (fun z H' => ∃ b, z = .bl b ∧ Q (.bl (!b)) H') E

/-- the callee runs one C call deeper -/
theorem run_fnR1 {pins : List (Addr × Obj)} {σ : L2.St} {H : Hp} {s : Shared} {Q : VK} {us : List Value} {vs : List V} (F : FnR X.prog X.w X.K X.mg X.base CX0 k f sp) (hr : Room (k + 1) X.A) (I : Inv X pins σ H s) (r : Vals vs us) (h : sp vs H Q E) :
    wpAny (model X.prog X.w) X.A.in1 (call (.ref f) us) (EP X pins σ Q) X.xe s := by
  refine wpAny_call (codeAny_mono (F X.A.in1 X.stack s H us vs Q E hr.in1 I.env0.in1 r h) fun r s' hq => ?_)
  cases r with
  | error e => exact hq.elim
  | ok fl =>
    cases fl with
    | ret u => exact I.after hq
    | next => exact False.elim hq
    | brk => exact False.elim hq
    | cont => exact False.elim hq
theorem op_ne1 (D : Mt X.prog X.w X.K X.mg X.base CX0 k C "__eq__" sp) (hm1 : PySem.W.mroIn X.K C (.type "object") = some true) (hne : PySem.W.findIn X.K (.ref C) "__ne__" = some (some (.builtin "object.__ne__"))) (hr : Room n X.A) (hle : k + 1 ≤ n := by decide) :
    OpR X (compareOp .NotEq) (rOwN X C sp E0) := by
  obtain ⟨f, F, hm, _⟩ := D.ex
  intro pins s σ H x y v u Q I rx ry h
  obtain ⟨a, tb, rfl, ha, hb, hn, q⟩ := h
  cases (show v = Value.ref a from rx)
  obtain ⟨ox, od, J, _⟩ := StX.insC_at I ha
  refine ne_K (hu_of hr) I.kIn J (hb _ _ _ _ I ry) hn hm1 hne hm.at_ hm.fn ?_
  refine wpAny_mono (run_fnR1 (us := [.ref a, u]) (vs := [.ref a, y]) F (hr.mono hle) I (.cons rfl (.cons ry .nil)) q) (fun w s' z => ?_) fun _ _ x => x
  obtain ⟨z', H', I', rz, b, ez, qz⟩ := z
  subst ez
  cases (show w = Value.bool b from rz)
  exact ⟨b, rfl, .bl (!b), H', I', rfl, qz⟩
end

/-! ### bool(x) by x's own __bool__ -/
theorem bool_new_own {prog : Program} {w : World} (x : Addr) : MeetsIn prog w (Builtin.«bool.__new__» ⟨[.type "bool", .ref x], []⟩)
    (fun A R s => wpAny (model prog w) A.in1 (truthy (.ref x)) (fun b s' => R (.ok (.ret (.bool b))) s') (fun e s' => R (.error e) s') s) :=
  .of_wp fun A R s h => by
    have f1 := F.conv_sub_bool
    obtain ⟨hp, g, d, tk, os⟩ := s
    repeat (any_goals (first | assumption | (with_reducible refine wpAny_mono h (fun b s' hb => ?_) fun _ _ z => z) | wp_step))
    all_goals first | exact ⟨_, rfl, hb⟩ | exact hb | skip
theorem call_bool_own {prog : Program} {w : World} {A : Around} {E : Value → Shared → Prop} {s : Shared} {x : Addr} {Q : Value → Shared → Prop}
    (h : wpAny (model prog w) A.in1.in1 (truthy (.ref x)) (fun b s' => Q (.bool b) s') E s) : wpAny (model prog w) A (call (.type "bool") [.ref x]) Q E s :=
  callType_newIn F.called_bool F.newNe_bool (F.typeCall_bool_1 _) (F.newCall_bool_1 _) (fun obj => F.args_object_init_2 obj _) F.entry_bool_new (bool_new_own x)
    (wpAny_mono h (fun b s' q => ⟨rfl, q⟩) fun _ _ z => z)
section
variable {X : Cx} {CX : CXT} {k n : Nat} {C : Addr} {sp : Sp} {E : XK} {f : Addr}
theorem run_fnRA {pins : List (Addr × Obj)} {σ : L2.St} {H : Hp} {s : Shared} {Q : VK} {us : List Value} {vs : List V} {A : Around} (F : FnR X.prog X.w X.K X.mg X.base CX0 k f sp) (hr : Room k A) (e0 : Env0 X.prog X.w X.K X.mg X.base A X.stack s H) (I : Inv X pins σ H s) (r : Vals vs us) (h : sp vs H Q E) :
    wpAny (model X.prog X.w) A (call (.ref f) us) (EP X pins σ Q) X.xe s := by
  refine wpAny_call (codeAny_mono (F A X.stack s H us vs Q E hr e0 r h) fun r s' hq => ?_)
  cases r with
  | error e => exact hq.elim
  | ok fl =>
    cases fl with
    | ret u => exact I.after hq
    | next => exact False.elim hq
    | brk => exact False.elim hq
    | cont => exact False.elim hq
theorem call_boolO (D : Mt X.prog X.w X.K X.mg X.base CX0 k C "__bool__" sp) (hr : Room n X.A) (hle : k + 2 ≤ n := by decide) : CallR X (.type "bool") (rOwB X C sp E0) := by
  obtain ⟨f, F, hm, _⟩ := D.ex
  intro pins s σ H xs us Q I r h
  obtain ⟨a, rfl, ha, q⟩ := h
  obtain ⟨u, rfl, ru⟩ := vals1 r
  cases (show u = Value.ref a from ru)
  obtain ⟨ox, od, J, _⟩ := StX.insC_at I ha
  obtain ⟨m, hF⟩ := I.fr
  refine call_bool_own (PySem.W.truthy_K hF I.ok.mod.kin J hm.at_ hm.fn ?_)
  have hr2 : Room (k + 2) X.A := hr.mono hle
  refine wpAny_mono (run_fnRA (us := [.ref a]) (vs := [.ref a]) F hr2.in1.in1 I.env0.in1.in1 I (.cons rfl .nil) q) (fun w s' z => ?_) fun _ _ x => x
  obtain ⟨z', H', I', rz, b, ez, qz⟩ := z
  subst ez
  cases (show w = Value.bool b from rz)
  exact ⟨.bl b, H', I', rfl, qz⟩
end
end Td

/-! L3: operators of any kind, readings step by step, the drawn numbers. -/
namespace Td
open PySem L2

section
variable {X : Cx}
/-! ### operators that take what comes -/
def rAddU (K : PySem.W.Frag) : R2 := fun x y H Q => rI0 (fun i j => .int (i + j)) x y H Q ∨ (∃ i j, x = .str i ∧ y = .str j ∧ i.length + j.length ≤ sizeLine ∧ Q (.str (i ++ j)) H) ∨ rCat x y H Q ∨ rCatT K x y H Q
theorem op_addU : OpR X (binaryOp .Add) (rAddU X.K) := OpR.or op_add (OpR.or op_add_str (OpR.or op_cat op_catT))
def rMulU : R2 := fun x y H Q => rI CMul (fun i j => .int (i * j)) x y H Q ∨ rI CMulW (fun i j => .int (i * j)) x y H Q ∨ rRep x y H Q
theorem op_mulU : OpR X (binaryOp .Mult) rMulU := OpR.or op_mul (OpR.or op_mulW op_rep)
def rFdvU : R2 := fun x y H Q => rI CDiv (fun i j => .int (i / j)) x y H Q ∨ rI CDivW (fun i j => .int (i / j)) x y H Q
theorem op_fdvU : OpR X (binaryOp .FloorDiv) rFdvU := OpR.or op_fdiv op_fdivW
def rSubU : R2 := rI0 fun i j => .int (i - j)
theorem op_subU : OpR X (binaryOp .Sub) rSubU := op_sub
def rModU : R2 := rI (fun _ j => 0 < j) fun i j => .int (i % j)
theorem op_modU : OpR X (binaryOp .Mod) rModU := op_mod
def rPowU : R2 := rI CPow fun i j => .int (i ^ j.toNat)
theorem op_powU : OpR X (binaryOp .Pow) rPowU := op_pow
def rEqU (K : PySem.W.Frag) : R2 := fun x y H Q => rEq x y H Q ∨ rEqD K x y H Q
theorem op_eqU (hu : X.A.units + 64 < cLine) : OpR X (compareOp .Eq) (rEqU X.K) := OpR.or op_eq (op_eqD hu)
def rNeU (K : PySem.W.Frag) : R2 := fun x y H Q => rNe x y H Q ∨ rNeD K x y H Q
theorem op_neU (hu : X.A.units + 64 < cLine) : OpR X (compareOp .NotEq) (rNeU X.K) := OpR.or op_ne (op_neD hu)
def rLtU : R2 := fun x y H Q => rI0 (fun i j => .bl (decide (i < j))) x y H Q ∨ ∃ i j, x = .str i ∧ y = .str j ∧ Q (.bl (decide (i.cps.toList < j.cps.toList))) H
theorem op_ltU : OpR X (compareOp .Lt) rLtU := OpR.or op_lt op_lt_str
def rGtU : R2 := fun x y H Q => rI0 (fun i j => .bl (decide (j < i))) x y H Q ∨ ∃ i j, x = .str i ∧ y = .str j ∧ Q (.bl (decide (j.cps.toList < i.cps.toList))) H
theorem op_gtU : OpR X (compareOp .Gt) rGtU := OpR.or op_gt op_gt_str
def rLeU : R2 := fun x y H Q => rI0 (fun i j => .bl (decide (i ≤ j))) x y H Q ∨ ∃ i j, x = .str i ∧ y = .str j ∧ Q (.bl (!decide (j.cps.toList < i.cps.toList))) H
theorem op_leU : OpR X (compareOp .LtE) rLeU := OpR.or op_le op_le_str
def rGeU : R2 := fun x y H Q => rI0 (fun i j => .bl (decide (j ≤ i))) x y H Q ∨ ∃ i j, x = .str i ∧ y = .str j ∧ Q (.bl (!decide (i.cps.toList < j.cps.toList))) H
theorem op_geU : OpR X (compareOp .GtE) rGeU := OpR.or op_ge op_ge_str
def rIsU : R2 := fun x y H Q => y = .non ∧ Q (.bl (decide (x = .non))) H
theorem op_isU : OpR X (compareOp .Is) rIsU := op_isN
def rIsNU : R2 := fun x y H Q => y = .non ∧ Q (.bl (!decide (x = .non))) H
theorem op_isNU : OpR X (compareOp .IsNot) rIsNU := op_notN
def rInU (K : PySem.W.Frag) : R2 := fun x y H Q => rIn K false x y H Q ∨ ∃ i j, x = .str i ∧ y = .str j ∧ Q (.bl (!(Builtin.Str.occurrences j i 0 j.length 1).isEmpty)) H
theorem op_inU : OpR X (compareOp .In) (rInU X.K) := OpR.or op_in_seq op_in_str
def rNInU (K : PySem.W.Frag) : R2 := fun x y H Q => rIn K true x y H Q ∨ ∃ i j, x = .str i ∧ y = .str j ∧ Q (.bl (!(!(Builtin.Str.occurrences j i 0 j.length 1).isEmpty))) H
theorem op_nInU : OpR X (compareOp .NotIn) (rNInU X.K) := OpR.or op_notIn_seq op_notin_str
def cInt : List V → Hp → VK → Prop := fun xs H Q => (∃ i, xs = [.int i] ∧ Q (.int i) H) ∨ ∃ k, xs = [.bl k] ∧ Q (.int (if k then 1 else 0)) H
theorem cr_int : CallR X (.type "int") cInt := call_int1
theorem CallR.or {f : Value} {r r' : List V → Hp → VK → Prop} (h : CallR X f r) (h' : CallR X f r') : CallR X f (fun xs H Q => r xs H Q ∨ r' xs H Q) := by
  intro pins s σ H xs us Q I rv hq
  rcases hq with hq | hq
  · exact h pins s σ H xs us Q I rv hq
  · exact h' pins s σ H xs us Q I rv hq
def cLen (K : PySem.W.Frag) : List V → Hp → VK → Prop := fun xs H Q => (∃ p ys, xs = [.ref p] ∧ (SqL K H p ys ∨ SqT K H p ys) ∧ Q (.int ys.length) H) ∨ (∃ x, xs = [.str x] ∧ x.length ≤ sizeLine ∧ Q (.int x.length) H) ∨ ∃ a kvs, xs = [V.ref a] ∧ H a = some (.dK kvs) ∧ Q (.int kvs.length) H
theorem cr_len : CallR X (.builtin "len") (cLen X.K) := CallR.or call_len_seq (CallR.or call_len_str call_lenD)
def cAbs : List V → Hp → VK → Prop := fun xs H Q => ∃ n, xs = [.int n] ∧ Q (.int (if n < 0 then -n else n)) H
theorem cr_abs : CallR X (.builtin "abs") cAbs := call_abs
def cTup (K : PySem.W.Frag) : List V → Hp → VK → Prop := fun xs H Q => ∃ p ys, xs = [.ref p] ∧ ((SqL K H p ys ∧ ∀ l, H l = none → Q (.ref l) (upd H l (.tup ys))) ∨ (SqT K H p ys ∧ Q (.ref p) H))
end

inductive SetAt {α : Type} : Nat → α → List α → List α → Prop
  | z {x y : α} {r : List α} : SetAt 0 x (y :: r) (x :: r)
  | s {n : Nat} {x y : α} {r r' : List α} (h : SetAt n x r r') : SetAt (n + 1) x (y :: r) (y :: r')
theorem SetAt.eq {α : Type} {n : Nat} {x : α} {l l' : List α} (h : SetAt n x l l') : l.set n x = l' := by
  induction h with
  | z => rfl
  | s _ ih => rw [List.set_cons_succ, ih]

section
variable {K : PySem.W.Frag} {σ σ1 σ2 : L2.St} {H G : Hp} {M : List Mo} {Q : VK} {QA : List V → Hp → Prop} {QT : Bool → Hp → Prop} {ta tb tc te : TE} {t u : TT} {tr : TA} {ts tz : TS} {D : Ends} {r r' : R2} {x y v : V} {i j : Int} {n m : Nat} {b : Bool} {p : Addr} {xs ys : List V} {f : Str}
/-! ### steps -/
theorem w_var (h : σ[n]? = some (some v)) (k : Q v H) : tVar n σ H Q := ⟨v, h, k⟩
theorem w_c (k : Q v H) : tC v σ H Q := k
theorem w_op (k : ta σ H fun x H1 => tb σ H1 fun y H2 => r x y H2 Q) : tOp r ta tb σ H Q := k
theorem w_un {r : V → Hp → VK → Prop} (k : ta σ H fun x H1 => r x H1 Q) : tUn r ta σ H Q := k
theorem w_cons (k : ta σ H fun x H1 => tr σ H1 fun xs H2 => QA (x :: xs) H2) : tCons ta tr σ H QA := k
theorem w_nil (k : QA [] H) : tNil σ H QA := k
theorem w_cb {r : List V → Hp → VK → Prop} (k : tr σ H fun vs H1 => r vs H1 Q) : tCB r tr σ H Q := k
def aBl (Q : Bool → Hp → Prop) (x : V) (H : Hp) : Prop := ∃ k, x = .bl k ∧ Q k H
theorem w_bl (k : QT b H) : aBl QT (.bl b) H := ⟨b, rfl, k⟩
theorem w_test (k : te σ H fun x H1 => aBl QT x H1) : tTest te σ H QT := k
theorem w_B (k : te σ H fun x H1 => aBl QT x H1) : tB te σ H QT := k
theorem w_and (k : t σ H fun c H1 => if c = true then u σ H1 QT else QT false H1) : tAnd t u σ H QT := k
theorem w_or (k : t σ H fun c H1 => if c = true then QT true H1 else u σ H1 QT) : tOr t u σ H QT := k
theorem w_not (k : t σ H fun c H1 => QT (!c) H1) : tNot t σ H QT := k
theorem w_yes (k : QT true H) : tYes σ H QT := k
theorem w_andV (k : ta σ H fun x H1 => aBl (fun c H1 => if c = true then tb σ H1 Q else Q (.bl false) H1) x H1) : tAndV ta tb σ H Q := k
theorem w_orV (k : ta σ H fun x H1 => aBl (fun c H1 => if c = true then Q (.bl true) H1 else tb σ H1 Q) x H1) : tOrV ta tb σ H Q := k
theorem w_notV (k : ta σ H fun x H1 => aBl (fun c H1 => Q (.bl (!c)) H1) x H1) : tNotV ta σ H Q := k
theorem w_if (k : t σ H fun c H1 => if c = true then ta σ H1 Q else tb σ H1 Q) : tIf t ta tb σ H Q := k
theorem w_chain (k : ta σ H fun x H1 => tb σ H1 fun y H2 => r x y H2 fun z H3 => aBl (fun c H3 => if c = true then tc σ H3 fun w' H4 => r' y w' H4 Q else Q (.bl false) H3) z H3) : tChain r r' ta tb tc σ H Q := k
theorem w_seq (k : ts { D with nx := tz D } σ H) : tSeq ts tz D σ H := k
theorem w_next (k : D.nx σ H) : tNext D σ H := k
theorem w_brk (k : D.bk σ H) : tBreak D σ H := k
theorem w_cont (k : D.ct σ H) : tCont D σ H := k
theorem w_ret (k : te σ H D.rt) : tRet te D σ H := k
theorem w_retN (k : D.rt .non H) : tRetN D σ H := k
theorem w_drop (k : te σ H fun _ H1 => D.nx σ H1) : tDrop te D σ H := k
theorem w_ifS (k : t σ H fun b H1 => if b = true then ts D σ H1 else tz D σ H1) : tIfS t ts tz D σ H := k
theorem w_asg {g : TG} (k : te σ H fun x H1 => g x σ H1 D.nx) : tAsg te g D σ H := k
theorem w_gn {QS : L2.St → Hp → Prop} (h : SetAt n (some v) σ σ1) (k : QS σ1 H) : gName n v σ H QS := by
  show QS (σ.set n (some v)) H
  rw [h.eq]
  exact k
def aPar (a c : Nat) (D : Ends) (σ : L2.St) (vs : List V) (H : Hp) : Prop := ∃ v w, vs = [v, w] ∧ D.nx ((σ.set a (some v)).set c (some w)) H
theorem w_par {a c : Nat} (k : tr σ H fun vs H1 => aPar a c D σ vs H1) : tPar a c tr D σ H := k
theorem w_par2 {a c : Nat} (h : SetAt a (some x) σ σ1) (h2 : SetAt c (some y) σ1 σ2) (k : D.nx σ2 H) : aPar a c D σ [x, y] H := ⟨x, y, rfl, by rw [h.eq, h2.eq]; exact k⟩
theorem w_gsub {to ti : TE} {tt : TSet} {QS : L2.St → Hp → Prop} (k : to σ H fun o H1 => ti σ H1 fun i H2 => tt o i v H2 fun H3 => QS σ H3) : gSub to ti tt v σ H QS := k
theorem w_gtup {g : TGs} {QS : L2.St → Hp → Prop} (h : SqT K H p xs) (hl : xs.length = n) (k : g xs σ H QS) : gTup K n g (.ref p) σ H QS := ⟨p, xs, rfl, h, hl, k⟩
theorem w_gcons {g : TG} {gs : TGs} {QS : L2.St → Hp → Prop} {vs : List V} (k : g v σ H fun σ' H' => gs vs σ' H' QS) : gCons g gs (v :: vs) σ H QS := ⟨v, vs, rfl, k⟩
theorem w_gnil {QS : L2.St → Hp → Prop} (k : QS σ H) : gNil [] σ H QS := ⟨rfl, k⟩
/-! ### values -/
theorem w_add (k : Q (.int (i + j)) H) : rAddU K (.int i) (.int j) H Q := .inl ⟨i, j, rfl, rfl, k⟩
theorem w_addS {a c : Str} (h : a.length + c.length ≤ sizeLine) (k : Q (.str (a ++ c)) H) : rAddU K (.str a) (.str c) H Q := .inr (.inl ⟨a, c, rfl, rfl, h, k⟩)
theorem w_sub (k : Q (.int (i - j)) H) : rSubU (.int i) (.int j) H Q := ⟨i, j, rfl, rfl, k⟩
theorem w_mul (c : CMul i j) (k : Q (.int (i * j)) H) : rMulU (.int i) (.int j) H Q := .inl ⟨i, j, rfl, rfl, c, k⟩
theorem w_mulW (c : CMulW i j) (k : Q (.int (i * j)) H) : rMulU (.int i) (.int j) H Q := .inr (.inl ⟨i, j, rfl, rfl, c, k⟩)
theorem w_mod (c : 0 < j) (k : Q (.int (i % j)) H) : rModU (.int i) (.int j) H Q := ⟨i, j, rfl, rfl, c, k⟩
theorem w_fdv (c : CDiv i j) (k : Q (.int (i / j)) H) : rFdvU (.int i) (.int j) H Q := .inl ⟨i, j, rfl, rfl, c, k⟩
theorem w_fdvW (c : CDivW i j) (k : Q (.int (i / j)) H) : rFdvU (.int i) (.int j) H Q := .inr ⟨i, j, rfl, rfl, c, k⟩
theorem w_pow {z : Int} (c : CPow i j) (e : i ^ j.toNat = z) (k : Q (.int z) H) : rPowU (.int i) (.int j) H Q := ⟨i, j, rfl, rfl, c, by subst e; exact k⟩
theorem w_neg (k : Q (.int (-i)) H) : rU (fun i => .int (-i)) (.int i) H Q := ⟨i, rfl, k⟩
theorem w_eqI (k : Q (.bl (decide (i = j))) H) : rEqU K (.int i) (.int j) H Q := .inl ⟨rfl, by rw [show decide (V.int i = V.int j) = decide (i = j) from decide_eq_decide.mpr ⟨fun e => V.int.inj e, fun e => by rw [e]⟩]; exact k⟩
theorem w_neI (k : Q (.bl (!decide (i = j))) H) : rNeU K (.int i) (.int j) H Q := .inl ⟨rfl, by rw [show decide (V.int i = V.int j) = decide (i = j) from decide_eq_decide.mpr ⟨fun e => V.int.inj e, fun e => by rw [e]⟩]; exact k⟩
theorem w_eqB {a c : Bool} (k : Q (.bl (decide (a = c))) H) : rEqU K (.bl a) (.bl c) H Q := .inl ⟨rfl, by rw [show decide (V.bl a = V.bl c) = decide (a = c) from decide_eq_decide.mpr ⟨fun e => V.bl.inj e, fun e => by rw [e]⟩]; exact k⟩
theorem w_neB {a c : Bool} (k : Q (.bl (!decide (a = c))) H) : rNeU K (.bl a) (.bl c) H Q := .inl ⟨rfl, by rw [show decide (V.bl a = V.bl c) = decide (a = c) from decide_eq_decide.mpr ⟨fun e => V.bl.inj e, fun e => by rw [e]⟩]; exact k⟩
theorem w_eqS {a c : Str} (k : Q (.bl (decide (a = c))) H) : rEqU K (.str a) (.str c) H Q := .inl ⟨rfl, by rw [show decide (V.str a = V.str c) = decide (a = c) from decide_eq_decide.mpr ⟨fun e => V.str.inj e, fun e => by rw [e]⟩]; exact k⟩
theorem w_neS {a c : Str} (k : Q (.bl (!decide (a = c))) H) : rNeU K (.str a) (.str c) H Q := .inl ⟨rfl, by rw [show decide (V.str a = V.str c) = decide (a = c) from decide_eq_decide.mpr ⟨fun e => V.str.inj e, fun e => by rw [e]⟩]; exact k⟩
theorem w_lt (k : Q (.bl (decide (i < j))) H) : rLtU (.int i) (.int j) H Q := .inl ⟨i, j, rfl, rfl, k⟩
theorem w_gt (k : Q (.bl (decide (j < i))) H) : rGtU (.int i) (.int j) H Q := .inl ⟨i, j, rfl, rfl, k⟩
theorem w_le (k : Q (.bl (decide (i ≤ j))) H) : rLeU (.int i) (.int j) H Q := .inl ⟨i, j, rfl, rfl, k⟩
theorem w_ge (k : Q (.bl (decide (j ≤ i))) H) : rGeU (.int i) (.int j) H Q := .inl ⟨i, j, rfl, rfl, k⟩
theorem w_is (k : Q (.bl (decide (x = .non))) H) : rIsU x .non H Q := ⟨rfl, k⟩
theorem w_isN (k : Q (.bl (!decide (x = .non))) H) : rIsNU x .non H Q := ⟨rfl, k⟩
theorem w_int (k : Q (.int i) H) : cInt [.int i] H Q := .inl ⟨i, rfl, k⟩
theorem w_intB (k : Q (.int (if b then 1 else 0)) H) : cInt [.bl b] H Q := .inr ⟨b, rfl, k⟩
theorem w_abs (k : Q (.int (if i < 0 then -i else i)) H) : cAbs [.int i] H Q := ⟨i, rfl, k⟩
/-! ### what is read -/
theorem sql_ex {G G' : Hp} (e : Ex G G') (h : SqL K G p xs) : SqL K G' p xs := by
  rcases h with (h | ⟨o, h⟩) | h
  · exact .inl (.inl (e _ _ h))
  · exact .inl (.inr ⟨o, e _ _ h⟩)
  · exact .inr h
theorem sqt_ex {G G' : Hp} (e : Ex G G') (h : SqT K G p xs) : SqT K G' p xs := by
  rcases h with (h | ⟨o, h⟩) | h
  · exact .inl (.inl (e _ _ h))
  · exact .inl (.inr ⟨o, e _ _ h⟩)
  · exact .inr h
theorem sql_of {G : Hp} (h : G p = some (.lst xs)) : SqL K G p xs := .inl (.inl h)
theorem sqt_of {G : Hp} (h : G p = some (.tup xs)) : SqT K G p xs := .inl (.inl h)
theorem ex_use {G G' : Hp} {o : HO} (e : Ex G G') (h : G p = some o) : G' p = some o := e _ _ h
theorem w_ixL (h : SqL K H p xs) (ha : atI xs i = some v) (k : Q v H) : rIx K (.ref p) (.int i) H Q := .inl ⟨p, xs, i, v, rfl, rfl, h, ha, k⟩
theorem w_ixT (h : SqT K H p xs) (ha : atI xs i = some v) (k : Q v H) : rIx K (.ref p) (.int i) H Q := .inr (.inl ⟨p, xs, i, v, rfl, rfl, h, ha, k⟩)
theorem w_lenL (h : SqL K H p xs) (k : Q (.int xs.length) H) : cLen K [.ref p] H Q := .inl ⟨p, xs, rfl, .inl h, k⟩
theorem w_lenT (h : SqT K H p xs) (k : Q (.int xs.length) H) : cLen K [.ref p] H Q := .inl ⟨p, xs, rfl, .inr h, k⟩
theorem w_lenS {a : Str} (h : a.length ≤ sizeLine) (k : Q (.int a.length) H) : cLen K [.str a] H Q := .inr (.inl ⟨a, rfl, h, k⟩)
/-! ### what is made -/
def aTup (xs : List V) (H : Hp) (Q : VK) : Prop := xs.length ≤ sizeLine ∧ ∀ p, H p = none → Q (.ref p) (upd H p (.tup xs))
def aLst (xs : List V) (H : Hp) (Q : VK) : Prop := xs.length ≤ sizeLine ∧ ∀ p, H p = none → Q (.ref p) (upd H p (.lst xs))
theorem w_tup (k : tr σ H fun xs H1 => aTup xs H1 Q) : tTup tr σ H Q := k
theorem w_lst (k : tr σ H fun xs H1 => aLst xs H1 Q) : tLst tr σ H Q := k
theorem w_newT (D : Dj G M) (hl : xs.length ≤ sizeLine) (k : ∀ p G', Ex G G' → G p = none → G' p = some (.tup xs) → Dj G' M → Q (.ref p) (jn G' M)) : aTup xs (jn G M) Q := by
  refine ⟨hl, fun p hp => ?_⟩
  obtain ⟨h1, h2⟩ := jn_none hp
  rw [jn_new h1]
  exact k p _ (Ex.new h2) h2 upd_same (D.new h1)
theorem w_newL (D : Dj G M) (hl : xs.length ≤ sizeLine) (k : ∀ p G', Ex G G' → G p = none → G' p = some (.lst xs) → Dj G' M → Q (.ref p) (jn G' M)) : aLst xs (jn G M) Q := by
  refine ⟨hl, fun p hp => ?_⟩
  obtain ⟨h1, h2⟩ := jn_none hp
  rw [jn_new h1]
  exact k p _ (Ex.new h2) h2 upd_same (D.new h1)
/-- a new list that will change -/
theorem w_ownL (D : Dj G M) (hl : xs.length ≤ sizeLine) (k : ∀ p, Dj G (.lst p xs :: M) → Q (.ref p) (jn G (.lst p xs :: M))) : aLst xs (jn G M) Q :=
  ⟨hl, fun p hp => k p (D.mk1 (fun a ha => by rw [List.mem_singleton.mp ha]; exact hp) (List.nodup_cons.mpr ⟨by simp, List.nodup_nil⟩))⟩
/-! ### calls -/
def aCl (sp : Sp) (vs : List V) (H : Hp) (Q : VK) (E : XK) : Prop := sp vs H Q E
theorem w_cl {sp : Sp} {E : XK} (k : tr σ H fun vs H1 => aCl sp vs H1 Q E) : tCl sp E tr σ H Q := k
theorem w_frm {sp : Sp} {E : XK} {vs : List V} (D : Dj G M) (k : sp vs G (fun v G' => Dj G' M → Q v (jn G' M)) E) : aCl (Frm sp) vs (jn G M) Q E := ⟨G, M, rfl, D, k⟩
theorem st0 {t : TS} {N : List Str} {vs : List V} (h : L2.start N vs = σ) (k : t D σ H) : t D (L2.start N vs) H := by
  rw [h]
  exact k
theorem w00 {t : TS} (k : Dj H [] → t D σ (jn H [])) : t D σ H := k ⟨List.nodup_nil, fun a ha => by cases ha⟩
theorem w0 {Y : Hp → Prop} {H : Hp} (h : Dj H [] → Y (jn H [])) : Y H := h ⟨List.nodup_nil, fun a ha => by cases ha⟩
end
/-! ### branches -/
theorem ite_t {b : Bool} {A B : Prop} (h : b = true) (k : A) : if b = true then A else B := by rw [if_pos h]; exact k
theorem ite_f {b : Bool} {A B : Prop} (h : b = false) (k : B) : if b = true then A else B := by rw [if_neg (by rw [h]; decide)]; exact k
theorem ite_b {b : Bool} {A B : Prop} (h : b = true → A) (k : b = false → B) : if b = true then A else B := by
  cases b with
  | true => exact ite_t rfl (h rfl)
  | false => exact ite_f rfl (k rfl)
theorem ite_d {p : Prop} [Decidable p] {A B : Prop} (h : p → A) (k : ¬ p → B) : if decide p = true then A else B := by
  by_cases q : p
  · exact ite_t (decide_eq_true q) (h q)
  · exact ite_f (decide_eq_false q) (k q)
theorem ite_n {p : Prop} [Decidable p] {A B : Prop} (h : ¬ p → A) (k : p → B) : if (!decide p) = true then A else B := by
  by_cases q : p
  · exact ite_f (by rw [decide_eq_true q]; rfl) (k q)
  · exact ite_t (by rw [decide_eq_false q]; rfl) (h q)

/-! ### the drawn numbers -/
structure OkD (d : DS) : Prop where
  n0 : 0 ≤ d.n
  cl : d.cs.length = 64
  cb : ∀ c ∈ d.cs, 0 ≤ c ∧ c < 2147483647
  gl : d.gs.length ≤ 63
structure Nx (d d' : DS) (k : Int) : Prop where
  n : d'.n ≤ d.n + k
  ok : OkD d'
theorem Nx.trans {d d1 d2 : DS} {k l : Int} (a : Nx d d1 k) (b : Nx d1 d2 l) : Nx d d2 (k + l) := ⟨by have := a.n; have := b.n; omega, b.ok⟩
theorem Nx.mono {d d1 : DS} {k l : Int} (a : Nx d d1 k) (h : k ≤ l) : Nx d d1 l := ⟨by have := a.n; omega, a.ok⟩
theorem Nx.refl {d : DS} (h : OkD d) : Nx d d 0 := ⟨by omega, h⟩
section
variable {G G' : Hp} {M : List Mo} {m c g : Addr} {d d' : DS} {o : Mo} {Q : VK} {E : XK} {vs us : List V}
theorem Dj.dr (D : Dj G (.drw m c g d :: M)) : Dj G (.drw m c g d' :: M) := D.swap rfl
theorem jn_drw (D : Dj G (o :: M)) : jn G (o :: M) = jn (jn G [o]) M := by
  rw [jn_show D]
  rfl
theorem Dj.drw (D : Dj G (o :: M)) : Dj (jn G [o]) M := (D.show).1
theorem keys1 : keys [o] = o.keys := List.append_nil _
theorem Dj.hd (D : Dj G (o :: M)) : Dj G [o] :=
  ⟨by rw [keys1]; exact (List.nodup_append.mp D.nd).1, fun a ha => D.out a (by rw [keys1] at ha; exact List.mem_append.mpr (.inl ha))⟩
theorem Dj.both (D1 : Dj G [o]) (D2 : Dj (jn G [o]) M) : Dj G (o :: M) := by
  refine ⟨List.nodup_append.mpr ⟨by rw [← keys1 (o := o)]; exact D1.nd, D2.nd, fun a ha b hb e => ?_⟩, fun a ha => ?_⟩
  · subst e
    have q := D2.out a hb
    exact (jn_none q).1 (by rw [keys1]; exact ha)
  · rcases List.mem_append.mp ha with q | q
    · exact D1.out a (by rw [keys1]; exact q)
    · exact (jn_none (D2.out a q)).2
/-- the promise of a def that reads and makes: pre of what is handed in, post of what comes back -/
def Pu {α : Type} (pre : α → Hp → List V → Prop) (post : α → V → Hp → Prop) : Sp := fun vs H Q _ => ∃ a, pre a H vs ∧ ∀ v H', Ex H H' → post a v H' → Q v H'
theorem w_pu {α : Type} {pre : α → Hp → List V → Prop} {post : α → V → Hp → Prop} (D : Dj G M) (a : α) (hp : pre a G vs) (k : ∀ v G', Ex G G' → post a v G' → Dj G' M → Q v (jn G' M)) : aCl (Frm (Pu pre post)) vs (jn G M) Q E :=
  ⟨G, M, rfl, D, a, hp, k⟩
/-- the promise of a def that draws at most n numbers; its first argument is the drawing state -/
def Dw {α : Type} (n : Int) (pre : α → Hp → List V → Prop) (post : α → V → Hp → Prop) : Sp := fun vs H Q _ => ∃ (a : α) (G : Hp) (m c g : Addr) (d : DS) (us : List V), vs = .ref m :: us ∧ H = jn G [.drw m c g d] ∧ Dj G [.drw m c g d] ∧ OkD d ∧ d.n + n ≤ 2 ^ 59 ∧ pre a G us ∧
  ∀ v G' d', Ex G G' → Nx d d' n → post a v G' → Dj G' [.drw m c g d'] → Q v (jn G' [.drw m c g d'])
theorem w_dw {α : Type} {n : Int} {pre : α → Hp → List V → Prop} {post : α → V → Hp → Prop} (D : Dj G (.drw m c g d :: M)) (ok : OkD d) (hn : d.n + n ≤ 2 ^ 59) (a : α) (hp : pre a G us)
    (k : ∀ v G' d', Ex G G' → Nx d d' n → post a v G' → Dj G' (.drw m c g d' :: M) → Q v (jn G' (.drw m c g d' :: M))) : aCl (Frm (Dw n pre post)) (.ref m :: us) (jn G (.drw m c g d :: M)) Q E := by
  refine ⟨jn G [.drw m c g d], M, jn_drw D, D.drw, a, G, m, c, g, d, us, rfl, rfl, D.hd, ok, hn, hp, fun v G' d' e nx po D1 D2 => ?_⟩
  have D3 := D1.both D2
  have q := k v G' d' e nx po D3
  rw [jn_drw D3] at q
  exact q
end

/-! ### fields of instances -/
section
variable {X : Cx} {o : Expr} {to : TE} {f : Str} {pos : Pos}
def gFld (K : PySem.W.Frag) (to : TE) (f : Str) : TG := fun v σ H Q => to σ H fun o H1 => ∃ a C dx fs, o = .ref a ∧ H1 a = some (.ins C dx fs) ∧ Cls K C ∧ NoAttr K C f ∧ fs.length < 1000 ∧ Q σ (upd H1 a (.ins C dx (putF f v fs)))
theorem pg_fld (ho : PE X o to)
    (ha : ∀ v, assign (.Attribute o f pos) X.env v = (do
      let ov ← holding [v] (eval o X.env)
      standAt pos.atName
      holding [v, ov] (setAttr ov f v)
      release [v, ov] []) := by intro _; rfl) : PG X (.Attribute o f pos) (gFld X.K to f) := by
  refine ⟨fun pins s σ H v u Q I r h => ?_⟩
  rw [ha]
  refine wpAny_bind (wpAny_holding (thn (ho.run pins s σ H _ I h) fun ov s1 ⟨x, H1, I1, r1, a, C, dx, fs, ex, ea, c, n, l, q⟩ => ?_))
  subst ex
  obtain rfl : ov = Value.ref a := r1
  refine wpAny_bind (PySem.wpAny_standAt (wpAny_bind (wpAny_holding (setattr_ok I1 ea c n l r fun s3 I3 => ?_))))
  exact wpAny_release ⟨σ, _, I3, q⟩
end
section
variable {K : PySem.W.Frag} {σ : L2.St} {H G : Hp} {M : List Mo} {Q : VK} {ta tv : TE} {f : Str} {a C dx x : Addr} {fs fs' : List (Str × V)} {v : V} {D : Ends} {QS : L2.St → Hp → Prop} {to : TE}
def aFld (K : PySem.W.Frag) (f : Str) (x : V) (H : Hp) (Q : VK) : Prop := ∃ a C dx fs v, x = .ref a ∧ H a = some (.ins C dx fs) ∧ Cls K C ∧ NoAttr K C f ∧ fs.lookup f = some v ∧ Q v H
theorem w_fld (k : ta σ H fun x H1 => aFld K f x H1 Q) : tFld K ta f σ H Q := k
theorem w_get (h : H a = some (.ins C dx fs)) (c : Cls K C) (n : NoAttr K C f) (l : fs.lookup f = some v) (k : Q v H) : aFld K f (.ref a) H Q := ⟨a, C, dx, fs, v, rfl, h, c, n, l, k⟩
def aPut (K : PySem.W.Frag) (f : Str) (v x : V) (σ : L2.St) (H : Hp) (QS : L2.St → Hp → Prop) : Prop := ∃ a C dx fs, x = .ref a ∧ H a = some (.ins C dx fs) ∧ Cls K C ∧ NoAttr K C f ∧ fs.length < 1000 ∧ QS σ (upd H a (.ins C dx (putF f v fs)))
theorem w_gfld (k : to σ H fun o H1 => aPut K f v o σ H1 QS) : gFld K to f v σ H QS := k
theorem w_sfld (k : tv σ H fun y H1 => ta σ H1 fun x H2 => aPut K f y x σ H2 D.nx) : sFld K ta tv f D σ H := k
theorem w_put (c : Cls K C) (n : NoAttr K C f) (l : fs.length < 1000) (e : putF f v fs = fs') (k : QS σ (jn G (.ins x dx C fs' :: M))) : aPut K f v (.ref x) σ (jn G (.ins x dx C fs :: M)) QS := by
  refine ⟨x, C, dx, fs, rfl, upd_same, c, n, l, ?_⟩
  have e2 : upd (jn G (.ins x dx C fs :: M)) x (.ins C dx (putF f v fs)) = jn G (.ins x dx C fs' :: M) := by
    rw [e]
    exact upd_upd
  rw [e2]
  exact k
def aMk (C : Addr) (sp : Sp) (E : XK) (vs : List V) (H : Hp) (Q : VK) : Prop := ∀ x dx, H x = Option.none → H dx = Option.none → dx ≠ x →
  sp (V.ref x :: vs) (upd (upd H dx (.own x)) x (.ins C dx [])) (fun v H2 => v = .non ∧ Q (.ref x) H2) E
theorem w_mk {sp : Sp} {E : XK} {t : TA} (k : t σ H fun vs H1 => aMk C sp E vs H1 Q) : StX.tMakeR C sp E t σ H Q := k
/-- the promise of an __init__ -/
def Iw {α : Type} (C : Addr) (pre : α → Hp → List V → Prop) (fin : α → Hp → List (Str × V) → Prop) : Sp := fun vs H Q _ => ∃ (a : α) (G : Hp) (x dx : Addr) (us : List V), vs = .ref x :: us ∧ H = jn G [.ins x dx C []] ∧ Dj G [.ins x dx C []] ∧ pre a G us ∧
  ∀ G' fs, Ex G G' → fin a G' fs → Dj G' [.ins x dx C fs] → Q .non (jn G' [.ins x dx C fs])
theorem w_new {α : Type} {pre : α → Hp → List V → Prop} {fin : α → Hp → List (Str × V) → Prop} {us : List V} {E : XK} (D : Dj G M) (a : α) (hp : pre a G us)
    (k : ∀ x dx G' fs, Ex G G' → fin a G' fs → Dj G' (.ins x dx C fs :: M) → Q (.ref x) (jn G' (.ins x dx C fs :: M))) : aMk C (Frm (Iw C pre fin)) E us (jn G M) Q := by
  intro x dx hx hdx ne
  have D1 : Dj G (.ins x dx C [] :: M) := D.mk1 (fun b hb => by
    have hb : b ∈ [x, dx] := hb
    simp at hb
    rcases hb with rfl | rfl
    · exact hx
    · exact hdx) (by show [x, dx].Nodup; simp; exact fun e => ne e.symm)
  refine ⟨jn G [.ins x dx C []], M, jn_drw D1, D1.drw, a, G, x, dx, us, rfl, rfl, D1.hd, hp, fun G' fs e fi D2 D3 => ⟨rfl, ?_⟩⟩
  have D4 := D2.both D3
  have q := k x dx G' fs e fi D4
  rw [jn_drw D4] at q
  exact q
/-- the same, the instance visible from then on -/
theorem w_newV {α : Type} {pre : α → Hp → List V → Prop} {fin : α → Hp → List (Str × V) → Prop} {us : List V} {E : XK} (D : Dj G M) (a : α) (hp : pre a G us)
    (k : ∀ x dx G1 G' fs, Ex G G1 → fin a G1 fs → Ex G1 G' → G x = none → G' x = some (.ins C dx fs) → Dj G' M → Q (.ref x) (jn G' M)) : aMk C (Frm (Iw C pre fin)) E us (jn G M) Q :=
  w_new D a hp fun x dx G' fs e fi D' => by
    obtain ⟨D2, e2⟩ := D'.show
    rw [jn_show D']
    exact k x dx G' _ fs e fi e2 (e.back (D'.out x (List.mem_append.mpr (.inl (List.mem_cons_self ..))))) upd_same D2
end
end Td

/-! L4: isinstance, what a class has, built-in names, the law's end. -/
namespace Td
open PySem L2

abbrev TYS : List String := ["int", "bool", "str", "list", "tuple", "dict", "NoneType"]
structure Cf (K : PySem.W.Frag) (mg : Str → Option Value) (x : Str) (C : Addr) (fields : List Str) : Prop where
  cl : Cls K C
  mg : mg x = some (.ref C)
  no : ∀ f ∈ fields, NoAttr K C f
  ha : PySem.W.findIn K (.ref C) "__class__" = some (some (.builtin "object.__class__"))
  hm : PySem.W.mroIn K C (.type "object") = some true
  sf : PySem.W.selfFirst K C = true
  nfs : PySem.W.notFirst K C (.ref C) = true
  nf : ∀ T ∈ TYS, PySem.W.notFirst K C (.type T) = true
  ki : ∀ T ∈ TYS, PySem.W.kitOne K (.type T) (.ref C) = some false
  ko : ∀ T ∈ TYS, PySem.W.kitOne K (.ref C) (.type T) = some false
/-- what is asked of the text as a whole -/
structure Gn (K : PySem.W.Frag) : Prop where
  hn : PySem.W.specialIn K (.builtin "object.__class__") "__get__" = some (some (.builtin "getset_descriptor.__get__"))
  htk : PySem.W.takesIn K (.builtin "object.__class__") = some true
structure Bt (mg : Str → Option Value) : Prop where
  iint : mg "int" = none
  ilen : mg "len" = none
  irange : mg "range" = none
  iisinstance : mg "isinstance" = none
  ienumerate : mg "enumerate" = none
  izip : mg "zip" = none
  ituple : mg "tuple" = none
  ilist : mg "list" = none
  ibool : mg "bool" = none
  istr : mg "str" = none
  idict : mg "dict" = none
  iabs : mg "abs" = none
  isum : mg "sum" = none
  iall : mg "all" = none
  iany : mg "any" = none
  idivmod : mg "divmod" = none
  iset : mg "set" = none
  isuper : mg "super" = none
theorem kit_int_int {K : PySem.W.Frag} : PySem.W.kitOne K (.type "int") (.type "int") = some true := kit_ty (by decide +kernel)
theorem kit_int_bool {K : PySem.W.Frag} : PySem.W.kitOne K (.type "int") (.type "bool") = some false := kit_ty (by decide +kernel)
theorem kit_int_str {K : PySem.W.Frag} : PySem.W.kitOne K (.type "int") (.type "str") = some false := kit_ty (by decide +kernel)
theorem kit_int_list {K : PySem.W.Frag} : PySem.W.kitOne K (.type "int") (.type "list") = some false := kit_ty (by decide +kernel)
theorem kit_int_tuple {K : PySem.W.Frag} : PySem.W.kitOne K (.type "int") (.type "tuple") = some false := kit_ty (by decide +kernel)
theorem kit_bool_int {K : PySem.W.Frag} : PySem.W.kitOne K (.type "bool") (.type "int") = some true := kit_ty (by decide +kernel)
theorem kit_bool_bool {K : PySem.W.Frag} : PySem.W.kitOne K (.type "bool") (.type "bool") = some true := kit_ty (by decide +kernel)
theorem kit_str_int {K : PySem.W.Frag} : PySem.W.kitOne K (.type "str") (.type "int") = some false := kit_ty (by decide +kernel)
theorem kit_str_str {K : PySem.W.Frag} : PySem.W.kitOne K (.type "str") (.type "str") = some true := kit_ty (by decide +kernel)
theorem kit_list_int {K : PySem.W.Frag} : PySem.W.kitOne K (.type "list") (.type "int") = some false := kit_ty (by decide +kernel)
theorem kit_list_list {K : PySem.W.Frag} : PySem.W.kitOne K (.type "list") (.type "list") = some true := kit_ty (by decide +kernel)
theorem kit_tuple_int {K : PySem.W.Frag} : PySem.W.kitOne K (.type "tuple") (.type "int") = some false := kit_ty (by decide +kernel)
theorem kit_tuple_tuple {K : PySem.W.Frag} : PySem.W.kitOne K (.type "tuple") (.type "tuple") = some true := kit_ty (by decide +kernel)
theorem kit_dict_int {K : PySem.W.Frag} : PySem.W.kitOne K (.type "dict") (.type "int") = some false := kit_ty (by decide +kernel)
theorem kit_none_int {K : PySem.W.Frag} : PySem.W.kitOne K (.type "NoneType") (.type "int") = some false := kit_ty (by decide +kernel)
theorem kit_self {K : PySem.W.Frag} {C : Addr} : PySem.W.kitOne K (.ref C) (.ref C) = some true := by
  unfold PySem.W.kitOne
  rw [if_pos (by simp)]
section
variable {K : PySem.W.Frag} {H : Hp} {x c : V} {t u : Value} {b : Bool} {Q : VK} {a C dx : Addr} {xs : List V} {fs : List (Str × V)} {kvs : List (Key × V)} {mg : Str → Option Value} {nm : Str} {fields : List Str}
theorem w_isi (k : ClsV c u) (ty : TyX K H x t) (e : PySem.W.kitOne K t u = some b) (q : Q (.bl b) H) : rIsi K [x, c] H Q := ⟨x, c, t, u, b, rfl, k, ty, e, q⟩
theorem tx_int {i : Int} : TyX K H (.int i) (.type "int") := .base (.int i)
theorem tx_bl {i : Bool} : TyX K H (.bl i) (.type "bool") := .base (.bl i)
theorem tx_str {i : Str} : TyX K H (.str i) (.type "str") := .base (.str i)
theorem tx_non : TyX K H .non (.type "NoneType") := .base .non
theorem tx_lst (h : H a = some (.lst xs)) : TyX K H (.ref a) (.type "list") := .base (.lst h)
theorem tx_tup (h : H a = some (.tup xs)) : TyX K H (.ref a) (.type "tuple") := .base (.tup h)
theorem tx_dK (h : H a = some (.dK kvs)) : TyX K H (.ref a) (.type "dict") := .base (.dK h)
theorem tx_ins (T : Cf K mg nm C fields) (N : Gn K) (h : H a = some (.ins C dx fs)) : TyX K H (.ref a) (.ref C) := .base (.ins h T.cl T.ha N.hn N.htk T.hm)
end
/-- the law's promise -/
def spLaw (K : PySem.W.Frag) : Sp := fun vs H Q _ => ∃ (a : Addr) (ns : List Int), vs = [.ref a] ∧ SqL K H a (ns.map V.int) ∧ ns.length ≤ 63 ∧ ∀ H', Q (.bl true) H'
theorem walk {l : PySem.W.OpenLaw} {q : Program} {loose : List Str} {XP : (Str → Option Value) → Heap → Prop} {YP : World → Heap → Prop} {d : DefRec} {K : Params → PySem.W.Frag} {k : Nat} {x : Str} (hk : k ≤ 200) (hn : l.most = some 63) (hdf : d.params.defaults = [])
    (hx : d.scope.names.lookup x = some .local ∨ d.scope.names.lookup x = some .cell := by first | exact .inl rfl | exact .inr rfl)
    (hY : ∀ (w : World) (h : Heap), YP w h → (K w.params).In h)
    (F : ∀ (w : World) (mg : Str → Option Value) (fa : Addr) (h : Heap), (K w.params).In h → h.Ns mainGlobals mg → mg d.name = some (.ref fa) →
      ∃ fd : FuncData, (∀ (s : Shared) (u : Value), BindsTo s fd ⟨[u], []⟩ [(x, u)]) ∧ ∀ base : Heap, (K w.params).In base → base.Ns mainGlobals mg → FnOk l.prog w (K w.params) mg base CX0 k fa fd [x] (spLaw (K w.params))) : True := True.intro
end Td

/-! L5: loops, comprehensions, own lists and dicts over worlds. -/
namespace Td
open PySem L2

/-! ### own lists that come back -/
section
variable {G : Hp} {M : List Mo} {m c g : Addr} {d : DS} {Q : VK} {E : XK} {vs us : List V}
theorem Dj.lst {p : Addr} {xs ys : List V} (D : Dj G (.lst p xs :: M)) : Dj G (.lst p ys :: M) := D.swap rfl
theorem Dj.lst1 {o : Mo} {p : Addr} {xs ys : List V} (D : Dj G (o :: .lst p xs :: M)) : Dj G (o :: .lst p ys :: M) := ⟨D.nd, D.out⟩
/-- the promise of a def that hands back a new list that may change -/
def Pl {α : Type} (pre : α → Hp → List V → Prop) (post : α → List V → Hp → Prop) : Sp := fun vs H Q _ => ∃ a, pre a H vs ∧ ∀ p xs G', Ex H G' → post a xs G' → Dj G' [.lst p xs] → Q (.ref p) (jn G' [.lst p xs])
theorem w_pl {α : Type} {pre : α → Hp → List V → Prop} {post : α → List V → Hp → Prop} (D : Dj G M) (a : α) (hp : pre a G vs) (k : ∀ p xs G', Ex G G' → post a xs G' → Dj G' (.lst p xs :: M) → Q (.ref p) (jn G' (.lst p xs :: M))) : aCl (Frm (Pl pre post)) vs (jn G M) Q E :=
  ⟨G, M, rfl, D, a, hp, fun p xs G' e po D1 D2 => by
    have D3 := D1.both D2
    have q := k p xs G' e po D3
    rw [jn_drw D3] at q
    exact q⟩
theorem w_plV {α : Type} {pre : α → Hp → List V → Prop} {post : α → List V → Hp → Prop} (D : Dj G M) (a : α) (hp : pre a G vs) (k : ∀ p xs G1 G', Ex G G1 → post a xs G1 → Ex G1 G' → Ex G G' → G p = none → G' p = some (.lst xs) → Dj G' M → Q (.ref p) (jn G' M)) : aCl (Frm (Pl pre post)) vs (jn G M) Q E :=
  w_pl D a hp fun p xs G' e po D' => by
    obtain ⟨D2, e2⟩ := D'.show
    rw [jn_show D']
    exact k p xs G' _ e po e2 (e.trans e2) (e.back (D'.out p (List.mem_cons_self ..))) upd_same D2
/-- the same of a def that draws -/
def Dl {α : Type} (n : Int) (pre : α → Hp → List V → Prop) (post : α → List V → Hp → Prop) : Sp := fun vs H Q _ => ∃ (a : α) (G : Hp) (m c g : Addr) (d : DS) (us : List V), vs = .ref m :: us ∧ H = jn G [.drw m c g d] ∧ Dj G [.drw m c g d] ∧ OkD d ∧ d.n + n ≤ 2 ^ 59 ∧ pre a G us ∧
  ∀ p xs G' d', Ex G G' → Nx d d' n → post a xs G' → Dj G' [.drw m c g d', .lst p xs] → Q (.ref p) (jn G' [.drw m c g d', .lst p xs])
theorem keys2 {o u : Mo} : keys [o, u] = o.keys ++ u.keys := by
  show o.keys ++ (u.keys ++ []) = _
  rw [List.append_nil]
theorem Dj.both2 {o u : Mo} (D1 : Dj G [o, u]) (D2 : Dj (jn G [o, u]) M) : Dj G (o :: u :: M) := by
  refine ⟨?_, fun a ha => ?_⟩
  · show (o.keys ++ (u.keys ++ keys M)).Nodup
    rw [← List.append_assoc, ← keys2]
    refine List.nodup_append.mpr ⟨D1.nd, D2.nd, fun a ha b hb e => ?_⟩
    subst e
    exact (jn_none (D2.out a hb)).1 ha
  · have ha : a ∈ o.keys ++ (u.keys ++ keys M) := ha
    rw [← List.append_assoc, ← keys2] at ha
    rcases List.mem_append.mp ha with q | q
    · exact D1.out a q
    · exact (jn_none (D2.out a q)).2
theorem jn_drw2 {o u : Mo} (D : Dj G (o :: u :: M)) : jn G (o :: u :: M) = jn (jn G [o, u]) M := by
  have e1 : jn G (o :: u :: M) = jn (jn G [o]) (u :: M) := jn_drw D
  have e2 : jn (jn G [o]) (u :: M) = jn (jn (jn G [o]) [u]) M := jn_drw D.drw
  have D3 : Dj G [o, u] := by
    have h := D.nd
    have h : (o.keys ++ (u.keys ++ keys M)).Nodup := h
    rw [← List.append_assoc] at h
    exact ⟨by rw [keys2]; exact (List.nodup_append.mp h).1, fun a ha => D.out a (by
      rw [keys2] at ha
      show a ∈ o.keys ++ (u.keys ++ keys M)
      rw [← List.append_assoc]
      exact List.mem_append.mpr (.inl ha))⟩
  have e3 : jn G [o, u] = jn (jn G [o]) [u] := jn_drw D3
  rw [e1, e2, e3]
theorem w_dl {α : Type} {n : Int} {pre : α → Hp → List V → Prop} {post : α → List V → Hp → Prop} (D : Dj G (.drw m c g d :: M)) (ok : OkD d) (hn : d.n + n ≤ 2 ^ 59) (a : α) (hp : pre a G us)
    (k : ∀ p xs G' d', Ex G G' → Nx d d' n → post a xs G' → Dj G' (.drw m c g d' :: .lst p xs :: M) → Q (.ref p) (jn G' (.drw m c g d' :: .lst p xs :: M))) : aCl (Frm (Dl n pre post)) (.ref m :: us) (jn G (.drw m c g d :: M)) Q E := by
  refine ⟨jn G [.drw m c g d], M, jn_drw D, D.drw, a, G, m, c, g, d, us, rfl, rfl, D.hd, ok, hn, hp, fun p xs G' d' e nx po D1 D2 => ?_⟩
  have D3 := D1.both2 D2
  have q := k p xs G' d' e nx po D3
  rw [jn_drw2 D3] at q
  exact q
theorem w_dlV {α : Type} {n : Int} {pre : α → Hp → List V → Prop} {post : α → List V → Hp → Prop} (D : Dj G (.drw m c g d :: M)) (ok : OkD d) (hn : d.n + n ≤ 2 ^ 59) (a : α) (hp : pre a G us)
    (k : ∀ p xs G1 G' d', Ex G G1 → post a xs G1 → Ex G1 G' → Ex G G' → Nx d d' n → G p = none → G' p = some (.lst xs) → Dj G' (.drw m c g d' :: M) → Q (.ref p) (jn G' (.drw m c g d' :: M))) : aCl (Frm (Dl n pre post)) (.ref m :: us) (jn G (.drw m c g d :: M)) Q E :=
  w_dl D ok hn a hp fun p xs G' d' e nx po D' => by
    have Dc := D'.comm
    obtain ⟨D2, e2⟩ := Dc.show
    rw [jn_comm D', jn_show Dc]
    exact k p xs G' _ d' e po e2 (e.trans e2) nx (e.back (Dc.out p (List.mem_cons_self ..))) upd_same D2
/-- a new list that will change, behind the first own object -/
theorem w_ownL1 {o : Mo} {xs : List V} (D : Dj G (o :: M)) (hl : xs.length ≤ sizeLine) (k : ∀ p, Dj G (o :: .lst p xs :: M) → Q (.ref p) (jn G (o :: .lst p xs :: M))) : aLst xs (jn G (o :: M)) Q :=
  w_ownL D hl fun p D' => by
    rw [jn_comm D']
    exact k p D'.comm
/-! ### own lists read and changed -/
theorem own0 {p : Addr} {xs : List V} : jn G (.lst p xs :: M) p = some (.lst xs) := upd_same
theorem own1 {o : Mo} {p : Addr} {xs : List V} (D : Dj G (o :: .lst p xs :: M)) : jn G (o :: .lst p xs :: M) p = some (.lst xs) := by
  rw [jn_comm D]
  exact upd_same
theorem own2 {o u : Mo} {p : Addr} {xs : List V} (D : Dj G (o :: u :: .lst p xs :: M)) : jn G (o :: u :: .lst p xs :: M) p = some (.lst xs) := by
  have h : p ∉ o.keys := fun q => D.head p q (List.mem_append.mpr (.inr (List.mem_append.mpr (.inl (List.mem_cons_self ..)))))
  exact (put_out h).trans (own1 D.tail)
theorem set0 {p : Addr} {xs ys : List V} : upd (jn G (.lst p xs :: M)) p (.lst ys) = jn G (.lst p ys :: M) := upd_upd
theorem set1 {o : Mo} {p : Addr} {xs ys : List V} (D : Dj G (o :: .lst p xs :: M)) : upd (jn G (o :: .lst p xs :: M)) p (.lst ys) = jn G (o :: .lst p ys :: M) := by
  have D' : Dj G (o :: .lst p ys :: M) := D.lst1
  rw [jn_comm D, jn_comm D']
  exact upd_upd
def aSet (p : Addr) (i : Int) (v : V) (H : Hp) (Q : Hp → Prop) : Prop := ∃ xs j, H p = some (.lst xs) ∧ ixN xs.length i = some j ∧ Q (upd H p (.lst (xs.set j v)))
theorem w_set {p : Addr} {i : Int} {v : V} {H : Hp} {Q : Hp → Prop} (k : aSet p i v H Q) : rSetL (.ref p) (.int i) v H Q := by
  obtain ⟨xs, j, h1, h2, h3⟩ := k
  exact ⟨p, xs, i, j, rfl, rfl, h1, h2, h3⟩
theorem w_set0 {p : Addr} {xs : List V} {i : Int} {j : Nat} {v : V} {Q : Hp → Prop} (h : ixN xs.length i = some j) (k : Q (jn G (.lst p (xs.set j v) :: M))) : aSet p i v (jn G (.lst p xs :: M)) Q := ⟨xs, j, own0, h, by rw [set0]; exact k⟩
theorem w_set1 {o : Mo} {p : Addr} {xs : List V} {i : Int} {j : Nat} {v : V} {Q : Hp → Prop} (D : Dj G (o :: .lst p xs :: M)) (h : ixN xs.length i = some j) (k : Q (jn G (o :: .lst p (xs.set j v) :: M))) : aSet p i v (jn G (o :: .lst p xs :: M)) Q := ⟨xs, j, own1 D, h, by rw [set1 D]; exact k⟩
theorem ixN_nat {n : Nat} {i : Int} {j : Nat} (e : i = (j : Int)) (h : j < n) : ixN n i = some j := by
  unfold ixN
  rw [if_pos (by omega), if_pos (by omega)]
  congr 1
  omega
/-- xs.append(v) -/
def aApp (p : Addr) (v : V) (H : Hp) (Q : VK) : Prop := ∃ xs, H p = some (.lst xs) ∧ xs.length < sizeLine ∧ Q .non (upd H p (.lst (xs ++ [v])))
theorem w_app {K : PySem.W.Frag} {σ : L2.St} {H : Hp} {ta : TE} {tr : TA} (k : ta σ H fun x H1 => (∃ p, x = .ref p ∧ ∃ xs, SqL K H1 p xs) ∧ tr σ H1 fun vs H2 => ∃ p v, x = .ref p ∧ vs = [v] ∧ aApp p v H2 Q) (mono : ∀ R R' : VK, (∀ v H, R v H → R' v H) → ta σ H R → ta σ H R') (mono2 : ∀ (R R' : List V → Hp → Prop) H, (∀ v H, R v H → R' v H) → tr σ H R → tr σ H R') : tBM K "list" rAppend ta tr σ H Q :=
  mono _ _ (fun x H1 ⟨⟨p, e, xs, h⟩, q⟩ => ⟨by subst e; exact .inl ⟨rfl, xs, h⟩, mono2 _ _ _ (fun vs H2 ⟨p, v, e1, e2, xs, h1, h2, h3⟩ => ⟨p, xs, v, e1, e2, h1, h2, h3⟩) q⟩) k
def aBM (K : PySem.W.Frag) (T : String) (r : V → List V → Hp → VK → Prop) (σ : L2.St) (tr : TA) (x : V) (H : Hp) (Q : VK) : Prop := tyV K T x H ∧ tr σ H fun vs H2 => r x vs H2 Q
theorem w_bm {K : PySem.W.Frag} {T : String} {r : V → List V → Hp → VK → Prop} {σ : L2.St} {H : Hp} {ta : TE} {tr : TA} (k : ta σ H fun x H1 => aBM K T r σ tr x H1 Q) : tBM K T r ta tr σ H Q := k
theorem w_bmL {K : PySem.W.Frag} {r : V → List V → Hp → VK → Prop} {σ : L2.St} {H : Hp} {tr : TA} {p : Addr} {xs : List V} (h : SqL K H p xs) (k : tr σ H fun vs H2 => r (.ref p) vs H2 Q) : aBM K "list" r σ tr (.ref p) H Q := ⟨.inl ⟨rfl, xs, h⟩, k⟩
theorem w_app0 {p : Addr} {xs : List V} {v : V} (h : xs.length < sizeLine) (k : Q .non (jn G (.lst p (xs ++ [v]) :: M))) : rAppend (.ref p) [v] (jn G (.lst p xs :: M)) Q := ⟨p, xs, v, rfl, rfl, own0, h, by rw [set0]; exact k⟩
theorem w_app1 {o : Mo} {p : Addr} {xs : List V} {v : V} (D : Dj G (o :: .lst p xs :: M)) (h : xs.length < sizeLine) (k : Q .non (jn G (o :: .lst p (xs ++ [v]) :: M))) : rAppend (.ref p) [v] (jn G (o :: .lst p xs :: M)) Q := ⟨p, xs, v, rfl, rfl, own1 D, h, by rw [set1 D]; exact k⟩
end

/-! ### loops -/
/-- what a turn must come to -/
def Nxt (G : Hp) (Inv : L2.St → Hp → List Mo → Prop) (σ : L2.St) (H : Hp) : Prop := ∃ G' M', H = jn G' M' ∧ Ex G G' ∧ Dj G' M' ∧ Inv σ G' M'
theorem nxt {G G' : Hp} {M : List Mo} {Inv : L2.St → Hp → List Mo → Prop} {σ : L2.St} (e : Ex G G') (D : Dj G' M) (h : Inv σ G' M) : Nxt G Inv σ (jn G' M) := ⟨G', M, rfl, e, D, h⟩
def aFor (J : It) (g : TG) (tb : TS) (D : Ends) (σ : L2.St) (H : Hp) : Prop := ∃ W : Nat → Nat → L2.St → Hp → Prop, (∃ m, W 0 m σ H) ∧ ∀ i m σ H, W i m σ H →
  (J.stop i H ∧ D.nx σ H) ∨ (J.go i H ∧ ∃ N : L2.St → Hp → Prop, (∀ σ' H', N σ' H' → ∃ m', m' < m ∧ W (i + 1) m' σ' H') ∧ ∀ x H', J.yld i H x H' → g x σ H' fun σ2 H2 => tb { D with nx := N, ct := N, bk := D.nx } σ2 H2)
section
variable {K : PySem.W.Frag} {wi : TI} {g : TG} {tb : TS} {E : Ends} {σ : L2.St} {H G : Hp} {M : List Mo} {ta : TA} {te : TE} {a b : Addr} {xs ys : List V} {n : Nat} {lo : Int}
theorem w_for (k : wi σ H fun J H1 => aFor J g tb E σ H1) : tFor wi g tb E σ H := k
def aIL (K : PySem.W.Frag) (x : V) (H : Hp) (R : It → Hp → Prop) : Prop := ∃ a, x = .ref a ∧ (∃ xs, SqL K H a xs) ∧ R (Itl K a) H
def aIT (K : PySem.W.Frag) (x : V) (H : Hp) (R : It → Hp → Prop) : Prop := ∃ a, x = .ref a ∧ (∃ xs, SqT K H a xs) ∧ R (Itt K a) H
variable {R : It → Hp → Prop}
theorem w_iL (k : te σ H fun x H1 => aIL K x H1 R) : iList K te σ H R := k
theorem w_iT (k : te σ H fun x H1 => aIT K x H1 R) : iTup K te σ H R := k
theorem w_iL1 (h : SqL K H a xs) (k : R (Itl K a) H) : aIL K (.ref a) H R := ⟨a, rfl, ⟨xs, h⟩, k⟩
theorem w_iT1 (h : SqT K H a xs) (k : R (Itt K a) H) : aIT K (.ref a) H R := ⟨a, rfl, ⟨xs, h⟩, k⟩
def aIR1 (vs : List V) (H : Hp) (R : It → Hp → Prop) : Prop := ∃ j : Int, vs = [.int j] ∧ -(2 ^ 62) ≤ j ∧ j < 2 ^ 62 ∧ R (Itr 0 j.toNat) H
theorem w_iR1 (k : ta σ H fun vs H1 => aIR1 vs H1 R) : iRng1 ta σ H R := k
theorem w_iR {j : Int} (h1 : -(2 ^ 62) ≤ j) (h2 : j < 2 ^ 62) (k : R (Itr 0 j.toNat) H) : aIR1 [.int j] H R := ⟨j, rfl, h1, h2, k⟩
def aIR2 (vs : List V) (H : Hp) (R : It → Hp → Prop) : Prop := ∃ i j : Int, vs = [.int i, .int j] ∧ (-(2 ^ 62) ≤ i ∧ i < 2 ^ 62 ∧ -(2 ^ 62) ≤ j ∧ j < 2 ^ 62) ∧ R (Itr i (j - i).toNat) H
theorem w_iR2 (k : ta σ H fun vs H1 => aIR2 vs H1 R) : iRng2 ta σ H R := k
theorem w_iRR {i j : Int} (h : -(2 ^ 62) ≤ i ∧ i < 2 ^ 62 ∧ -(2 ^ 62) ≤ j ∧ j < 2 ^ 62) (k : R (Itr i (j - i).toNat) H) : aIR2 [.int i, .int j] H R := ⟨i, j, rfl, h, k⟩
def aIE (K : PySem.W.Frag) (vs : List V) (H : Hp) (R : It → Hp → Prop) : Prop := ∃ a xs, vs = [.ref a] ∧ SqL K H a xs ∧ R (Ite K a) H
theorem w_iE (k : ta σ H fun vs H1 => aIE K vs H1 R) : iEnum K ta σ H R := k
theorem w_iE1 (h : SqL K H a xs) (k : R (Ite K a) H) : aIE K [.ref a] H R := ⟨a, xs, rfl, h, k⟩
def aIZ (K : PySem.W.Frag) (vs : List V) (H : Hp) (R : It → Hp → Prop) : Prop := ∃ a b xs ys, vs = [.ref a, .ref b] ∧ SqL K H a xs ∧ SqL K H b ys ∧ R (Itz K a b) H
theorem w_iZ (k : ta σ H fun vs H1 => aIZ K vs H1 R) : iZip K ta σ H R := k
theorem w_iZ1 (h : SqL K H a xs) (h2 : SqL K H b ys) (k : R (Itz K a b) H) : aIZ K [.ref a, .ref b] H R := ⟨a, b, xs, ys, rfl, h, h2, k⟩
/-- the loop by what holds of turn, slots, visible heap, own objects -/
theorem w_loop {J : It} {Gd : Hp → Prop} {Y : Nat → Hp → V → Hp → Prop} (w : Walk J n Gd Y) (D : Dj G M) (Inv : Nat → L2.St → Hp → List Mo → Prop) (h0 : Inv 0 σ G M)
    (hG : ∀ i σ' G' M', i ≤ n → Ex G G' → Dj G' M' → Inv i σ' G' M' → Gd (jn G' M'))
    (hs : ∀ i x σ' G' M' H', i < n → Ex G G' → Dj G' M' → Inv i σ' G' M' → Y i (jn G' M') x H' → g x σ' H' fun σ2 H2 => tb { E with nx := Nxt G (Inv (i + 1)), ct := Nxt G (Inv (i + 1)), bk := E.nx } σ2 H2)
    (hd : ∀ σ' G' M', Ex G G' → Dj G' M' → Inv n σ' G' M' → E.nx σ' (jn G' M')) : aFor J g tb E σ (jn G M) :=
  for_it w (fun i => Nxt G (Inv i)) (nxt (Ex.refl _) D h0) (fun i σ' H' hi p => by
    obtain ⟨G', M', rfl, e, D', q⟩ := p
    exact hG i σ' G' M' hi e D' q) (fun i x σ' H1 H2 hi p y => by
    obtain ⟨G', M', rfl, e, D', q⟩ := p
    exact hs i x σ' G' M' H2 hi e D' q y) fun σ' H' p => by
    obtain ⟨G', M', rfl, e, D', q⟩ := p
    exact hd σ' G' M' e D' q
theorem w_fL (D : Dj G M) (Inv : Nat → L2.St → Hp → List Mo → Prop) (h0 : Inv 0 σ G M) (hG : ∀ i σ' G' M', i ≤ xs.length → Ex G G' → Dj G' M' → Inv i σ' G' M' → SqL K (jn G' M') a xs)
    (hs : ∀ i x σ' G' M', xs[i]? = some x → Ex G G' → Dj G' M' → Inv i σ' G' M' → g x σ' (jn G' M') fun σ2 H2 => tb { E with nx := Nxt G (Inv (i + 1)), ct := Nxt G (Inv (i + 1)), bk := E.nx } σ2 H2)
    (hd : ∀ σ' G' M', Ex G G' → Dj G' M' → Inv xs.length σ' G' M' → E.nx σ' (jn G' M')) : aFor (Itl K a) g tb E σ (jn G M) :=
  w_loop walk_list D Inv h0 hG (fun i x σ' G' M' H' hi e D' q y => by
    obtain ⟨rfl, hx⟩ := y
    exact hs i x σ' G' M' hx e D' q) hd
theorem w_fT (D : Dj G M) (Inv : Nat → L2.St → Hp → List Mo → Prop) (h0 : Inv 0 σ G M) (hG : ∀ i σ' G' M', i ≤ xs.length → Ex G G' → Dj G' M' → Inv i σ' G' M' → SqT K (jn G' M') a xs)
    (hs : ∀ i x σ' G' M', xs[i]? = some x → Ex G G' → Dj G' M' → Inv i σ' G' M' → g x σ' (jn G' M') fun σ2 H2 => tb { E with nx := Nxt G (Inv (i + 1)), ct := Nxt G (Inv (i + 1)), bk := E.nx } σ2 H2)
    (hd : ∀ σ' G' M', Ex G G' → Dj G' M' → Inv xs.length σ' G' M' → E.nx σ' (jn G' M')) : aFor (Itt K a) g tb E σ (jn G M) :=
  w_loop walk_tup D Inv h0 hG (fun i x σ' G' M' H' hi e D' q y => by
    obtain ⟨rfl, hx⟩ := y
    exact hs i x σ' G' M' hx e D' q) hd
theorem w_fR (D : Dj G M) (Inv : Nat → L2.St → Hp → List Mo → Prop) (h0 : Inv 0 σ G M)
    (hs : ∀ (i : Nat) σ' G' M', i < n → Ex G G' → Dj G' M' → Inv i σ' G' M' → g (.int (lo + (i : Int))) σ' (jn G' M') fun σ2 H2 => tb { E with nx := Nxt G (Inv (i + 1)), ct := Nxt G (Inv (i + 1)), bk := E.nx } σ2 H2)
    (hd : ∀ σ' G' M', Ex G G' → Dj G' M' → Inv n σ' G' M' → E.nx σ' (jn G' M')) : aFor (Itr lo n) g tb E σ (jn G M) :=
  w_loop walk_range D Inv h0 (fun _ _ _ _ _ _ _ _ => True.intro) (fun i x σ' G' M' H' hi e D' q y => by
    obtain ⟨rfl, rfl⟩ := y
    exact hs i σ' G' M' hi e D' q) hd
/-- a loop whose items are new pairs -/
theorem w_pair {J : It} {Gd : Hp → Prop} {px py : Nat → Option V} (w : Walk J n Gd (YPair px py)) (D : Dj G M) (Inv : Nat → L2.St → Hp → List Mo → Prop) (h0 : Inv 0 σ G M)
    (hG : ∀ i σ' G' M', i ≤ n → Ex G G' → Dj G' M' → Inv i σ' G' M' → Gd (jn G' M'))
    (hs : ∀ i x y T σ' G' G2 M', px i = some x → py i = some y → Ex G G' → Ex G' G2 → Dj G2 M' → Inv i σ' G' M' → G2 T = some (.tup [x, y]) → g (.ref T) σ' (jn G2 M') fun σ2 H2 => tb { E with nx := Nxt G (Inv (i + 1)), ct := Nxt G (Inv (i + 1)), bk := E.nx } σ2 H2)
    (hd : ∀ σ' G' M', Ex G G' → Dj G' M' → Inv n σ' G' M' → E.nx σ' (jn G' M')) : aFor J g tb E σ (jn G M) :=
  w_loop w D Inv h0 hG (fun i v σ' G' M' H' hi e D' q y => by
    obtain ⟨T, x, y, rfl, hT, rfl, hx, hy⟩ := y
    obtain ⟨h1, h2⟩ := jn_none hT
    rw [jn_new h1]
    exact hs i x y T σ' G' _ M' hx hy e (Ex.new h2) (D'.new h1) q upd_same) hd
theorem w_fE (D : Dj G M) (Inv : Nat → L2.St → Hp → List Mo → Prop) (h0 : Inv 0 σ G M) (hG : ∀ i σ' G' M', i ≤ xs.length → Ex G G' → Dj G' M' → Inv i σ' G' M' → SqL K (jn G' M') a xs)
    (hs : ∀ (i : Nat) x T σ' G' G2 M', xs[i]? = some x → Ex G G' → Ex G' G2 → Dj G2 M' → Inv i σ' G' M' → G2 T = some (.tup [.int (i : Int), x]) → g (.ref T) σ' (jn G2 M') fun σ2 H2 => tb { E with nx := Nxt G (Inv (i + 1)), ct := Nxt G (Inv (i + 1)), bk := E.nx } σ2 H2)
    (hd : ∀ σ' G' M', Ex G G' → Dj G' M' → Inv xs.length σ' G' M' → E.nx σ' (jn G' M')) : aFor (Ite K a) g tb E σ (jn G M) :=
  w_pair walk_enum D Inv h0 hG (fun i x y T σ' G' G2 M' hx hy e e2 D2 q hT => by
    have hx : some (V.int ((i : Nat) : Int)) = some x := hx
    cases hx
    exact hs i y T σ' G' G2 M' hy e e2 D2 q hT) hd
theorem w_fZ (hl : xs.length = ys.length) (D : Dj G M) (Inv : Nat → L2.St → Hp → List Mo → Prop) (h0 : Inv 0 σ G M) (hG : ∀ i σ' G' M', i ≤ xs.length → Ex G G' → Dj G' M' → Inv i σ' G' M' → SqL K (jn G' M') a xs ∧ SqL K (jn G' M') b ys)
    (hs : ∀ (i : Nat) x y T σ' G' G2 M', xs[i]? = some x → ys[i]? = some y → Ex G G' → Ex G' G2 → Dj G2 M' → Inv i σ' G' M' → G2 T = some (.tup [x, y]) → g (.ref T) σ' (jn G2 M') fun σ2 H2 => tb { E with nx := Nxt G (Inv (i + 1)), ct := Nxt G (Inv (i + 1)), bk := E.nx } σ2 H2)
    (hd : ∀ σ' G' M', Ex G G' → Dj G' M' → Inv xs.length σ' G' M' → E.nx σ' (jn G' M')) : aFor (Itz K a b) g tb E σ (jn G M) :=
  w_pair (walk_zip (n := xs.length) (by omega)) D Inv h0 hG hs hd
end
/-! ### comprehensions -/
def aLc (J : It) (g : TG) (tt : TT) (te : TE) (vs : List Nat) (σ : L2.St) (H1 : Hp) (Q : VK) : Prop := ∀ D, H1 D = none → ∃ W : Nat → Nat → Hp → Prop, (∃ m, W 0 m (upd H1 D (.lst []))) ∧ ∀ i m H, W i m H →
  (J.stop i H ∧ Q (.ref D) H) ∨ (J.go i H ∧ ∃ Nx : Hp → Prop, (∀ H', Nx H' → ∃ m', m' < m ∧ W (i + 1) m' H') ∧ ∀ x H', J.yld i H x H' → g x (wipe σ vs) H' fun σ2 H2 => wipe σ2 vs = wipe σ vs ∧ tt σ2 H2 fun b H3 =>
    if b = true then te σ2 H3 fun y H4 => ∃ acc, H4 D = some (.lst acc) ∧ acc.length < sizeLine ∧ Nx (upd H4 D (.lst (acc ++ [y]))) else Nx H3)
section
variable {K : PySem.W.Frag} {wi : TI} {g : TG} {tt : TT} {te : TE} {σ : L2.St} {H G : Hp} {M : List Mo} {Q : VK} {us : List Nat} {n : Nat} {a b : Addr} {xs ys : List V} {lo : Int}
theorem w_lc (k : wi σ H fun J H1 => aLc J g tt te us σ H1 Q) : tLc wi g tt te us σ H Q := k
/-- behind a turn: the item goes to the new list at D -/
def aAcc (D : Addr) (Pv : Hp → Prop) (y : V) (H : Hp) : Prop := ∃ acc, H D = some (.lst acc) ∧ acc.length < sizeLine ∧ Pv (upd H D (.lst (acc ++ [y])))
/-- the new list stands in front of the own objects -/
def Cmp (G : Hp) (D : Addr) (Inv : List V → Hp → List Mo → Prop) (H : Hp) : Prop := ∃ acc G' M', H = jn G' (.lst D acc :: M') ∧ Ex G G' ∧ Dj G' (.lst D acc :: M') ∧ Inv acc G' M'
/-- .. behind the first one -/
def Cmp1 (G : Hp) (D : Addr) (Inv : List V → Hp → Mo → List Mo → Prop) (H : Hp) : Prop := ∃ acc G' o M', H = jn G' (o :: .lst D acc :: M') ∧ Ex G G' ∧ Dj G' (o :: .lst D acc :: M') ∧ Inv acc G' o M'
theorem cmp {G G' : Hp} {M : List Mo} {Inv : List V → Hp → List Mo → Prop} {D : Addr} {ac : List V} {y : V} (e : Ex G G') (D' : Dj G' (.lst D ac :: M)) (hz : ac.length ≤ 100000) (h : Inv (ac ++ [y]) G' M) : aAcc D (Cmp G D Inv) y (jn G' (.lst D ac :: M)) :=
  ⟨ac, own0, Nat.lt_of_le_of_lt hz (by decide), ac ++ [y], G', M, set0, e, D'.lst, h⟩
theorem cmp_skip {G G' : Hp} {M : List Mo} {Inv : List V → Hp → List Mo → Prop} {D : Addr} {ac : List V} (e : Ex G G') (D' : Dj G' (.lst D ac :: M)) (h : Inv ac G' M) : Cmp G D Inv (jn G' (.lst D ac :: M)) := ⟨ac, G', M, rfl, e, D', h⟩
theorem cmp1 {G G' : Hp} {o : Mo} {M : List Mo} {Inv : List V → Hp → Mo → List Mo → Prop} {D : Addr} {ac : List V} {y : V} (e : Ex G G') (D' : Dj G' (o :: .lst D ac :: M)) (hz : ac.length ≤ 100000) (h : Inv (ac ++ [y]) G' o M) : aAcc D (Cmp1 G D Inv) y (jn G' (o :: .lst D ac :: M)) :=
  ⟨ac, own1 D', Nat.lt_of_le_of_lt hz (by decide), ac ++ [y], G', o, M, set1 D', e, D'.lst1, h⟩
theorem cmp1_skip {G G' : Hp} {o : Mo} {M : List Mo} {Inv : List V → Hp → Mo → List Mo → Prop} {D : Addr} {ac : List V} (e : Ex G G') (D' : Dj G' (o :: .lst D ac :: M)) (h : Inv ac G' o M) : Cmp1 G D Inv (jn G' (o :: .lst D ac :: M)) := ⟨ac, G', o, M, rfl, e, D', h⟩
/-- what an item's turn says of the slots -/
def aWp (us : List Nat) (σ σ2 : L2.St) (P : Prop) : Prop := wipe σ2 us = wipe σ us ∧ P
theorem w_wp {σ2 : L2.St} {P : Prop} (h : wipe σ2 us = wipe σ us) (k : P) : aWp us σ σ2 P := ⟨h, k⟩
theorem w_comp {J : It} {Gd : Hp → Prop} {Y : Nat → Hp → V → Hp → Prop} (w : Walk J n Gd Y) (D : Dj G M) (Inv : Nat → List V → Hp → List Mo → Prop) (h0 : Inv 0 [] G M)
    (hG : ∀ i acc Dl G' M', i ≤ n → Ex G G' → Dj G' (.lst Dl acc :: M') → Inv i acc G' M' → Gd (jn G' (.lst Dl acc :: M')))
    (hs : ∀ i x Dl acc G' M' H', i < n → Ex G G' → Dj G' (.lst Dl acc :: M') → Inv i acc G' M' → Y i (jn G' (.lst Dl acc :: M')) x H' → g x (wipe σ us) H' fun σ2 H2 => aWp us σ σ2 (tt σ2 H2 fun b H3 =>
      if b = true then te σ2 H3 fun y H4 => aAcc Dl (Cmp G Dl (Inv (i + 1))) y H4 else Cmp G Dl (Inv (i + 1)) H3))
    (hd : ∀ Dl acc G' M', Ex G G' → Dj G' (.lst Dl acc :: M') → Inv n acc G' M' → Q (.ref Dl) (jn G' (.lst Dl acc :: M'))) : aLc J g tt te us σ (jn G M) Q := by
  intro Dl hD
  refine lc_it w (fun i => Cmp G Dl (Inv i)) ?_ ?_ ?_ ?_
  · exact ⟨[], G, M, rfl, Ex.refl _, D.mk1 (fun a ha => by rw [List.mem_singleton.mp ha]; exact hD) (List.nodup_cons.mpr ⟨by simp, List.nodup_nil⟩), h0⟩
  · rintro i H hi ⟨acc, G', M', rfl, e, D', q⟩
    exact hG i acc Dl G' M' hi e D' q
  · rintro i x H1 H2 hi ⟨acc, G', M', rfl, e, D', q⟩ y
    exact hs i x Dl acc G' M' H2 hi e D' q y
  · rintro H ⟨acc, G', M', rfl, e, D', q⟩
    exact hd Dl acc G' M' e D' q
theorem w_comp1 {J : It} {Gd : Hp → Prop} {Y : Nat → Hp → V → Hp → Prop} {o : Mo} (w : Walk J n Gd Y) (D : Dj G (o :: M)) (Inv : Nat → List V → Hp → Mo → List Mo → Prop) (h0 : Inv 0 [] G o M)
    (hG : ∀ i acc Dl G' o' M', i ≤ n → Ex G G' → Dj G' (o' :: .lst Dl acc :: M') → Inv i acc G' o' M' → Gd (jn G' (o' :: .lst Dl acc :: M')))
    (hs : ∀ i x Dl acc G' o' M' H', i < n → Ex G G' → Dj G' (o' :: .lst Dl acc :: M') → Inv i acc G' o' M' → Y i (jn G' (o' :: .lst Dl acc :: M')) x H' → g x (wipe σ us) H' fun σ2 H2 => aWp us σ σ2 (tt σ2 H2 fun b H3 =>
      if b = true then te σ2 H3 fun y H4 => aAcc Dl (Cmp1 G Dl (Inv (i + 1))) y H4 else Cmp1 G Dl (Inv (i + 1)) H3))
    (hd : ∀ Dl acc G' o' M', Ex G G' → Dj G' (o' :: .lst Dl acc :: M') → Inv n acc G' o' M' → Q (.ref Dl) (jn G' (o' :: .lst Dl acc :: M'))) : aLc J g tt te us σ (jn G (o :: M)) Q := by
  intro Dl hD
  have D1 : Dj G (.lst Dl [] :: o :: M) := D.mk1 (fun a ha => by rw [List.mem_singleton.mp ha]; exact hD) (List.nodup_cons.mpr ⟨by simp, List.nodup_nil⟩)
  refine lc_it w (fun i => Cmp1 G Dl (Inv i)) ?_ ?_ ?_ ?_
  · exact ⟨[], G, o, M, jn_comm D1, Ex.refl _, D1.comm, h0⟩
  · rintro i H hi ⟨acc, G', o', M', rfl, e, D', q⟩
    exact hG i acc Dl G' o' M' hi e D' q
  · rintro i x H1 H2 hi ⟨acc, G', o', M', rfl, e, D', q⟩ y
    exact hs i x Dl acc G' o' M' H2 hi e D' q y
  · rintro H ⟨acc, G', o', M', rfl, e, D', q⟩
    exact hd Dl acc G' o' M' e D' q
end
/-! ### the drawing state's dict -/
section
variable {G : Hp} {M : List Mo} {m c g : Addr} {d : DS}
theorem dr_m : jn G (.drw m c g d :: M) m = some (.dK (dkvs c g d.n)) ∨ m = c ∨ m = g := by
  by_cases h1 : m = g
  · exact .inr (.inr h1)
  · by_cases h2 : m = c
    · exact .inr (.inl h2)
    · exact .inl ((upd_ne h1).trans ((upd_ne h2).trans upd_same))
theorem dr_ne (D : Dj G (.drw m c g d :: M)) : g ≠ c ∧ g ≠ m ∧ c ≠ m := by
  have h := (List.nodup_append.mp D.nd).1
  have h : [g, c, m].Nodup := h
  simp at h
  exact ⟨h.1.1, h.1.2, h.2⟩
theorem dr_at (D : Dj G (.drw m c g d :: M)) : jn G (.drw m c g d :: M) m = some (.dK (dkvs c g d.n)) := by
  obtain ⟨h1, h2, h3⟩ := dr_ne D
  exact (upd_ne h2.symm).trans ((upd_ne h3.symm).trans upd_same)
theorem dr_c (D : Dj G (.drw m c g d :: M)) : jn G (.drw m c g d :: M) c = some (.lst (d.cs.map V.int)) := by
  obtain ⟨h1, h2, h3⟩ := dr_ne D
  exact (upd_ne h1.symm).trans upd_same
theorem dr_g : jn G (.drw m c g d :: M) g = some (.lst (d.gs.map V.int)) := upd_same
theorem dr_setn (D : Dj G (.drw m c g d :: M)) (n : Int) : upd (jn G (.drw m c g d :: M)) m (.dK (dkvs c g n)) = jn G (.drw m c g { d with n := n } :: M) := by
  obtain ⟨h1, h2, h3⟩ := dr_ne D
  funext b
  show upd (upd (upd (upd (jn G M) m _) c _) g _) m _ b = upd (upd (upd (jn G M) m _) c _) g _ b
  by_cases q1 : b = m
  · subst q1
    rw [upd_same, upd_ne h2.symm, upd_ne h3.symm, upd_same]
  · rw [upd_ne q1]
    by_cases q2 : b = g
    · subst q2
      rw [upd_same, upd_same]
    · rw [upd_ne q2, upd_ne q2]
      by_cases q3 : b = c
      · subst q3
        rw [upd_same, upd_same]
      · rw [upd_ne q3, upd_ne q3, upd_ne q1, upd_ne q1]
theorem dr_setg (gs : List Int) : upd (jn G (.drw m c g d :: M)) g (.lst (gs.map V.int)) = jn G (.drw m c g { d with gs := gs } :: M) := upd_upd
end

/-! ### lists of numbers -/
section
variable {K : PySem.W.Frag} {G H : Hp} {M : List Mo} {p : Addr} {ns : List Int} {i z : Int} {Q : VK} {QH : Hp → Prop} {o : Mo} {g : TG} {us : List Nat} {σ σ0 : L2.St} {x : V} {R : L2.St → Hp → Prop}
theorem w_gw (h : wipe σ us = σ0) (k : g x σ0 H R) : g x (wipe σ us) H R := by
  rw [h]
  exact k
theorem w_ixI (h : SqL K H p (ns.map V.int)) (h0 : 0 ≤ i) (h1 : i < ns.length) (k : ∀ c, c ∈ ns → ns[i.toNat]? = some c → Q (.int c) H) : rIx K (.ref p) (.int i) H Q := by
  have hl : i.toNat < ns.length := by omega
  have e : ns[i.toNat]? = some ns[i.toNat] := List.getElem?_eq_getElem hl
  refine w_ixL h (at_of (j := i.toNat) (v := .int ns[i.toNat]) (by omega) ?_) (k _ (List.getElem_mem hl) e)
  rw [List.getElem?_map, e]
  rfl
theorem w_ixIb {P : Int → Prop} (hb : ∀ c ∈ ns, P c) (h : SqL K H p (ns.map V.int)) (h0 : 0 ≤ i) (h1 : i < ns.length) (k : ∀ c, c ∈ ns → ns[i.toNat]? = some c → P c → Q (.int c) H) : rIx K (.ref p) (.int i) H Q :=
  w_ixI h h0 h1 fun c hc he => k c hc he (hb c hc)
theorem ixN_of (h0 : 0 ≤ i) (h1 : i < ns.length) : ixN (ns.map V.int).length i = some i.toNat := by
  rw [List.length_map]
  exact ixN_nat (by omega) (by omega)
theorem w_setI0 (h0 : 0 ≤ i) (h1 : i < ns.length) (k : QH (jn G (.lst p ((ns.set i.toNat z).map V.int) :: M))) : aSet p i (.int z) (jn G (.lst p (ns.map V.int) :: M)) QH :=
  w_set0 (ixN_of h0 h1) (by rw [← List.map_set]; exact k)
theorem w_setI1 (D : Dj G (o :: .lst p (ns.map V.int) :: M)) (h0 : 0 ≤ i) (h1 : i < ns.length) (k : QH (jn G (o :: .lst p ((ns.set i.toNat z).map V.int) :: M))) : aSet p i (.int z) (jn G (o :: .lst p (ns.map V.int) :: M)) QH :=
  w_set1 D (ixN_of h0 h1) (by rw [← List.map_set]; exact k)
theorem emod_bd {a l : Int} (h : 0 < l) : 0 ≤ a % l ∧ a % l < l := ⟨Int.emod_nonneg _ (by omega), Int.emod_lt_of_pos _ h⟩
theorem mem_set {l : List Int} {P : Int → Prop} {j : Nat} (h : ∀ c ∈ l, P c) (hz : P z) : ∀ c ∈ l.set j z, P c := fun c hc => by
  rcases List.mem_or_eq_of_mem_set hc with q | q
  · exact h c q
  · rw [q]
    exact hz
theorem mem_snoc {l : List Int} {P : Int → Prop} (h : ∀ c ∈ l, P c) (hz : P z) : ∀ c ∈ l ++ [z], P c := fun c hc => by
  rcases List.mem_append.mp hc with q | q
  · exact h c q
  · rw [List.mem_singleton.mp q]
    exact hz
theorem map_get {f : Int → V} {j : Nat} {x : V} (h : (ns.map f)[j]? = some x) : ∃ c, ns[j]? = some c ∧ x = f c := by
  rw [List.getElem?_map] at h
  cases e : ns[j]? with
  | none =>
    rw [e] at h
    cases h
  | some c =>
    rw [e] at h
    exact ⟨c, rfl, (Option.some.inj h).symm⟩
end
end Td

/-! L6: the rules with the written part named. -/
namespace Td
open PySem L2
section
variable {X : Cx} {K : PySem.W.Frag}
theorem k_addU (h : X.K = K) : OpR X (binaryOp .Add) (rAddU K) := by subst h; exact op_addU
theorem k_eqU (h : X.K = K) (hu : X.A.units + 64 < cLine) : OpR X (compareOp .Eq) (rEqU K) := by subst h; exact op_eqU hu
theorem k_neU (h : X.K = K) (hu : X.A.units + 64 < cLine) : OpR X (compareOp .NotEq) (rNeU K) := by subst h; exact op_neU hu
theorem k_inU (h : X.K = K) : OpR X (compareOp .In) (rInU K) := by subst h; exact op_inU
theorem k_nInU (h : X.K = K) : OpR X (compareOp .NotIn) (rNInU K) := by subst h; exact op_nInU
theorem k_ix (h : X.K = K) : IxR X (rIx K) := by subst h; exact ix_seq
theorem k_len (h : X.K = K) : CallR X (.builtin "len") (cLen K) := by subst h; exact cr_len
theorem k_isi (h : X.K = K) : CallR X (.builtin "isinstance") (rIsi K) := by subst h; exact call_isi
theorem k_isiT (h : X.K = K) : CallR X (.builtin "isinstance") (rIsiT K) := by subst h; exact call_isiT
theorem k_tupC (h : X.K = K) : CallR X (.type "tuple") (cTup K) := by subst h; exact call_tuple_of
def cLst (K : PySem.W.Frag) : List V → Hp → VK → Prop := fun xs H Q => ∃ p ys, xs = [.ref p] ∧ (SqL K H p ys ∨ SqT K H p ys) ∧ ∀ l, H l = none → Q (.ref l) (upd H l (.lst ys))
theorem k_lstC (h : X.K = K) : CallR X (.type "list") (cLst K) := by subst h; exact call_list_of
theorem k_sum (h : X.K = K) (hc : X.calm = true) : CallR X (.builtin "sum") (rSum K) := by subst h; exact cr_sum hc
theorem k_all (h : X.K = K) (hc : X.calm = true) : CallR X (.builtin "all") (rAll K) := by subst h; exact cr_all hc
theorem k_any (h : X.K = K) (hc : X.calm = true) : CallR X (.builtin "any") (rAny K) := by subst h; exact cr_any hc
theorem k_slL (h : X.K = K) : SlR X (rSlL K) := by subst h; exact sl_list
theorem k_slT (h : X.K = K) : SlR X (rSlT K) := by subst h; exact sl_tup
variable {e tg : Expr} {te : TE} {f : Str} {pos : Pos}
theorem k_fld (h : X.K = K) (he : PE X e te) (hb : attributeBase e f X.env (eval e X.env) = eval e X.env := by rfl) : PE X (.Attribute e f pos) (tFld K te f) := by subst h; exact pe_fld he hb
theorem k_list (h : X.K = K) (he : PE X e te) : PI X tg e (iList K te) := by subst h; exact pi_list he
theorem k_tupI (h : X.K = K) (he : PE X e te) : PI X tg e (iTup K te) := by subst h; exact pi_tup he
theorem k_enum {ta : TA} {p tpos : Pos} {elts : List Expr} {kk : Nat} (h : X.K = K) (hg : Gl X "enumerate") (hm : X.mg "enumerate" = none) (ha : PA X [e] ta) (hs : starEach [e] X.env = [(false, eval e X.env)] := by rfl) :
    PI X (.Tuple elts kk tpos) (.Call (.Name "enumerate" p) [e] [] pos) (iEnum K ta) := by subst h; exact pi_enum hg hm ha hs
theorem k_tupG {es : List Expr} {k : Nat} {t : TGs} {n : Nat} (h : X.K = K) (hc : X.calm = true) (hs : PGs X es t)
    (hn : (assignEach es X.env).length = n := by rfl) (hst : (assignEach es X.env).findIdx? (·.1) = none := by rfl) : PG X (.Tuple es k pos) (gTup K n t) := by subst h; exact pg_tup hc hs hn hst
theorem k_gfld (h : X.K = K) (ho : PE X e te)
    (ha : ∀ v, assign (.Attribute e f pos) X.env v = (do
      let ov ← holding [v] (eval e X.env)
      standAt pos.atName
      holding [v, ov] (setAttr ov f v)
      release [v, ov] []) := by intro _; rfl) : PG X (.Attribute e f pos) (gFld K te f) := by subst h; exact pg_fld ho ha
end
theorem k_zip {X : Cx} {K : PySem.W.Frag} {e e2 : Expr} {ta : TA} {p pos tpos : Pos} {elts : List Expr} {kk : Nat} (h : X.K = K) (hg : Gl X "zip") (hm : X.mg "zip" = none) (ha : PA X [e, e2] ta)
    (h1 : starEach [e, e2] X.env = (false, eval e X.env) :: starEach [e2] X.env := by rfl) (h2 : ((backTo pos (starEach [e2] X.env)).any (·.1)) = false := by rfl) :
    PI X (.Tuple elts kk tpos) (.Call (.Name "zip" p) [e, e2] [] pos) (iZip K ta) := by subst h; exact pi_zip hg hm ha h1 h2
theorem k_bm {X : Cx} {K : PySem.W.Frag} {o e : Expr} {es : List Expr} {to : TE} {t : TA} {name : Str} {apos cpos : Pos} {T id : String} {r : V → List V → Hp → VK → Prop} (h : X.K = K) (pa : PlainAttrs T) (sl : Slot T name id) (ty : typeOf (.builtin id) = pure (.type "method_descriptor")) (mt : MtR X id r) (ho : PE X o to) (ha : PA X (e :: es) t)
    (h1 : attributeBase o name X.env (eval o X.env) = eval o X.env := by rfl)
    (h2 : (((backTo cpos (starEach (e :: es) X.env)).all fun x => !x.1) && ((backToKw cpos (keywordEach [] X.env)).all fun x => x.1.isSome) && decide ((e :: es).length + ([] : List Keyword).length + (if ([] : List Keyword).isEmpty = true then 0 else 1) < 30)) = true := by rfl)
    (h3 : (apos.endLine == cpos.line) = true := by rfl) (h4 : starEach (e :: es) X.env = (false, eval e X.env) :: starEach es X.env := by rfl) (h5 : ((backTo cpos (starEach es X.env)).any (·.1)) = false := by rfl) :
    PE X (.Call (.Attribute o name apos) (e :: es) [] cpos) (tBM K T r to t) := by subst h; exact pe_bm pa sl ty mt ho ha h1 h2 h3 h4 h5
theorem k_mt {X : Cx} {K : PySem.W.Frag} {CX : CXT} {k n : Nat} {C : Addr} {sp : Sp} {E : XK} {m : Str} {e o : Expr} {es : List Expr} {ta : TE} {t : TA} {pos apos : Pos} {pl : Sem Bool} (h : X.K = K) (he : PE X o ta) (c : Cls K C) (D : Mt X.prog X.w K X.mg X.base CX k C m sp) (hr : Room n X.A) (hx : Passes CX X E) (ha : PA X (e :: es) t) (hle : k ≤ n := by decide)
    (hst : starEach (e :: es) X.env = (false, eval e X.env) :: starEach es X.env := by rfl) (hpl : (backTo pos (starEach es X.env)).any (·.1) = false := by rfl)
    (ht : eval (.Call (.Attribute o m apos) (e :: es) [] pos) X.env = (do
      let ov ← eval o X.env
      standAt apos.atName
      let (f, first) ← holding [ov] (getMethod ov m pl)
      callWith pos f first (backTo pos (starEach (e :: es) X.env)) (backToKw pos (keywordEach [] X.env))) := by rfl) :
    PE X (.Call (.Attribute o m apos) (e :: es) [] pos) (tMt X C m sp E ta t) := by subst h; exact pe_mt he c D hr hx ha hle hst hpl ht

/-! ### dicts -/
section
variable {σ : L2.St} {H G : Hp} {M : List Mo} {Q : VK} {td ty tv : TE} {a m c g : Addr} {d : DS} {y v : V} {E : Ends} {n z : Int}
def aDGet (x y : V) (H : Hp) (Q : VK) : Prop := ∃ a v, x = .ref a ∧ DGet H a y (some v) ∧ Q v H
theorem w_dget (k : td σ H fun x H1 => ty σ H1 fun y H2 => aDGet x y H2 Q) : tDGet td ty σ H Q := k
theorem w_dgk (h : DGet H a y (some v)) (k : Q v H) : aDGet (.ref a) y H Q := ⟨a, v, rfl, h, k⟩
def aDPut (x y v : V) (E : Ends) (σ : L2.St) (H : Hp) : Prop := ∃ a H4, x = .ref a ∧ DPut H a y v H4 ∧ E.nx σ H4
theorem w_dput (k : tv σ H fun v H1 => td σ H1 fun x H2 => ty σ H2 fun y H3 => aDPut x y v E σ H3) : sDPut td ty tv E σ H := k
theorem w_setG {i z : Int} {QH : Hp → Prop} (D : Dj G (.drw m c g d :: M)) (h0 : 0 ≤ i) (h1 : i < d.gs.length) (k : ∀ d' : DS, d'.n = d.n → d'.cs = d.cs → d'.gs.length = d.gs.length → Dj G (.drw m c g d' :: M) → QH (jn G (.drw m c g d' :: M))) : aSet g i (.int z) (jn G (.drw m c g d :: M)) QH :=
  ⟨_, i.toNat, dr_g, ixN_of h0 h1, by rw [← List.map_set, dr_setg]; exact k { d with gs := d.gs.set i.toNat z } rfl rfl (by rw [List.length_set]) D.dr⟩
theorem dg_n (h : H a = some (.dK (dkvs c g n))) : DGet H a (.str "spot") (some (.int n)) := DGet.k (k := Sum.inr "spot") h
theorem dg_g (h : H a = some (.dK (dkvs c g n))) : DGet H a (.str "great") (some (.ref g)) := DGet.k (k := Sum.inr "great") h
theorem dg_c (h : H a = some (.dK (dkvs c g n))) : DGet H a (.str "cells") (some (.ref c)) := DGet.k (k := Sum.inr "cells") h
theorem dp_n (h : H a = some (.dK (dkvs c g n))) : DPut H a (.str "spot") (.int z) (upd H a (.dK (dkvs c g z))) := DPut.k (k := Sum.inr "spot") (v := .int z) h (by show 3 < sizeLine; decide)
theorem w_dpn (D : Dj G (.drw m c g d :: M)) (k : ∀ d' : DS, d'.n = z → d'.cs = d.cs → d'.gs = d.gs → Dj G (.drw m c g d' :: M) → E.nx σ (jn G (.drw m c g d' :: M))) : aDPut (.ref m) (.str "spot") (.int z) E σ (jn G (.drw m c g d :: M)) :=
  ⟨m, _, rfl, dp_n (dr_at D), by rw [dr_setn D]; exact k { d with n := z } rfl rfl rfl D.dr⟩
end

/-! ### == of lists of numbers -/
section
variable {K : PySem.W.Frag} {H : Hp} {p q : Addr} {ns ms : List Int} {Q : VK}
theorem dp_ints : ∀ ns : List Int, DpAll K H (ns.map V.int) (ns.map PyData.int)
  | [] => .nil
  | n :: r => .cons (.int n) (dp_ints r)
theorem eqv_ints : ∀ ns ms : List Int, PyData.eqvAll (ns.map PyData.int) (ms.map PyData.int) = decide (ns = ms)
  | [], [] => rfl
  | [], m :: r => by simp [PyData.eqvAll]
  | n :: r, [] => by simp [PyData.eqvAll]
  | n :: r, m :: r2 => by
    have ih := eqv_ints r r2
    show (PyData.eqv (.int n) (.int m) && PyData.eqvAll (r.map PyData.int) (r2.map PyData.int)) = _
    rw [ih]
    show ((n == m) && decide (r = r2)) = decide (n :: r = m :: r2)
    by_cases h : n = m
    · subst h
      simp
    · simp [h]
theorem w_eqIL (h : SqL K H p (ns.map V.int)) (h2 : SqL K H q (ms.map V.int)) (k : Q (.bl (decide (ns = ms))) H) : rEqU K (.ref p) (.ref q) H Q :=
  .inr ⟨.list (ns.map .int), .list (ms.map .int), .lst h (dp_ints ns), .lst h2 (dp_ints ms), PySem.W.ke_shaped_ints ns, PySem.W.ke_shaped_ints ms, by
    show Q (.bl (PyData.eqvAll (ns.map PyData.int) (ms.map PyData.int))) H
    rw [eqv_ints]
    exact k⟩
theorem w_lenI (h : SqL K H p (ns.map V.int)) (k : Q (.int ns.length) H) : cLen K [.ref p] H Q := w_lenL h (by rw [List.length_map]; exact k)
theorem w_neIL (h : SqL K H p (ns.map V.int)) (h2 : SqL K H q (ms.map V.int)) (k : Q (.bl (!decide (ns = ms))) H) : rNeU K (.ref p) (.ref q) H Q :=
  .inr ⟨.list (ns.map .int), .list (ms.map .int), .lst h (dp_ints ns), .lst h2 (dp_ints ms), PySem.W.ke_shaped_ints ns, PySem.W.ke_shaped_ints ms, by
    show Q (.bl (!PyData.eqvAll (ns.map PyData.int) (ms.map PyData.int))) H
    rw [eqv_ints]
    exact k⟩
end
end Td

/-! L7: operators of own classes by what stands on the heap; attributes. -/
namespace Td
open PySem L2
section
variable {X : Cx} {K : PySem.W.Frag} {CX : CXT} {k n : Nat} {C : Addr} {sp : Sp} {E : XK} {f : Addr}
theorem OpR.imp {f : Value → Value → Sem Value} {r r' : R2} (h : OpR X f r) (im : ∀ x y H Q, r' x y H Q → r x y H Q) : OpR X f r' :=
  fun pins s σ H x y v u Q I rx ry q => h pins s σ H x y v u Q I rx ry (im x y H Q q)
theorem CallR.imp {f : Value} {r r' : List V → Hp → VK → Prop} (h : CallR X f r) (im : ∀ xs H Q, r' xs H Q → r xs H Q) : CallR X f r' :=
  fun pins s σ H xs us Q I rv q => h pins s σ H xs us Q I rv (im xs H Q q)
/-- both of the class at C -/
def rO2 (C : Addr) (sp : Sp) (E : XK) : R2 := fun x y H Q => ∃ a b da fa db fb, x = .ref a ∧ y = .ref b ∧ H a = some (.ins C da fa) ∧ H b = some (.ins C db fb) ∧ aCl sp [x, y] H Q E
theorem k_bin2 {op : Operator} (h : X.K = K) (D : Mt X.prog X.w K X.mg X.base CX k C (PySem.dunder op.info.2) sp) (hc : PySem.W.selfFirst K C = true) (hr : Room n X.A) (hx : Passes CX X E) (hle : k ≤ n := by decide) : OpR X (binaryOp op) (rO2 C sp E) := by
  subst h
  exact OpR.imp (op_bin2 D hc hr hx hle) fun x y H Q ⟨a, b, da, fa, db, fb, e1, e2, e3, e4, q⟩ => ⟨a, b, e1, e2, .inr ⟨da, fa, e3⟩, .inr ⟨db, fb, e4⟩, q⟩
theorem k_cmp2 {op : CmpOp} (h : X.K = K) (D : Mt X.prog X.w K X.mg X.base CX k C (cmpInfo op).2.1 sp) (hop : ∀ a b, compareOp op a b = richCompare op a b) (hn : PySem.W.notFirst K C (.ref C) = true) (hr : Room n X.A) (hx : Passes CX X E) (hle : k ≤ n := by decide) : OpR X (compareOp op) (rO2 C sp E) := by
  subst h
  exact OpR.imp (op_cmp2 D hop hn hr hx hle) fun x y H Q ⟨a, b, da, fa, db, fb, e1, e2, e3, e4, q⟩ => ⟨a, b, e1, e2, .inr ⟨da, fa, e3⟩, .inr ⟨db, fb, e4⟩, q⟩
/-- the type of a value that is no own instance, or one -/
inductive TB (H : Hp) : V → Value → Prop
  | int {i : Int} : TB H (.int i) (.type "int")
  | str {i : Str} : TB H (.str i) (.type "str")
  | bl {i : Bool} : TB H (.bl i) (.type "bool")
  | non : TB H .non (.type "NoneType")
  | tup {a : Addr} {xs : List V} (h : H a = some (.tup xs)) : TB H (.ref a) (.type "tuple")
  | lst {a : Addr} {xs : List V} (h : H a = some (.lst xs)) : TB H (.ref a) (.type "list")
  | ins {a C dx : Addr} {fs : List (Str × V)} (h : H a = some (.ins C dx fs)) : TB H (.ref a) (.ref C)
theorem TB.lk {H : Hp} {v : V} {t : Value} (h : TB H v t) : TyLk X H v t := by
  cases h with
  | int => exact tl_int
  | str => exact tl_str
  | bl => exact tl_bl
  | non => exact tl_non
  | tup h => exact tl_tup h
  | lst h => exact tl_lst h
  | ins h => exact tl_ins (.inr ⟨_, _, h⟩)
def rO1 (K : PySem.W.Frag) (C : Addr) (sp : Sp) (E : XK) : R2 := fun x y H Q => ∃ a da fa tb, x = .ref a ∧ H a = some (.ins C da fa) ∧ TB H y tb ∧ PySem.W.notFirst K C tb = true ∧ aCl sp [x, y] H Q E
theorem k_cmp1 {op : CmpOp} (h : X.K = K) (D : Mt X.prog X.w K X.mg X.base CX k C (cmpInfo op).2.1 sp) (hop : ∀ a b, compareOp op a b = richCompare op a b) (hr : Room n X.A) (hx : Passes CX X E) (hle : k ≤ n := by decide) : OpR X (compareOp op) (rO1 K C sp E) := by
  subst h
  exact OpR.imp (op_cmp1 D hop hr hx hle) fun x y H Q ⟨a, da, fa, tb, e1, e3, e4, e5, q⟩ => ⟨a, tb, e1, .inr ⟨da, fa, e3⟩, e4.lk, e5, q⟩
def rON (K : PySem.W.Frag) (C : Addr) (sp : Sp) (E : XK) : R2 := fun x y H Q => ∃ a da fa tb, x = .ref a ∧ H a = some (.ins C da fa) ∧ TB H y tb ∧ PySem.W.notFirst K C tb = true ∧ aCl sp [x, y] H (fun z H' => aBl (fun b H' => Q (.bl (!b)) H') z H') E
theorem k_ne1 (h : X.K = K) (D : Mt X.prog X.w K X.mg X.base CX0 k C "__eq__" sp) (hm1 : PySem.W.mroIn K C (.type "object") = some true) (hne : PySem.W.findIn K (.ref C) "__ne__" = some (some (.builtin "object.__ne__"))) (hr : Room n X.A) (hle : k + 1 ≤ n := by decide) : OpR X (compareOp .NotEq) (rON K C sp E0) := by
  subst h
  exact OpR.imp (op_ne1 D hm1 hne hr hle) fun x y H Q ⟨a, da, fa, tb, e1, e3, e4, e5, q⟩ => ⟨a, tb, e1, .inr ⟨da, fa, e3⟩, e4.lk, e5, q⟩
def rOIn (C : Addr) (sp : Sp) (E : XK) : R2 := fun y x H Q => ∃ a da fa, x = .ref a ∧ H a = some (.ins C da fa) ∧ aCl sp [x, y] H (fun z H' => aBl (fun b H' => Q (.bl b) H') z H') E
theorem k_owIn (h : X.K = K) (D : Mt X.prog X.w K X.mg X.base CX k C "__contains__" sp) (hr : Room n X.A) (hx : Passes CX X E) (hle : k ≤ n := by decide) : OpR X (compareOp .In) (rOIn C sp E) := by
  subst h
  exact OpR.imp (op_owIn D hr hx hle) fun x y H Q ⟨a, da, fa, e1, e3, q⟩ => ⟨a, e1, .inr ⟨da, fa, e3⟩, q⟩
def rONIn (C : Addr) (sp : Sp) (E : XK) : R2 := fun y x H Q => ∃ a da fa, x = .ref a ∧ H a = some (.ins C da fa) ∧ aCl sp [x, y] H (fun z H' => aBl (fun b H' => Q (.bl (!b)) H') z H') E
theorem k_owNIn (h : X.K = K) (D : Mt X.prog X.w K X.mg X.base CX k C "__contains__" sp) (hr : Room n X.A) (hx : Passes CX X E) (hle : k ≤ n := by decide) : OpR X (compareOp .NotIn) (rONIn C sp E) := by
  subst h
  exact OpR.imp (op_owNotIn D hr hx hle) fun x y H Q ⟨a, da, fa, e1, e3, q⟩ => ⟨a, e1, .inr ⟨da, fa, e3⟩, q⟩
def cOB (C : Addr) (sp : Sp) (E : XK) : List V → Hp → VK → Prop := fun xs H Q => ∃ a da fa, xs = [.ref a] ∧ H a = some (.ins C da fa) ∧ aCl sp xs H (fun z H' => aBl (fun b H' => Q (.bl b) H') z H') E
theorem k_boolO (h : X.K = K) (D : Mt X.prog X.w K X.mg X.base CX0 k C "__bool__" sp) (hr : Room n X.A) (hle : k + 2 ≤ n := by decide) : CallR X (.type "bool") (cOB C sp E0) := by
  subst h
  exact CallR.imp (call_boolO D hr hle) fun xs H Q ⟨a, da, fa, e1, e3, q⟩ => ⟨a, e1, .inr ⟨da, fa, e3⟩, by subst e1; exact q⟩
def cBool : List V → Hp → VK → Prop := fun xs H Q => (∃ i, xs = [.int i] ∧ Q (.bl (i != 0)) H) ∨ ∃ k, xs = [.bl k] ∧ Q (.bl k) H
theorem cr_bool : CallR X (.type "bool") cBool := call_bool1
theorem hopEq : ∀ a b, compareOp .Eq a b = richCompare .Eq a b := fun _ _ => rfl
theorem hopLe : ∀ a b, compareOp .LtE a b = richCompare .LtE a b := fun _ _ => rfl
theorem hopGe : ∀ a b, compareOp .GtE a b = richCompare .GtE a b := fun _ _ => rfl
theorem hopLt : ∀ a b, compareOp .Lt a b = richCompare .Lt a b := fun _ _ => rfl
theorem hopGt : ∀ a b, compareOp .Gt a b = richCompare .Gt a b := fun _ _ => rfl
end
section
variable {K : PySem.W.Frag} {H G : Hp} {M : List Mo} {Q : VK} {C a b da db : Addr} {fa fb : List (Str × V)} {sp : Sp} {E : XK} {v : V} {tb : Value}
theorem w_o2 (h1 : H a = some (.ins C da fa)) (h2 : H b = some (.ins C db fb)) (k : aCl sp [.ref a, .ref b] H Q E) : rO2 C sp E (.ref a) (.ref b) H Q := ⟨a, b, da, fa, db, fb, rfl, rfl, h1, h2, k⟩
theorem w_o1 (h1 : H a = some (.ins C da fa)) (h2 : TB H v tb) (h3 : PySem.W.notFirst K C tb = true) (k : aCl sp [.ref a, v] H Q E) : rO1 K C sp E (.ref a) v H Q := ⟨a, da, fa, tb, rfl, h1, h2, h3, k⟩
theorem w_oN (h1 : H a = some (.ins C da fa)) (h2 : TB H v tb) (h3 : PySem.W.notFirst K C tb = true) (k : aCl sp [.ref a, v] H (fun z H' => aBl (fun b H' => Q (.bl (!b)) H') z H') E) : rON K C sp E (.ref a) v H Q := ⟨a, da, fa, tb, rfl, h1, h2, h3, k⟩
theorem w_oIn (h1 : H a = some (.ins C da fa)) (k : aCl sp [.ref a, v] H (fun z H' => aBl (fun b H' => Q (.bl b) H') z H') E) : rOIn C sp E v (.ref a) H Q := ⟨a, da, fa, rfl, h1, k⟩
theorem w_oNIn (h1 : H a = some (.ins C da fa)) (k : aCl sp [.ref a, v] H (fun z H' => aBl (fun b H' => Q (.bl (!b)) H') z H') E) : rONIn C sp E v (.ref a) H Q := ⟨a, da, fa, rfl, h1, k⟩
theorem w_oB (h1 : H a = some (.ins C da fa)) (k : aCl sp [.ref a] H (fun z H' => aBl (fun b H' => Q (.bl b) H') z H') E) : cOB C sp E [.ref a] H Q := ⟨a, da, fa, rfl, h1, k⟩
theorem w_boolB {b : Bool} (k : Q (.bl b) H) : cBool [.bl b] H Q := .inr ⟨b, rfl, k⟩
theorem w_boolI {i : Int} (k : Q (.bl (i != 0)) H) : cBool [.int i] H Q := .inl ⟨i, rfl, k⟩
theorem Dj.insS {x dx : Addr} {fs fs' : List (Str × V)} (D : Dj G (.ins x dx C fs :: M)) : Dj G (.ins x dx C fs' :: M) := D.swap rfl
theorem sz_len {xs : List V} (h : xs.length ≤ 100000) : xs.length ≤ sizeLine := Nat.le_trans h (by decide +kernel)
/-! ### lists of attributes -/
theorem lk_hd {f : Str} {v : V} {r : List (Str × V)} : ((f, v) :: r).lookup f = some v := by
  simp [List.lookup]
theorem lk_tl {f g : Str} {v w : V} {r : List (Str × V)} (h : ¬ f = g) (k : r.lookup f = some v) : ((g, w) :: r).lookup f = some v := by
  have hb : (f == g) = false := beq_eq_false_iff_ne.mpr h
  simp only [List.lookup, hb]
  exact k
theorem lk_no {f : Str} : ([] : List (Str × V)).lookup f = none := rfl
theorem lk_tn {f g : Str} {w : V} {r : List (Str × V)} (h : ¬ f = g) (k : r.lookup f = none) : ((g, w) :: r).lookup f = none := by
  have hb : (f == g) = false := beq_eq_false_iff_ne.mpr h
  simp only [List.lookup, hb]
  exact k
theorem pf_nil {f : Str} {v : V} : putF f v [] = [(f, v)] := rfl
theorem pf_hd {f : Str} {v w : V} {r : List (Str × V)} : putF f v ((f, w) :: r) = (f, v) :: r := by
  show (if f = f then _ else _) = _
  rw [if_pos rfl]
theorem pf_tl {f g : Str} {v w : V} {r r' : List (Str × V)} (h : ¬ g = f) (k : putF f v r = r') : putF f v ((g, w) :: r) = (g, w) :: r' := by
  show (if g = f then _ else _) = _
  rw [if_neg h, k]
theorem ownI {x dx : Addr} {fs : List (Str × V)} : jn G (.ins x dx C fs :: M) x = some (.ins C dx fs) := upd_same
/-! ### a method call -/
def aMt (C : Addr) (m : Str) (sp : Sp) (E : XK) (t : TA) (σ : L2.St) (x : V) (H : Hp) (Q : VK) : Prop := ∃ a dx fs, x = .ref a ∧ H a = some (.ins C dx fs) ∧ fs.lookup m = none ∧ t σ H fun vs H2 => aCl sp (x :: vs) H2 Q E
theorem w_mt {X : Cx} {m : Str} {ta : TE} {t : TA} {σ : L2.St} (k : ta σ H fun x H1 => aMt C m sp E t σ x H1 Q) : tMt X C m sp E ta t σ H Q := k
theorem w_mt1 {m : Str} {t : TA} {σ : L2.St} (h : H a = some (.ins C da fa)) (l : fa.lookup m = none) (k : t σ H fun vs H2 => aCl sp (.ref a :: vs) H2 Q E) : aMt C m sp E t σ (.ref a) H Q := ⟨a, da, fa, rfl, h, l, k⟩
def tMtK (C : Addr) (m : Str) (sp : Sp) (E : XK) (ta : TE) (t : TA) : TE := fun σ H Q => ta σ H fun x H1 => aMt C m sp E t σ x H1 Q
theorem w_mtK {m : Str} {ta : TE} {t : TA} {σ : L2.St} (k : ta σ H fun x H1 => aMt C m sp E t σ x H1 Q) : tMtK C m sp E ta t σ H Q := k
theorem k_mtK {X : Cx} {CX : CXT} {k n : Nat} {m : Str} {e o : Expr} {es : List Expr} {ta : TE} {t : TA} {pos apos : Pos} {pl : Sem Bool} (h : X.K = K) (he : PE X o ta) (c : Cls K C) (D : Mt X.prog X.w K X.mg X.base CX k C m sp) (hr : Room n X.A) (hx : Passes CX X E) (ha : PA X (e :: es) t) (hle : k ≤ n := by decide)
    (hst : starEach (e :: es) X.env = (false, eval e X.env) :: starEach es X.env := by rfl) (hpl : (backTo pos (starEach es X.env)).any (·.1) = false := by rfl)
    (ht : eval (.Call (.Attribute o m apos) (e :: es) [] pos) X.env = (do
      let ov ← eval o X.env
      standAt apos.atName
      let (f, first) ← holding [ov] (getMethod ov m pl)
      callWith pos f first (backTo pos (starEach (e :: es) X.env)) (backToKw pos (keywordEach [] X.env))) := by rfl) :
    PE X (.Call (.Attribute o m apos) (e :: es) [] pos) (tMtK C m sp E ta t) := by subst h; exact pe_mt he c D hr hx ha hle hst hpl ht
theorem k_mtK0 {X : Cx} {CX : CXT} {k n : Nat} {m : Str} {o : Expr} {ta : TE} {pos apos : Pos} {pl : Sem Bool} (h : X.K = K) (he : PE X o ta) (c : Cls K C) (D : Mt X.prog X.w K X.mg X.base CX k C m sp) (hr : Room n X.A) (hx : Passes CX X E) (hle : k ≤ n := by decide)
    (ht : eval (.Call (.Attribute o m apos) [] [] pos) X.env = (do
      let ov ← eval o X.env
      standAt apos.atName
      let (f, first) ← holding [ov] (getMethod ov m pl)
      callWith pos f first (backTo pos (starEach [] X.env)) (backToKw pos (keywordEach [] X.env))) := by rfl) :
    PE X (.Call (.Attribute o m apos) [] [] pos) (tMtK C m sp E ta tNil) := by subst h; exact pe_mt0 he c D hr hx hle ht
theorem Ini.frm {P : Program} {w : World} {mg : Str → Option Value} {base : Heap} {k : Nat} {x : Str} (D : Ini P w K mg base CX0 k x C sp) : Ini P w K mg base CX0 k x C (Frm sp) := by
  obtain ⟨f, F, r⟩ := D.ex
  exact ⟨f, FnR.frm F, r⟩
end
end Td

/-! L8: dict displays; the drawing state made. -/
namespace Td
open PySem L2
section
variable {K : PySem.W.Frag} {H G : Hp} {M : List Mo} {σ : L2.St} {Q : VK} {trs : List (TE × TE)} {tk tv : TE} {QP : List (V × V) → Hp → Prop} {m c g : Addr} {v v1 v2 v3 : V} {E : Ends} {o : Mo}
def aDisp (p : Addr) (ps : List (V × V)) (H2 : Hp) (Q : VK) : Prop := H2 p = some (.dK []) ∧ ∃ kvs : List (Key × V), ps = kvs.map (fun kv => (kV kv.1, kv.2)) ∧ kvs.length ≤ 15 ∧ Q (.ref p) (upd H2 p (.dK (mergeK [] kvs)))
theorem w_disp (D : Dj G M) (k : ∀ p, Dj G (.dK p [] :: M) → tPairs trs σ (jn G (.dK p [] :: M)) fun ps H2 => aDisp p ps H2 Q) : tDisp trs σ (jn G M) Q := fun p hp =>
  k p (D.mk1 (fun a ha => by rw [List.mem_singleton.mp ha]; exact hp) (List.nodup_cons.mpr ⟨by simp, List.nodup_nil⟩))
theorem w_pnil (k : QP [] H) : tPairs [] σ H QP := k
theorem w_pcons (k : tk σ H fun x H1 => tv σ H1 fun y H2 => tPairs trs σ H2 fun ps H3 => QP ((x, y) :: ps) H3) : tPairs ((tk, tv) :: trs) σ H QP := k
theorem ownD0 {p : Addr} {kvs : List (Key × V)} : jn G (.dK p kvs :: M) p = some (.dK kvs) := upd_same
theorem ownD1 {p : Addr} {kvs : List (Key × V)} (D : Dj G (o :: .dK p kvs :: M)) : jn G (o :: .dK p kvs :: M) p = some (.dK kvs) := by
  rw [jn_comm D]
  exact upd_same
theorem setD0 {p : Addr} {kvs kvs' : List (Key × V)} : upd (jn G (.dK p kvs :: M)) p (.dK kvs') = jn G (.dK p kvs' :: M) := upd_upd
theorem Dj.dk1 {p : Addr} {kvs kvs' : List (Key × V)} (D : Dj G (o :: .dK p kvs :: M)) : Dj G (o :: .dK p kvs' :: M) := ⟨D.nd, D.out⟩
theorem setD1 {p : Addr} {kvs kvs' : List (Key × V)} (D : Dj G (o :: .dK p kvs :: M)) : upd (jn G (o :: .dK p kvs :: M)) p (.dK kvs') = jn G (o :: .dK p kvs' :: M) := by
  rw [jn_comm D, setD0, jn_comm D.dk1]
theorem ke1 : ¬ (Sum.inr "cells" : Key) = (Sum.inr "great" : Key) := by decide +kernel
theorem ke2 : ¬ (Sum.inr "cells" : Key) = (Sum.inr "spot" : Key) := by decide +kernel
theorem ke3 : ¬ (Sum.inr "great" : Key) = (Sum.inr "spot" : Key) := by decide +kernel
theorem mergeK3 : mergeK [] [((Sum.inr "cells" : Key), v1), (Sum.inr "great", v2), (Sum.inr "spot", v3)] = [((Sum.inr "cells" : Key), v1), (Sum.inr "great", v2), (Sum.inr "spot", v3)] := by
  have e1 := ke1
  have e2 := ke2
  have e3 := ke3
  simp [mergeK, putK, e1, e2, e3]
theorem w_disp3 (D : Dj G (o :: .dK m [] :: M)) (k : Dj G (o :: .dK m [(Sum.inr "cells", v1), (Sum.inr "great", v2), (Sum.inr "spot", v3)] :: M) → Q (.ref m) (jn G (o :: .dK m [(Sum.inr "cells", v1), (Sum.inr "great", v2), (Sum.inr "spot", v3)] :: M))) :
    aDisp m [(.str "cells", v1), (.str "great", v2), (.str "spot", v3)] (jn G (o :: .dK m [] :: M)) Q := by
  refine ⟨ownD1 D, [(Sum.inr "cells", v1), (Sum.inr "great", v2), (Sum.inr "spot", v3)], rfl, (by show 3 ≤ 15; decide), ?_⟩
  rw [mergeK3, setD1 D]
  exact k D.dk1
theorem put_great : putK [((Sum.inr "cells" : Key), v1), (Sum.inr "great", v2), (Sum.inr "spot", v3)] (Sum.inr "great") v = [((Sum.inr "cells" : Key), v1), (Sum.inr "great", v), (Sum.inr "spot", v3)] := by
  have e1 := ke1
  have e3 : ¬ (Sum.inr "spot" : Key) = (Sum.inr "great" : Key) := by decide +kernel
  simp [putK, e1, e3]
theorem mk_drw {cs gs : List Int} {n : Int} {kvs : List (Key × V)} (D : Dj G (.lst g (gs.map V.int) :: .lst c (cs.map V.int) :: .dK m kvs :: M)) :
    upd (jn G (.lst g (gs.map V.int) :: .lst c (cs.map V.int) :: .dK m kvs :: M)) m (.dK (dkvs c g n)) = jn G (.drw m c g ⟨n, cs, gs⟩ :: M) ∧ Dj G (.drw m c g ⟨n, cs, gs⟩ :: M) := by
  have hg : g ≠ m := fun e => D.head g (List.mem_singleton.mpr rfl) (by rw [e]; simp [keys, Mo.keys])
  have hc : c ≠ m := fun e => D.tail.head c (List.mem_singleton.mpr rfl) (by rw [e]; simp [keys, Mo.keys])
  refine ⟨?_, ⟨D.nd, D.out⟩⟩
  funext a
  show upd (upd (upd (upd (jn G M) m (.dK kvs)) c _) g _) m _ a = upd (upd (upd (jn G M) m _) c _) g _ a
  by_cases h1 : a = m
  · subst h1
    rw [upd_same, upd_ne hg.symm, upd_ne hc.symm, upd_same]
  · rw [upd_ne h1]
    by_cases h2 : a = g
    · subst h2
      rw [upd_same, upd_same]
    · rw [upd_ne h2, upd_ne h2]
      by_cases h3 : a = c
      · subst h3
        rw [upd_same, upd_same]
      · rw [upd_ne h3, upd_ne h3, upd_ne h1, upd_ne h1]
theorem w_dpg {cs gs : List Int} {n : Int} {v2 : V} (D : Dj G (.lst g (gs.map V.int) :: .lst c (cs.map V.int) :: .dK m [(Sum.inr "cells", .ref c), (Sum.inr "great", v2), (Sum.inr "spot", .int n)] :: M))
    (k : ∀ d : DS, d.n = n → d.cs = cs → d.gs = gs → Dj G (.drw m c g d :: M) → E.nx σ (jn G (.drw m c g d :: M))) :
    aDPut (.ref m) (.str "great") (.ref g) E σ (jn G (.lst g (gs.map V.int) :: .lst c (cs.map V.int) :: .dK m [(Sum.inr "cells", .ref c), (Sum.inr "great", v2), (Sum.inr "spot", .int n)] :: M)) := by
  have hm : jn G (.lst g (gs.map V.int) :: .lst c (cs.map V.int) :: .dK m [(Sum.inr "cells", .ref c), (Sum.inr "great", v2), (Sum.inr "spot", .int n)] :: M) m = some (.dK [(Sum.inr "cells", .ref c), (Sum.inr "great", v2), (Sum.inr "spot", .int n)]) := by
    have hg : m ∉ (Mo.lst g (gs.map V.int)).keys := fun e => D.head m e (by simp [keys, Mo.keys])
    have q : jn G (.lst g (gs.map V.int) :: .lst c (cs.map V.int) :: .dK m [(Sum.inr "cells", .ref c), (Sum.inr "great", v2), (Sum.inr "spot", .int n)] :: M) m = jn G (.lst c (cs.map V.int) :: .dK m [(Sum.inr "cells", .ref c), (Sum.inr "great", v2), (Sum.inr "spot", .int n)] :: M) m := put_out hg
    rw [q]
    exact ownD1 D.tail
  have p := DPut.k (k := Sum.inr "great") (v := .ref g) hm (by show 3 < sizeLine; decide)
  rw [put_great] at p
  obtain ⟨e1, D1⟩ := mk_drw (n := n) D
  have e2 : ([((Sum.inr "cells" : Key), V.ref c), (Sum.inr "great", V.ref g), (Sum.inr "spot", V.int n)] : List (Key × V)) = dkvs c g n := rfl
  rw [e2, e1] at p
  exact ⟨m, _, rfl, p, k _ rfl rfl rfl D1⟩
/-- the promise of a def that makes a drawing state -/
def Pm {α : Type} (pre : α → Hp → List V → Prop) : Sp := fun vs H Q _ => ∃ a, pre a H vs ∧ ∀ m c g d G', Ex H G' → OkD d → d.n = 0 → Dj G' [.drw m c g d] → Q (.ref m) (jn G' [.drw m c g d])
theorem w_pm {α : Type} {pre : α → Hp → List V → Prop} {vs : List V} {E : XK} (D : Dj G M) (a : α) (hp : pre a G vs) (k : ∀ m c g d G', Ex G G' → OkD d → d.n = 0 → Dj G' (.drw m c g d :: M) → Q (.ref m) (jn G' (.drw m c g d :: M))) : aCl (Frm (Pm pre)) vs (jn G M) Q E := by
  refine ⟨G, M, rfl, D, a, hp, fun m c g d G' e ok hn D1 D2 => ?_⟩
  have D3 := D1.both D2
  have q := k m c g d G' e ok hn D3
  rw [jn_drw D3] at q
  exact q
end
/-! ### parts that only look -/
section
variable {H : Hp} {σ : L2.St} {Q : VK} {QT : Bool → Hp → Prop} {ta tb tc : TE} {t u : TT} {b1 b2 : Bool} {i j : Int} {r r' : R2} {x y z : V}
theorem w_orVp (h1 : ∀ R : VK, R (.bl b1) H → ta σ H R) (h2 : ∀ R : VK, R (.bl b2) H → tb σ H R) (k : Q (.bl (b1 || b2)) H) : tOrV ta tb σ H Q := by
  refine w_orV (h1 _ (w_bl ?_))
  cases b1 with
  | true => exact ite_t rfl k
  | false => exact ite_f rfl (h2 _ (by simpa using k))
theorem w_andVp (h1 : ∀ R : VK, R (.bl b1) H → ta σ H R) (h2 : ∀ R : VK, R (.bl b2) H → tb σ H R) (k : Q (.bl (b1 && b2)) H) : tAndV ta tb σ H Q := by
  refine w_andV (h1 _ (w_bl ?_))
  cases b1 with
  | true => exact ite_t rfl (h2 _ (by simpa using k))
  | false => exact ite_f rfl k
theorem w_orTp (h1 : ∀ R : Bool → Hp → Prop, R b1 H → t σ H R) (h2 : ∀ R : Bool → Hp → Prop, R b2 H → u σ H R) (k : QT (b1 || b2) H) : tOr t u σ H QT := by
  refine w_or (h1 _ ?_)
  cases b1 with
  | true => exact ite_t rfl k
  | false => exact ite_f rfl (h2 _ (by simpa using k))
theorem w_andTp (h1 : ∀ R : Bool → Hp → Prop, R b1 H → t σ H R) (h2 : ∀ R : Bool → Hp → Prop, R b2 H → u σ H R) (k : QT (b1 && b2) H) : tAnd t u σ H QT := by
  refine w_and (h1 _ ?_)
  cases b1 with
  | true => exact ite_t rfl (h2 _ (by simpa using k))
  | false => exact ite_f rfl k
theorem w_ifpI (h1 : ∀ R : Bool → Hp → Prop, R b1 H → t σ H R) (h2 : ∀ R : VK, R (.int i) H → ta σ H R) (h3 : ∀ R : VK, R (.int j) H → tb σ H R) (k : Q (.int (if b1 = true then i else j)) H) : tIf t ta tb σ H Q := by
  refine w_if (h1 _ ?_)
  cases b1 with
  | true => exact ite_t rfl (h2 _ (by simpa using k))
  | false => exact ite_f rfl (h3 _ (by simpa using k))
theorem w_chainp (h1 : ∀ R : VK, R x H → ta σ H R) (h2 : ∀ R : VK, R y H → tb σ H R) (h3 : ∀ R : VK, R z H → tc σ H R) (h4 : ∀ R : VK, R (.bl b1) H → r x y H R) (h5 : ∀ R : VK, R (.bl b2) H → r' y z H R) (k : Q (.bl (b1 && b2)) H) : tChain r r' ta tb tc σ H Q := by
  refine w_chain (h1 _ (h2 _ (h4 _ (w_bl ?_))))
  cases b1 with
  | true => exact ite_t rfl (h3 _ (h5 _ (by simpa using k)))
  | false => exact ite_f rfl k
end
/-! ### cuts: what holds between two statements -/
structure Cut (ts tz : TS) (D : Ends) (σ : L2.St) (H : Hp) : Prop where
  run : tSeq ts tz D σ H
def tCut (ts tz : TS) : TS := fun D σ H => Cut ts tz D σ H
theorem pss_cut {X : Cx} {st : Stmt} {rest : List Stmt} {t u : TS} (h1 : PS X st t) (h2 : PSs X rest u) : PSs X (st :: rest) (tCut t u) :=
  ⟨fun pins s σ H D I h => (pss_cons h1 h2).run pins s σ H D I h.run⟩
theorem w_cut {G : Hp} {M : List Mo} {σ : L2.St} {ts tz : TS} {D : Ends} (D0 : Dj G M) (Inv : L2.St → Hp → List Mo → Prop)
    (h : ∀ R : L2.St → Hp → Prop, (∀ σ' G' M', Ex G G' → Dj G' M' → Inv σ' G' M' → R σ' (jn G' M')) → ts { D with nx := R } σ (jn G M))
    (k : ∀ σ' G' M', Ex G G' → Dj G' M' → Inv σ' G' M' → tz D σ' (jn G' M')) : tCut ts tz D σ (jn G M) := ⟨h _ k⟩
theorem w_newD {G : Hp} {M : List Mo} {σ : L2.St} {Q : VK} (D : Dj G M) (k : ∀ p G', Ex G G' → G p = none → G' p = some (.dK []) → Dj G' M → Q (.ref p) (jn G' M)) : tDNewK σ (jn G M) Q := by
  intro p hp
  obtain ⟨h1, h2⟩ := jn_none hp
  rw [jn_new h1]
  exact k p _ (Ex.new h2) h2 upd_same (D.new h1)
/-! ### loops, the way on not in sight -/
section
variable {K : PySem.W.Frag} {G : Hp} {M : List Mo} {σ : L2.St} {g : TG} {tb : TS} {E : Ends} {a b : Addr} {xs ys : List V} {n : Nat} {lo : Int}
theorem w_gL (D : Dj G M) (Inv : Nat → L2.St → Hp → List Mo → Prop) (h0 : Inv 0 σ G M) (hG : ∀ i σ' G' M', i ≤ xs.length → Ex G G' → Dj G' M' → Inv i σ' G' M' → SqL K (jn G' M') a xs)
    (hs : ∀ i x σ' G' M', xs[i]? = some x → Ex G G' → Dj G' M' → Inv i σ' G' M' → ∀ (R : L2.St → Hp → Prop) (E' : Ends), (∀ σ' G' M', Ex G G' → Dj G' M' → Inv (i + 1) σ' G' M' → R σ' (jn G' M')) → g x σ' (jn G' M') fun σ2 H2 => tb { E' with nx := R, ct := R } σ2 H2)
    (hd : ∀ σ' G' M', Ex G G' → Dj G' M' → Inv xs.length σ' G' M' → E.nx σ' (jn G' M')) : aFor (Itl K a) g tb E σ (jn G M) :=
  w_fL D Inv h0 hG (fun i x σ' G' M' hx e D' q => hs i x σ' G' M' hx e D' q _ { E with bk := E.nx } fun σ2 G2 M2 e2 D2 q2 => nxt e2 D2 q2) hd
theorem w_gT (D : Dj G M) (Inv : Nat → L2.St → Hp → List Mo → Prop) (h0 : Inv 0 σ G M) (hG : ∀ i σ' G' M', i ≤ xs.length → Ex G G' → Dj G' M' → Inv i σ' G' M' → SqT K (jn G' M') a xs)
    (hs : ∀ i x σ' G' M', xs[i]? = some x → Ex G G' → Dj G' M' → Inv i σ' G' M' → ∀ (R : L2.St → Hp → Prop) (E' : Ends), (∀ σ' G' M', Ex G G' → Dj G' M' → Inv (i + 1) σ' G' M' → R σ' (jn G' M')) → g x σ' (jn G' M') fun σ2 H2 => tb { E' with nx := R, ct := R } σ2 H2)
    (hd : ∀ σ' G' M', Ex G G' → Dj G' M' → Inv xs.length σ' G' M' → E.nx σ' (jn G' M')) : aFor (Itt K a) g tb E σ (jn G M) :=
  w_fT D Inv h0 hG (fun i x σ' G' M' hx e D' q => hs i x σ' G' M' hx e D' q _ { E with bk := E.nx } fun σ2 G2 M2 e2 D2 q2 => nxt e2 D2 q2) hd
theorem w_gR (D : Dj G M) (Inv : Nat → L2.St → Hp → List Mo → Prop) (h0 : Inv 0 σ G M)
    (hs : ∀ (i : Nat) σ' G' M', i < n → Ex G G' → Dj G' M' → Inv i σ' G' M' → ∀ (R : L2.St → Hp → Prop) (E' : Ends), (∀ σ' G' M', Ex G G' → Dj G' M' → Inv (i + 1) σ' G' M' → R σ' (jn G' M')) → g (.int (lo + (i : Int))) σ' (jn G' M') fun σ2 H2 => tb { E' with nx := R, ct := R } σ2 H2)
    (hd : ∀ σ' G' M', Ex G G' → Dj G' M' → Inv n σ' G' M' → E.nx σ' (jn G' M')) : aFor (Itr lo n) g tb E σ (jn G M) :=
  w_fR D Inv h0 (fun i σ' G' M' hi e D' q => hs i σ' G' M' hi e D' q _ { E with bk := E.nx } fun σ2 G2 M2 e2 D2 q2 => nxt e2 D2 q2) hd
theorem w_gE (D : Dj G M) (Inv : Nat → L2.St → Hp → List Mo → Prop) (h0 : Inv 0 σ G M) (hG : ∀ i σ' G' M', i ≤ xs.length → Ex G G' → Dj G' M' → Inv i σ' G' M' → SqL K (jn G' M') a xs)
    (hs : ∀ (i : Nat) x T σ' G' G2 M', xs[i]? = some x → Ex G G' → Ex G' G2 → Dj G2 M' → Inv i σ' G' M' → G2 T = some (.tup [.int (i : Int), x]) → ∀ (R : L2.St → Hp → Prop) (E' : Ends), (∀ σ' G' M', Ex G G' → Dj G' M' → Inv (i + 1) σ' G' M' → R σ' (jn G' M')) → g (.ref T) σ' (jn G2 M') fun σ2 H2 => tb { E' with nx := R, ct := R } σ2 H2)
    (hd : ∀ σ' G' M', Ex G G' → Dj G' M' → Inv xs.length σ' G' M' → E.nx σ' (jn G' M')) : aFor (Ite K a) g tb E σ (jn G M) :=
  w_fE D Inv h0 hG (fun i x T σ' G' G2 M' hx e e2 D2 q hT => hs i x T σ' G' G2 M' hx e e2 D2 q hT _ { E with bk := E.nx } fun σ3 G3 M3 e3 D3 q3 => nxt e3 D3 q3) hd
theorem w_gZ (hl : xs.length = ys.length) (D : Dj G M) (Inv : Nat → L2.St → Hp → List Mo → Prop) (h0 : Inv 0 σ G M) (hG : ∀ i σ' G' M', i ≤ xs.length → Ex G G' → Dj G' M' → Inv i σ' G' M' → SqL K (jn G' M') a xs ∧ SqL K (jn G' M') b ys)
    (hs : ∀ (i : Nat) x y T σ' G' G2 M', xs[i]? = some x → ys[i]? = some y → Ex G G' → Ex G' G2 → Dj G2 M' → Inv i σ' G' M' → G2 T = some (.tup [x, y]) → ∀ (R : L2.St → Hp → Prop) (E' : Ends), (∀ σ' G' M', Ex G G' → Dj G' M' → Inv (i + 1) σ' G' M' → R σ' (jn G' M')) → g (.ref T) σ' (jn G2 M') fun σ2 H2 => tb { E' with nx := R, ct := R } σ2 H2)
    (hd : ∀ σ' G' M', Ex G G' → Dj G' M' → Inv xs.length σ' G' M' → E.nx σ' (jn G' M')) : aFor (Itz K a b) g tb E σ (jn G M) :=
  w_fZ hl D Inv h0 hG (fun i x y T σ' G' G2 M' hx hy e e2 D2 q hT => hs i x y T σ' G' G2 M' hx hy e e2 D2 q hT _ { E with bk := E.nx } fun σ3 G3 M3 e3 D3 q3 => nxt e3 D3 q3) hd
end
/-! ### guards of the search -/
section
variable {H : Hp} {σ : L2.St} {Q : VK} {x y : V} {xs : List V}
theorem gTS {t : TS} {D : Ends} (k : t D σ H) : t D σ H := k
theorem gTE {t : TE} (k : t σ H Q) : t σ H Q := k
theorem gTA {t : TA} {QA : List V → Hp → Prop} (k : t σ H QA) : t σ H QA := k
theorem gTT {t : TT} {QT : Bool → Hp → Prop} (k : t σ H QT) : t σ H QT := k
theorem gR2 {r : R2} (k : r x y H Q) : r x y H Q := k
theorem gCL {r : List V → Hp → VK → Prop} (k : r xs H Q) : r xs H Q := k
theorem gR1 {r : V → Hp → VK → Prop} (k : r x H Q) : r x H Q := k
theorem gTG {g : TG} {QS : L2.St → Hp → Prop} (k : g x σ H QS) : g x σ H QS := k
theorem gTI {t : TI} {R : It → Hp → Prop} (k : t σ H R) : t σ H R := k
end
/-! ### what the last part needs -/
theorem fnR0 {P : Program} {w : World} {K : PySem.W.Frag} {mg : Str → Option Value} {base : Heap} {k : Nat} {f : Addr} {fd : FuncData} {ps : List Str} {sp : Sp} (F : FnOk P w K mg base CX0 k f fd ps sp) (hb : Binds K fd ps []) : FnR P w K mg base CX0 k f sp :=
  (FnOk.raw F hb .nil).imp fun vs H Q E h => by
    rw [List.append_nil]
    exact h
theorem fnIn_of {K : PySem.W.Frag} {f : Addr} {oc : Value} {od : Option Addr} {osl : Array (Option Value)} {fd : FuncData} (l : K.lookup f = some ⟨oc, od, .func fd, osl⟩) : PySem.W.fnIn K f = true := by
  unfold PySem.W.fnIn
  rw [l]
theorem tys_of {P : String → Prop} (h1 : P "int") (h2 : P "bool") (h3 : P "str") (h4 : P "list") (h5 : P "tuple") (h6 : P "dict") (h7 : P "NoneType") : ∀ T ∈ TYS, P T := by
  intro T hT
  simp [TYS] at hT
  rcases hT with rfl | rfl | rfl | rfl | rfl | rfl | rfl <;> assumption
theorem kit_tc {K : PySem.W.Frag} {C : Addr} {T : String} {b : Bool} (c : PySem.W.isClsIn K C = true) (t : PySem.W.typeIn K (.ref C) = some (.type "type")) (s : PySem.W.subIn K (.type T) (.ref C) = some b) : PySem.W.kitOne K (.type T) (.ref C) = some b := by
  unfold PySem.W.kitOne
  rw [if_neg (by simp)]
  show (if ((PySem.W.clsIn K C).isSome && PySem.W.typeIn K (.ref C) == some (.type "type")) = true then PySem.W.subIn K (.type T) (.ref C) else none) = some b
  have h : ((PySem.W.clsIn K C).isSome && PySem.W.typeIn K (.ref C) == some (.type "type")) = true := by
    rw [show (PySem.W.clsIn K C).isSome = true from c, t]
    simp
  rw [if_pos h]
  exact s
theorem kit_ct {K : PySem.W.Frag} {C : Addr} {T : String} {b : Bool} (m : PySem.W.kitMeta T = true) (s : PySem.W.subIn K (.ref C) (.type T) = some b) : PySem.W.kitOne K (.ref C) (.type T) = some b := by
  unfold PySem.W.kitOne
  rw [if_neg (by simp)]
  show (if PySem.W.kitMeta T = true then PySem.W.subIn K (.ref C) (.type T) else none) = some b
  rw [if_pos m]
  exact s
theorem kit_cc {K : PySem.W.Frag} {C D : Addr} {b : Bool} (hn : ¬ C = D) (c : PySem.W.isClsIn K D = true) (t : PySem.W.typeIn K (.ref D) = some (.type "type")) (s : PySem.W.subIn K (.ref C) (.ref D) = some b) : PySem.W.kitOne K (.ref C) (.ref D) = some b := by
  unfold PySem.W.kitOne
  rw [if_neg (by simp [hn])]
  show (if ((PySem.W.clsIn K D).isSome && PySem.W.typeIn K (.ref D) == some (.type "type")) = true then PySem.W.subIn K (.ref C) (.ref D) else none) = some b
  have h : ((PySem.W.clsIn K D).isSome && PySem.W.typeIn K (.ref D) == some (.type "type")) = true := by
    rw [show (PySem.W.clsIn K D).isSome = true from c, t]
    simp
  rw [if_pos h]
  exact s
theorem nf_of {K : PySem.W.Frag} {C : Addr} {t : Value} (s : PySem.W.subIn K t (.ref C) = some false) : PySem.W.notFirst K C t = true := by
  unfold PySem.W.notFirst
  rw [s]
  simp
theorem nf_self {K : PySem.W.Frag} {C : Addr} : PySem.W.notFirst K C (.ref C) = true := by
  unfold PySem.W.notFirst
  simp
theorem cf_mk {K : PySem.W.Frag} {mg : Str → Option Value} {x : Str} {C : Addr} {fields : List Str} (cl : Cls K C) (m : mg x = some (.ref C)) (no : ∀ f ∈ fields, NoAttr K C f) (ha : PySem.W.findIn K (.ref C) "__class__" = some (some (.builtin "object.__class__"))) (hm : PySem.W.mroIn K C (.type "object") = some true) (sf : PySem.W.selfFirst K C = true)
    (c : PySem.W.isClsIn K C = true) (t : PySem.W.typeIn K (.ref C) = some (.type "type"))
    (s1 : PySem.W.subIn K (.type "int") (.ref C) = some false) (s2 : PySem.W.subIn K (.type "bool") (.ref C) = some false) (s3 : PySem.W.subIn K (.type "str") (.ref C) = some false) (s4 : PySem.W.subIn K (.type "list") (.ref C) = some false) (s5 : PySem.W.subIn K (.type "tuple") (.ref C) = some false) (s6 : PySem.W.subIn K (.type "dict") (.ref C) = some false) (s7 : PySem.W.subIn K (.type "NoneType") (.ref C) = some false)
    (r1 : PySem.W.subIn K (.ref C) (.type "int") = some false) (r2 : PySem.W.subIn K (.ref C) (.type "bool") = some false) (r3 : PySem.W.subIn K (.ref C) (.type "str") = some false) (r4 : PySem.W.subIn K (.ref C) (.type "list") = some false) (r5 : PySem.W.subIn K (.ref C) (.type "tuple") = some false) (r6 : PySem.W.subIn K (.ref C) (.type "dict") = some false) (r7 : PySem.W.subIn K (.ref C) (.type "NoneType") = some false) : Cf K mg x C fields :=
  ⟨cl, m, no, ha, hm, sf, nf_self, tys_of (nf_of s1) (nf_of s2) (nf_of s3) (nf_of s4) (nf_of s5) (nf_of s6) (nf_of s7),
    tys_of (kit_tc c t s1) (kit_tc c t s2) (kit_tc c t s3) (kit_tc c t s4) (kit_tc c t s5) (kit_tc c t s6) (kit_tc c t s7),
    tys_of (kit_ct (by decide +kernel) r1) (kit_ct (by decide +kernel) r2) (kit_ct (by decide +kernel) r3) (kit_ct (by decide +kernel) r4) (kit_ct (by decide +kernel) r5) (kit_ct (by decide +kernel) r6) (kit_ct (by decide +kernel) r7)⟩
end Td

namespace Td
open PySem L2 PyProof.Rows
/-! steps of the readings: each row is a try -/
local macro_rules | `(tactic| fail "st") => `(tactic| first | exact SetAt.z | ((with_reducible refine' SetAt.s ?h); (case h => fail "st")))
local macro_rules | `(tactic| fail "fct") => `(tactic| first
  | with_reducible assumption
  | with_reducible exact own0
  | with_reducible exact ownI
  | with_reducible exact dr_g
  | ((with_reducible refine' dr_c ?h); (case h => with_reducible assumption))
  | ((with_reducible refine' own1 ?h); (case h => with_reducible assumption))
  | ((with_reducible refine' own2 ?h); (case h => with_reducible assumption))
  | ((with_reducible refine' sql_of ?h); (case h => fail "fct"))
  | ((with_reducible refine' sqt_of ?h); (case h => fail "fct"))
  | ((with_reducible refine' Dj.get ?e ?h); (case e => with_reducible assumption); (case h => fail "fct"))
  | ((with_reducible refine' ex_use ?e ?h); (case e => with_reducible assumption); (case h => fail "fct"))
  | ((with_reducible refine' sql_ex ?e ?h); (case e => with_reducible assumption); (case h => fail "fct"))
  | ((with_reducible refine' sqt_ex ?e ?h); (case e => with_reducible assumption); (case h => fail "fct"))
  | ((with_reducible refine' sql_ex (Dj.ex ?e) ?h); (case e => with_reducible assumption); (case h => fail "fct"))
  | ((with_reducible refine' sqt_ex (Dj.ex ?e) ?h); (case e => with_reducible assumption); (case h => fail "fct")))
local macro_rules | `(tactic| fail "ex") => `(tactic| first | with_reducible exact Ex.refl _ | with_reducible assumption | ((with_reducible refine' Ex.after ?e ?h); (case e => first | with_reducible assumption | assumption); (case h => fail "ex")))
local macro_rules | `(tactic| fail "tx") => `(tactic| first | exact tx_int | exact tx_bl | exact tx_str | exact tx_non | assumption | exact tx_lst (by fail "fct") | exact tx_tup (by fail "fct") | exact tx_dK (by fail "fct") | exact tx_ins (by assumption) (by assumption) (by fail "fct"))
local macro_rules | `(tactic| fail "kit") => `(tactic| first | exact kit_self | exact kit_int_int | exact kit_int_bool | exact kit_bool_int | exact kit_bool_bool | exact kit_tuple_tuple | exact kit_list_list | exact kit_str_str | exact kit_int_tuple | exact kit_int_list | exact kit_int_str | exact kit_str_int | exact kit_list_int | exact kit_tuple_int | exact kit_dict_int | exact kit_none_int | assumption | exact Cf.ki (by assumption) _ (by decide) | exact Cf.ko (by assumption) _ (by decide))
local macro_rules | `(tactic| fail "sz") => `(tactic| ((with_reducible refine' sz_len ?h); (case h => first | (simp only [List.length_cons, List.length_nil, List.length_map, List.length_append, List.length_set] at *; omega) | (simp <;> omega))))
local macro_rules | `(tactic| fail "tv") => `(tactic| first
  | rfl
  | (simp only [decide_eq_true_eq, decide_eq_false_iff_not, Bool.not_eq_true', Bool.not_eq_false', Bool.not_true, Bool.not_false, Bool.and_eq_true, Bool.not_not, not_true_eq_false, not_false_eq_true, reduceCtorEq]; first | done | assumption | omega)
  | (simp only [← Bool.decide_or, ← Bool.decide_and, ← decide_not, decide_eq_decide, decide_eq_true_eq, decide_eq_false_iff_not]; omega))
local macro_rules | `(tactic| fail "ar1") => `(tactic| first | (with_reducible assumption) | (show (0 : Int) < _; omega) | (refine Or.inl ⟨?_, ?_⟩ <;> omega) | (refine Or.inr ⟨?_, ?_⟩ <;> omega) | (refine ⟨?_, ?_⟩ <;> omega) | (refine ⟨by omega, by omega, by omega⟩) | decide)
local macro_rules | `(tactic| fail "ar") => `(tactic| first | fail "ar1" | (simp only [List.length_map, List.length_append, List.length_set] at *; fail "ar1"))
local macro_rules | `(tactic| fail "om") => `(tactic| first | omega | (simp only [List.length_map, List.length_set, List.length_append, List.length_replicate] at *; omega))
local macro_rules | `(tactic| fail "dj") => `(tactic| first | with_reducible assumption | ((with_reducible refine' Dj.dr ?h); (case h => with_reducible assumption)) | ((with_reducible refine' Dj.lst ?h); (case h => with_reducible assumption)) | ((with_reducible refine' Dj.lst1 ?h); (case h => with_reducible assumption)) | ((with_reducible refine' Dj.insS ?h); (case h => with_reducible assumption)))
local macro_rules | `(tactic| fail "dg") => `(tactic| first | exact dg_n (dr_at (by fail "dj")) | exact dg_g (dr_at (by fail "dj")) | exact dg_c (dr_at (by fail "dj")))
local macro_rules | `(tactic| fail "lk") => `(tactic| first
  | with_reducible exact lk_hd
  | with_reducible exact lk_no
  | ((with_reducible refine' lk_tl ?h ?k); (case h => decide +kernel); (case k => fail "lk"))
  | ((with_reducible refine' lk_tn ?h ?k); (case h => decide +kernel); (case k => fail "lk")))
local macro_rules | `(tactic| fail "pf") => `(tactic| first
  | with_reducible exact pf_nil
  | with_reducible exact pf_hd
  | ((with_reducible refine' pf_tl ?h ?k); (case h => decide +kernel); (case k => fail "pf")))
local macro_rules | `(tactic| fail "cls") => `(tactic| first | assumption | ((with_reducible refine' Cf.cl ?h); (case h => with_reducible assumption)))
local macro_rules | `(tactic| fail "nat") => `(tactic| first | assumption | ((with_reducible refine' Cf.no ?h _ ?m); (case h => with_reducible assumption); (case m => decide)))
local macro_rules | `(tactic| fail "tb") => `(tactic| first | exact TB.int | exact TB.str | exact TB.bl | exact TB.non | ((with_reducible refine' TB.ins ?h); (case h => fail "fct")) | ((with_reducible refine' TB.tup ?h); (case h => fail "fct")) | ((with_reducible refine' TB.lst ?h); (case h => fail "fct")))
local macro_rules | `(tactic| fail "nf") => `(tactic| first | exact Cf.nfs (by assumption) | exact Cf.nf (by assumption) _ (by decide))
local macro_rules | `(tactic| fail "gTS") => `(tactic| ((with_reducible refine' gTS ?_); first
    | with_reducible refine' w_seq ?_
    | with_reducible refine' w_asg ?_
    | with_reducible refine' w_ifS ?_
    | with_reducible refine' w_next ?_
    | with_reducible refine' w_ret ?_
    | with_reducible refine' w_retN ?_
    | with_reducible refine' w_drop ?_
    | with_reducible refine' w_par ?_
    | with_reducible refine' w_for ?_
    | with_reducible refine' w_sfld ?_
    | with_reducible refine' w_dput ?_))
local macro_rules | `(tactic| fail "gTE") => `(tactic| ((with_reducible refine' gTE ?_); first
    | ((with_reducible refine' w_var ?h ?_); (case h => exact rfl))
    | with_reducible refine' w_c ?_
    | with_reducible refine' w_op ?_
    | with_reducible refine' w_un ?_
    | with_reducible refine' w_cb ?_
    | with_reducible refine' w_andV ?_
    | with_reducible refine' w_orV ?_
    | with_reducible refine' w_notV ?_
    | with_reducible refine' w_if ?_
    | with_reducible refine' w_chain ?_
    | with_reducible refine' w_tup ?_
    | with_reducible refine' w_lst ?_
    | with_reducible refine' w_cl ?_
    | with_reducible refine' w_mk ?_
    | with_reducible refine' w_fld ?_
    | with_reducible refine' w_lc ?_
    | with_reducible refine' w_bm ?_
    | with_reducible refine' w_dget ?_
    | ((with_reducible refine' w_disp ?h (fun m0 D => ?_)); (case h => fail "dj"))
    | with_reducible refine' w_mtK ?_
    | ((with_reducible refine' w_newD ?h (fun p G' e np hp D => ?_)); (case h => fail "dj"))))
local macro_rules | `(tactic| fail "gTA") => `(tactic| ((with_reducible refine' gTA ?_); first
    | with_reducible refine' w_cons ?_
    | with_reducible refine' w_nil ?_))
local macro_rules | `(tactic| fail "gTT") => `(tactic| ((with_reducible refine' gTT ?_); first
    | with_reducible refine' w_test ?_
    | with_reducible refine' w_B ?_
    | with_reducible refine' w_and ?_
    | with_reducible refine' w_or ?_
    | with_reducible refine' w_not ?_
    | with_reducible refine' w_yes ?_))
local macro_rules | `(tactic| fail "gR2") => `(tactic| ((with_reducible refine' gR2 ?_); first
    | with_reducible refine' w_add ?_
    | with_reducible refine' w_sub ?_
    | ((with_reducible refine' w_mul ?h ?_); (case h => fail "ar"))
    | ((with_reducible refine' w_mod ?h ?_); (case h => fail "ar"))
    | ((with_reducible refine' w_fdv ?h ?_); (case h => fail "ar"))
    | ((with_reducible refine' w_pow ?h ?e ?_); (case h => exact ⟨by decide, by decide, by decide⟩); (case e => ((try simp only [Int.reduceToNat, Int.reducePow]); exact rfl)))
    | with_reducible refine' w_eqI ?_
    | with_reducible refine' w_neI ?_
    | with_reducible refine' w_eqB ?_
    | with_reducible refine' w_neB ?_
    | with_reducible refine' w_eqS ?_
    | with_reducible refine' w_neS ?_
    | with_reducible refine' w_lt ?_
    | with_reducible refine' w_le ?_
    | with_reducible refine' w_gt ?_
    | with_reducible refine' w_ge ?_
    | with_reducible refine' w_is ?_
    | with_reducible refine' w_isN ?_
    | ((with_reducible refine' w_ixIb ?hb ?h ?h0 ?h1 (fun c hc hce hcb => ?_)); (case h => fail "fct"); (case hb => with_reducible assumption); (case h0 => omega); (case h1 => fail "om"))
    | ((with_reducible refine' w_ixI ?h ?h0 ?h1 (fun c hc hce => ?_)); (case h => fail "fct"); (case h0 => omega); (case h1 => fail "om"))
    | ((with_reducible refine' w_ixT ?h ?ha ?_); (case h => fail "fct"); (case ha => exact rfl))
    | ((with_reducible refine' w_ixL ?h ?ha ?_); (case h => fail "fct"); (case ha => exact rfl))
    | ((with_reducible refine' w_o2 ?h1 ?h2 ?_); (case h1 => fail "fct"); (case h2 => fail "fct"))
    | ((with_reducible refine' w_o1 ?h1 ?h2 ?h3 ?_); (case h1 => fail "fct"); (case h2 => fail "tb"); (case h3 => fail "nf"))
    | ((with_reducible refine' w_oN ?h1 ?h2 ?h3 ?_); (case h1 => fail "fct"); (case h2 => fail "tb"); (case h3 => fail "nf"))
    | ((with_reducible refine' w_oIn ?h1 ?_); (case h1 => fail "fct"))
    | ((with_reducible refine' w_oNIn ?h1 ?_); (case h1 => fail "fct"))
    | ((with_reducible refine' w_dgk ?h ?_); (case h => fail "dg"))))
local macro_rules | `(tactic| fail "gCL") => `(tactic| ((with_reducible refine' gCL ?_); first
    | with_reducible refine' w_int ?_
    | with_reducible refine' w_intB ?_
    | with_reducible refine' w_abs ?_
    | ((with_reducible refine' w_lenI ?h ?_); (case h => fail "fct"))
    | ((with_reducible refine' w_lenL ?h ?_); (case h => fail "fct"))
    | ((with_reducible refine' w_lenT ?h ?_); (case h => fail "fct"))
    | ((with_reducible refine' w_isi ?h ?h2 ?h3 ?_); (case h => first | exact ClsV.ty _ | exact ClsV.own _); (case h2 => fail "tx"); (case h3 => fail "kit"))
    | ((with_reducible refine' w_oB ?h1 ?_); (case h1 => fail "fct"))
    | with_reducible refine' w_boolB ?_
    | with_reducible refine' w_boolI ?_
    | ((with_reducible refine' w_newT ?h ?h2 (fun p G' e np hp D => ?_)); (case h => fail "dj"); (case h2 => fail "sz"))))
local macro_rules | `(tactic| fail "gR1") => `(tactic| ((with_reducible refine' gR1 ?_); first
    | with_reducible refine' w_neg ?_
    | ((with_reducible refine' w_get ?h ?c ?n ?l ?_); (case h => fail "fct"); (case c => fail "cls"); (case n => fail "nat"); (case l => fail "lk"))))
local macro_rules | `(tactic| fail "gTG") => `(tactic| ((with_reducible refine' gTG ?_); first
    | ((with_reducible refine' w_gn ?h ?_); (case h => fail "st"))
    | with_reducible refine' w_gsub ?_
    | ((with_reducible refine' w_gtup ?h ?hl ?_); (case h => fail "fct"); (case hl => rfl))
    | with_reducible refine' w_gfld ?_))
local macro_rules | `(tactic| fail "gTI") => `(tactic| ((with_reducible refine' gTI ?_); first
    | with_reducible refine' w_iL ?_
    | with_reducible refine' w_iT ?_
    | with_reducible refine' w_iR1 ?_
    | with_reducible refine' w_iR2 ?_
    | with_reducible refine' w_iE ?_
    | with_reducible refine' w_iZ ?_))
local macro_rules | `(tactic| fail "gIT") => `(tactic| first
  | with_reducible refine' w_bl ?_
  | ((with_reducible refine' ite_t ?h ?_); (case h => fail "tv"))
  | ((with_reducible refine' ite_f ?h ?_); (case h => fail "tv"))
  | with_reducible refine' w_gnil ?_
  | with_reducible refine' w_gcons ?_
  | ((with_reducible refine' w_par2 ?h ?h2 ?_); (case h => fail "st"); (case h2 => fail "st"))
  | ((with_reducible refine' w_iL1 ?h ?_); (case h => fail "fct"))
  | ((with_reducible refine' w_iT1 ?h ?_); (case h => fail "fct"))
  | ((with_reducible refine' w_iR ?h ?h2 ?_); (case h => omega); (case h2 => omega))
  | ((with_reducible refine' w_iRR ?h ?_); (case h => omega))
  | ((with_reducible refine' w_iE1 ?h ?_); (case h => fail "fct"))
  | ((with_reducible refine' w_iZ1 ?h ?h2 ?_); (case h => fail "fct"); (case h2 => fail "fct"))
  | ((with_reducible refine' w_bmL ?h ?_); (case h => fail "fct"))
  | with_reducible refine' w_set ?_
  | ((with_reducible refine' w_wp ?h ?_); (case h => rfl))
  | ((with_reducible refine' w_setI0 ?h0 ?h1 ?_); (case h0 => omega); (case h1 => fail "om"))
  | ((with_reducible refine' w_setI1 ?h ?h0 ?h1 ?_); (case h => with_reducible assumption); (case h0 => omega); (case h1 => fail "om"))
  | ((with_reducible refine' nxt ?e ?D ?_); (case e => fail "ex"); (case D => fail "dj"))
  | ((with_reducible refine' cmp ?e ?D ?z ?_); (case e => fail "ex"); (case D => fail "dj"); (case z => fail "om"))
  | ((with_reducible refine' cmp1 ?e ?D ?z ?_); (case e => fail "ex"); (case D => fail "dj"); (case z => fail "om"))
  | ((with_reducible refine' w_put ?c ?n ?l ?e ?_); (case c => fail "cls"); (case n => fail "nat"); (case l => simp <;> omega); (case e => fail "pf"))
  | ((with_reducible refine' w_mt1 ?h ?l ?_); (case h => fail "fct"); (case l => fail "lk"))
  | with_reducible refine' w_pcons ?_
  | with_reducible refine' w_pnil ?_)
local macro_rules | `(tactic| fail "ro1") => `(tactic| first | fail "gTE" | fail "gTA" | fail "gTS" | fail "gR2" | fail "gTT" | fail "gTG" | fail "gCL" | fail "gR1" | fail "gTI" | fail "gIT")
local macro_rules | `(tactic| fail "rd1") => `(tactic| first | fail "ro1" | fail "sp")
local macro_rules | `(tactic| fail "ro") => `(tactic| repeat fail "ro1")
local macro_rules | `(tactic| fail "sp") => `(tactic| fail "no promise")
local macro_rules | `(tactic| fail "nl") => `(tactic| ((with_reducible refine' w_newL ?h ?h2 (fun p G' e np hp D => ?_)); (case h => fail "dj"); (case h2 => fail "sz")))
local macro_rules | `(tactic| fail "rd") => `(tactic| repeat fail "rd1")

local macro_rules | `(tactic| fail "pu") => `(tactic| (intro R hR; fail "rp"; exact hR))
local macro_rules | `(tactic| fail "rp1") => `(tactic| first
  | ((with_reducible refine' w_orVp ?h1 ?h2 ?_); (case h1 => fail "pu"); (case h2 => fail "pu"))
  | ((with_reducible refine' w_andVp ?h1 ?h2 ?_); (case h1 => fail "pu"); (case h2 => fail "pu"))
  | ((with_reducible refine' w_orTp ?h1 ?h2 ?_); (case h1 => fail "pu"); (case h2 => fail "pu"))
  | ((with_reducible refine' w_andTp ?h1 ?h2 ?_); (case h1 => fail "pu"); (case h2 => fail "pu"))
  | ((with_reducible refine' w_ifpI ?h1 ?h2 ?h3 ?_); (case h1 => fail "pu"); (case h2 => fail "pu"); (case h3 => fail "pu"))
  | ((with_reducible refine' w_chainp ?h1 ?h2 ?h3 ?h4 ?h5 ?_); (case h1 => fail "pu"); (case h2 => fail "pu"); (case h3 => fail "pu"); (case h4 => fail "pu"); (case h5 => fail "pu"))
  | fail "rd1")
local macro_rules | `(tactic| fail "rp") => `(tactic| repeat fail "rp1")

def top (i : Nat) : Stmt := PySem.Challenge.pw_turndues_k18_windows_as_sets.main.body.getD i (.Pass ⟨0, 0, 0, 0⟩)
section
variable {P : Program} {w : World} {K : PySem.W.Frag} {mg : Str → Option Value} {base : Heap}
/-- a window stands at x -/
def Win (C : Addr) (G : Hp) (x : Addr) (f l : Int) : Prop := ∃ dx, G x = some (.ins C dx ([("first", .int f), ("last", .int l)] : List (Str × V)))
def Nrm (f l f2 l2 : Int) : Prop := (f ≤ l ∧ f2 = f ∧ l2 = l) ∨ (l < f ∧ f2 = 0 ∧ l2 = -1)
/-! ### _law_folded -/
abbrev s__law_folded : Stmt := top 7
theorem sc__law_folded : FnScope ["_law_script", "_law_found", "_law_n", "_law_cell"] ["_law_script"] (defScope s__law_folded) := ⟨rfl, rfl, rfl, by decide +kernel, rfl, by decide +kernel, by decide +kernel⟩
def sp__law_folded (K : PySem.W.Frag) : Sp := Pl (fun (a : Addr × List Int) G vs => vs = [.ref a.1] ∧ SqL K G a.1 (a.2.map V.int) ∧ a.2.length ≤ 63) (fun _ xs _ => ∃ cs : List Int, xs = cs.map V.int ∧ cs.length = 64 ∧ ∀ c ∈ cs, 0 ≤ c ∧ c < 2147483647)
theorem ok__law_folded {f : Addr} {fd : FuncData} (F : Fun K "_law_folded" "_law_folded" s__law_folded f fd) (N : Gn K) (B : Bt mg)  : FnOk P w K mg base CX0 1 f fd ["_law_script"] (sp__law_folded K) := by
  have nd := sc__law_folded.nd
  refine F.ok sc__law_folded (fun vs H Q E h => ?_) (fun cdv A outer s H vs Q E hr h => ?_)
  · obtain ⟨a, ⟨rfl, _⟩, _⟩ := h
    rfl
  · have hu := hu_of hr
    have hu64 := hr.units
    obtain ⟨⟨a, ns⟩, ⟨rfl, hS, hl⟩, k⟩ := h
    dsimp only at hS hl k
    refine ⟨_, (pss_cons (ps_setLc (i := 1) (own := [("_law_n", 2)]) (g := gName 2) (by rfl) nd rfl rfl (sw_true rfl rfl rfl (by decide +kernel)) (pi_range1 rfl B.irange (pa_cons pe_int pa_nil)) (blkOk_by (N := ["_law_script", "_law_found", "_law_n", "_law_cell"]) (sc := defScope s__law_folded) (by decide +kernel)) (fun _ _ _ _ _ => (pg_name (i := 2) nd rfl (Or.inl rfl))) (fun _ _ _ _ _ => pts_nil) (fun _ _ _ _ _ => (pe_op (k_addU (K := K) rfl) pe_int (pv 2))))
      (pss_cons (ps_for PassesOwn.never rfl (k_enum (K := K) rfl rfl B.ienumerate (pa_cons (pv 0) pa_nil)) (k_tupG (K := K) rfl rfl (pgs_cons (pg_name (i := 2) nd rfl (Or.inl rfl)) (pgs_cons (pg_name (i := 3) nd rfl (Or.inl rfl)) pgs_nil))) (pss_one (ps_asg (pe_op op_modU (pe_callTy cr_int rfl B.iint boot_int (pa_cons (pe_op (k_addU (K := K) rfl) (pe_op op_mulU (pe_ix (k_ix (K := K) rfl) (pv 1) (pe_op op_modU (pe_callTy cr_int rfl B.iint boot_int (pa_cons (pv 2) pa_nil)) pe_int) (fun _ _ => rfl)) pe_int) (pv 3)) pa_nil)) pe_int) (pg_sub (pv 1) (pe_op op_modU (pe_callTy cr_int rfl B.iint boot_int (pa_cons (pv 2) pa_nil)) pe_int) set_list))))
      (pss_cons (ps_for PassesOwn.never rfl (pi_range2 rfl B.irange (pa_cons pe_int (pa_cons pe_int pa_nil))) (pg_name (i := 2) nd rfl (Or.inl rfl)) (pss_one (ps_asg (pe_op op_modU (pe_callTy cr_int rfl B.iint boot_int (pa_cons (pe_op (k_addU (K := K) rfl) (pe_ix (k_ix (K := K) rfl) (pv 1) (pv 2) (fun _ _ => rfl)) (pe_op op_mulU (pe_ix (k_ix (K := K) rfl) (pv 1) (pe_op op_subU (pv 2) pe_int) (fun _ _ => rfl)) pe_int)) pa_nil)) pe_int) (pg_sub (pv 1) (pv 2) set_list))))
      (pss_one (ps_ret (pv 1)))))), ?_⟩
    try dsimp only [cxOf, Cx.nox]
    refine st0 (σ := [some _, none, none, none]) rfl ?_
    refine w00 fun D0 => ?_
    fail "rd"
    refine w_comp walk_range D0 (fun i acc _ M => M = [] ∧ ∃ cs : List Int, acc = cs.map V.int ∧ cs.length = i ∧ ∀ c ∈ cs, 0 ≤ c ∧ c < 2147483647) ⟨rfl, [], rfl, rfl, fun c hc => by cases hc⟩ (fun _ _ _ _ _ _ _ _ _ => True.intro) ?_ ?_
    · rintro i x Dl acc G' M' H' hi e D' ⟨rfl, cs, rfl, hcl, hcb⟩ ⟨rfl, rfl⟩
      refine w_gw (σ0 := [_, _, _, _]) rfl ?_
      fail "rd"
      exact ⟨rfl, cs ++ [17 + (0 + (i : Int))], by rw [List.map_append]; rfl, by rw [List.length_append, hcl]; rfl, mem_snoc hcb (by omega)⟩
    rintro p acc G1 M1 e1 D1 ⟨rfl, cs, rfl, hcl, hcb⟩
    have hS1 := sql_ex e1 hS
    fail "rd"
    refine w_fE (xs := ns.map V.int) D1 (fun i σ G M => ∃ (ds : List Int) (u v : Option V), σ = [some (.ref a), some (.ref p), u, v] ∧ M = [.lst p (ds.map V.int)] ∧ ds.length = 64 ∧ ∀ c ∈ ds, 0 ≤ c ∧ c < 2147483647) ⟨cs, _, _, rfl, rfl, hcl, hcb⟩ ?_ ?_ ?_
    · rintro i σ' G' M' hi e D' ⟨ds, u, v, rfl, rfl, hdl, hdb⟩
      fail "fct"
    · rintro i x T σ' G' G2 M' hx e e2 D2 ⟨ds, u, v, rfl, rfl, hdl, hdb⟩ hT
      obtain ⟨z, hz, rfl⟩ := map_get hx
      fail "rd"
      exact ⟨_, _, _, rfl, rfl, by rw [List.length_set]; exact hdl, mem_set hdb (by omega)⟩
    rintro σ' G2 M2 e2 D2 ⟨ds, u, v, rfl, rfl, hdl, hdb⟩
    fail "rd"
    refine w_fR D2 (fun i σ G M => ∃ (es : List Int) (u v : Option V), σ = [some (.ref a), some (.ref p), u, v] ∧ M = [.lst p (es.map V.int)] ∧ es.length = 64 ∧ ∀ c ∈ es, 0 ≤ c ∧ c < 2147483647) ⟨ds, _, _, rfl, rfl, hdl, hdb⟩ ?_ ?_
    · rintro i σ' G' M' hi e D' ⟨es, u, v, rfl, rfl, hel, heb⟩
      fail "rd"
      exact ⟨_, _, _, rfl, rfl, by rw [List.length_set]; exact hel, mem_set heb (by omega)⟩
    rintro σ' G3 M3 e3 D3 ⟨es, u, v, rfl, rfl, hel, heb⟩
    fail "rd"
    exact k p _ G3 (by fail "ex") ⟨es, rfl, hel, heb⟩ D3
theorem go_folded {K : PySem.W.Frag} {G : Hp} {M : List Mo} {a : Addr} {ns : List Int} {Q : VK} {E : XK} (D : Dj G M) (hS : SqL K G a (ns.map V.int)) (hl : ns.length ≤ 63) (k : ∀ (p : Addr) (cs : List Int) G', Ex G G' → cs.length = 64 → (∀ c ∈ cs, 0 ≤ c ∧ c < 2147483647) → Dj G' (.lst p (cs.map V.int) :: M) → Q (.ref p) (jn G' (.lst p (cs.map V.int) :: M))) : aCl (Frm (sp__law_folded K)) [.ref a] (jn G M) Q E :=
  w_pl D (a, ns) ⟨rfl, hS, hl⟩ fun p xs G' e ⟨cs, hx, h1, h2⟩ D' => by
    subst hx
    exact k p cs G' e h1 h2 D'
/-! ### _law_begun -/
abbrev s__law_begun : Stmt := top 9
theorem sc__law_begun : FnScope ["_law_script", "_law_m", "_law_cell"] ["_law_script"] (defScope s__law_begun) := ⟨rfl, rfl, rfl, by decide +kernel, rfl, by decide +kernel, by decide +kernel⟩
def sp__law_begun (K : PySem.W.Frag) : Sp := Pm (fun (a : Addr × List Int) G vs => vs = [.ref a.1] ∧ SqL K G a.1 (a.2.map V.int) ∧ a.2.length ≤ 63)
theorem ok__law_begun {f : Addr} {fd : FuncData} (F : Fun K "_law_begun" "_law_begun" s__law_begun f fd) (N : Gn K) (B : Bt mg) (D__law_folded : Df P w K mg base CX0 1 "_law_folded" (sp__law_folded K)) : FnOk P w K mg base CX0 2 f fd ["_law_script"] (sp__law_begun K) := by
  have nd := sc__law_begun.nd
  have D__law_folded := D__law_folded.frm
  refine F.ok sc__law_begun (fun vs H Q E h => ?_) (fun cdv A outer s H vs Q E hr h => ?_)
  · obtain ⟨a, ⟨rfl, _⟩, _⟩ := h
    rfl
  · have hu := hu_of hr
    have hu64 := hr.units
    obtain ⟨⟨a, ns⟩, ⟨rfl, hS, hl⟩, k⟩ := h
    dsimp only at hS hl k
    refine ⟨_, (pss_cons (ps_asg (pe_disp (pps_cons pe_str (pe_df D__law_folded hr pass0 (pa_cons (pv 0) pa_nil)) (pps_cons pe_str (pe_lst pa_nil) (pps_cons pe_str pe_int pps_nil))) rfl rfl (fun z => by cases z) (by decide)) (pg_name (i := 1) nd rfl (Or.inl rfl)))
      (pss_cons (ps_dput hu (pv 1) pe_str (pe_lc (own := [("_law_cell", 2)]) (g := gName 2) (by rfl) nd (k_list (K := K) rfl (pv 0)) (blkOk_by (N := ["_law_script", "_law_m", "_law_cell"]) (sc := defScope s__law_begun) (by decide +kernel)) (fun _ _ _ _ _ => (pg_name (i := 2) nd rfl (Or.inl rfl))) (fun _ _ _ _ _ => pts_nil) (fun _ _ _ _ _ => (pe_ifExp (pt_cmpR op_geU (pv 2) (pe_op op_powU pe_int pe_int) (nomark _)) (pv 2) pe_int))) rfl)
      (pss_one (ps_ret (pv 1))))), ?_⟩
    try dsimp only [cxOf, Cx.nox]
    refine st0 (σ := [some _, none, none]) rfl ?_
    refine w00 fun D0 => ?_
    fail "rd"
    rename_i m0 Dm
    refine go_folded Dm hS hl fun c cs G1 e1 hcl hcb D1 => ?_
    fail "rd"
    fail "nl"
    fail "rd"
    rename_i pg G2 e2 np hp D2
    refine w_disp3 D2 fun D3 => ?_
    have hS2 : SqL K G2 a (ns.map V.int) := sql_ex e2 (sql_ex e1 hS)
    fail "rd"
    refine w_comp (walk_list (xs := ns.map V.int)) D3 (fun i acc G M => M = [Mo.lst c (cs.map V.int), .dK m0 [(Sum.inr "cells", .ref c), (Sum.inr "great", .ref pg), (Sum.inr "spot", .int 0)]] ∧ ∃ gs : List Int, acc = gs.map V.int ∧ gs.length = i) ⟨rfl, [], rfl, rfl⟩ (fun i acc Dl G' M' hi e D' _ => ?_) ?_ ?_
    · exact sql_ex (Dj.ex D') (sql_ex e hS2)
    · rintro i x Dl acc G' M' H' hi e D' ⟨rfl, gs, rfl, hgl⟩ ⟨rfl, hx⟩
      obtain ⟨z, hz, rfl⟩ := map_get hx
      rw [List.length_map] at hi
      refine w_gw (σ0 := [_, _, _]) rfl ?_
      fail "rd"
      refine ite_d (fun h1 => ?_) (fun h1 => ?_)
      · fail "rd"
        exact ⟨rfl, gs ++ [z], by rw [List.map_append]; rfl, by rw [List.length_append, hgl]; rfl⟩
      · fail "rd"
        exact ⟨rfl, gs ++ [0], by rw [List.map_append]; rfl, by rw [List.length_append, hgl]; rfl⟩
    rintro p acc G3 M3 e3 D4 ⟨rfl, gs, rfl, hgl⟩
    fail "rd"
    refine w_dpg D4 fun d hdn hdc hdg D5 => ?_
    fail "rd"
    refine k m0 c p d G3 ?_ ⟨by omega, by rw [hdc]; exact hcl, by rw [hdc]; exact hcb, ?_⟩ hdn D5
    · fail "ex"
    · rw [hdg, hgl, List.length_map]
      exact hl
theorem go_begun {K : PySem.W.Frag} {G : Hp} {M : List Mo} {a : Addr} {ns : List Int} {Q : VK} {E : XK} (D : Dj G M) (hS : SqL K G a (ns.map V.int)) (hl : ns.length ≤ 63) (k : ∀ m c g d G', Ex G G' → OkD d → d.n = 0 → Dj G' (.drw m c g d :: M) → Q (.ref m) (jn G' (.drw m c g d :: M))) : aCl (Frm (sp__law_begun K)) [.ref a] (jn G M) Q E :=
  w_pm D (a, ns) ⟨rfl, hS, hl⟩ k
/-! ### _law_mixed -/
abbrev s__law_mixed : Stmt := top 6
theorem sc__law_mixed : FnScope ["_law_cell", "_law_n", "_law_turned"] ["_law_cell", "_law_n"] (defScope s__law_mixed) := ⟨rfl, rfl, rfl, by decide +kernel, rfl, by decide +kernel, by decide +kernel⟩
def sp__law_mixed : Sp := Pu (fun (a : Int × Int) _ vs => vs = [.int a.1, .int a.2] ∧ (0 ≤ a.1 ∧ a.1 < 2 ^ 62) ∧ 0 ≤ a.2 ∧ a.2 ≤ 2 ^ 60) (fun _ v _ => ∃ r : Int, v = .int r ∧ 0 ≤ r ∧ r < 2147483629)
theorem ok__law_mixed {f : Addr} {fd : FuncData} (F : Fun K "_law_mixed" "_law_mixed" s__law_mixed f fd) (N : Gn K) (B : Bt mg)  : FnOk P w K mg base CX0 1 f fd ["_law_cell", "_law_n"] (sp__law_mixed) := by
  have nd := sc__law_mixed.nd
  refine F.ok sc__law_mixed (fun vs H Q E h => ?_) (fun cdv A outer s H vs Q E hr h => ?_)
  · obtain ⟨a, ⟨rfl, _⟩, _⟩ := h
    rfl
  · have hu := hu_of hr
    have hu64 := hr.units
    obtain ⟨⟨c, n⟩, ⟨rfl, ⟨hc0, hc1⟩, hn0, hn1⟩, k⟩ := h
    dsimp only at hc0 hc1 hn0 hn1
    refine ⟨_, (pss_cons (ps_asg (pe_op (k_addU (K := K) rfl) (pe_op (k_addU (K := K) rfl) (pe_op op_modU (pe_callTy cr_int rfl B.iint boot_int (pa_cons (pe_op op_mulU (pe_op op_mulU (pv 0) (pe_op (k_addU (K := K) rfl) pe_int (pe_op op_mulU pe_int (pv 1)))) pe_int) pa_nil)) pe_int) (pe_op op_mulU (pe_op op_mulU pe_int (pv 1)) (pv 1))) (pe_op op_mulU pe_int (pv 1))) (pg_name (i := 2) nd rfl (Or.inl rfl)))
      (pss_one (ps_ret (pe_op op_fdvU (pe_op op_modU (pe_callTy cr_int rfl B.iint boot_int (pa_cons (pe_op op_mulU (pv 2) pe_int) pa_nil)) pe_int) pe_int)))), ?_⟩
    try dsimp only [cxOf, Cx.nox]
    refine st0 (σ := [some _, some _, none]) rfl ?_
    refine w00 fun D0 => ?_
    fail "rd"
    refine k _ _ (Ex.refl _) ⟨_, rfl, ?_, ?_⟩ <;> omega
theorem go_mixed {G : Hp} {M : List Mo} {c n : Int} {Q : VK} {E : XK} (D : Dj G M) (hc0 : 0 ≤ c) (hc : c < 2 ^ 62) (hn0 : 0 ≤ n) (hn : n ≤ 2 ^ 60) (k : ∀ r G', 0 ≤ r → r < 2147483629 → Ex G G' → Dj G' M → Q (.int r) (jn G' M)) : aCl (Frm sp__law_mixed) [.int c, .int n] (jn G M) Q E :=
  w_pu D (c, n) ⟨rfl, ⟨hc0, hc⟩, hn0, hn⟩ fun v' G' e po D' => by
    obtain ⟨r, rfl, h1, h2⟩ := po
    exact k r G' h1 h2 e D'
local macro_rules | `(tactic| fail "sp") => `(tactic| ((with_reducible refine' go_mixed ?h ?h1 ?h2 ?h3 ?h4 (fun r G' hr0 hr1 e D => ?_)); (case h => assumption); (case h1 => omega); (case h2 => omega); (case h3 => omega); (case h4 => omega)))
/-! ### _law_draw -/
abbrev s__law_draw : Stmt := top 8
theorem sc__law_draw : FnScope ["_law_m", "_law_limit", "_law_n", "_law_lot", "_law_here", "_law_cell"] ["_law_m", "_law_limit"] (defScope s__law_draw) := ⟨rfl, rfl, rfl, by decide +kernel, rfl, by decide +kernel, by decide +kernel⟩
def sp__law_draw (K : PySem.W.Frag) : Sp := Dw 1 (fun (l : Int) _ us => us = [.int l] ∧ 0 < l ∧ l < 2 ^ 30) (fun l v _ => ∃ r : Int, v = .int r ∧ 0 ≤ r ∧ r < l)
theorem ok__law_draw {f : Addr} {fd : FuncData} (F : Fun K "_law_draw" "_law_draw" s__law_draw f fd) (N : Gn K) (B : Bt mg) (D__law_mixed : Df P w K mg base CX0 1 "_law_mixed" (sp__law_mixed)) : FnOk P w K mg base CX0 2 f fd ["_law_m", "_law_limit"] (sp__law_draw K) := by
  have nd := sc__law_draw.nd
  have D__law_mixed := D__law_mixed.frm
  refine F.ok sc__law_draw (fun vs H Q E h => ?_) (fun cdv A outer s H vs Q E hr h => ?_)
  · obtain ⟨l, G, m, c, g, d, us, rfl, _, _, _, _, ⟨rfl, _⟩, _⟩ := h
    rfl
  · have hu := hu_of hr
    have hu64 := hr.units
    obtain ⟨l, G, m, c, g, d, us, rfl, rfl, D0, ok, hn, ⟨rfl, hl0, hl1⟩, k⟩ := h
    have hn0 := ok.n0
    refine ⟨_, (pss_cons (ps_asg (pe_dget hu (pv 0) pe_str (fun _ _ => rfl)) (pg_name (i := 2) nd rfl (Or.inl rfl)))
      (pss_cons (ps_dput hu (pv 0) pe_str (pe_op (k_addU (K := K) rfl) (pv 2) pe_int) rfl)
      (pss_cons (ps_if (pt_cmpR (k_neU (K := K) rfl hu64) (pe_dget hu (pv 0) pe_str (fun _ _ => rfl)) (pe_lst pa_nil) (nomark _)) (pss_cons (ps_asg (pe_dget hu (pv 0) pe_str (fun _ _ => rfl)) (pg_name (i := 3) nd rfl (Or.inl rfl)))
      (pss_cons (ps_asg (pe_op op_modU (pe_callTy cr_int rfl B.iint boot_int (pa_cons (pv 2) pa_nil)) (pe_callB (k_len (K := K) rfl) rfl B.ilen PySem.boot_len (pa_cons (pv 3) pa_nil))) (pg_name (i := 4) nd rfl (Or.inl rfl)))
      (pss_cons (ps_asg (pe_ix (k_ix (K := K) rfl) (pv 3) (pv 4) (fun _ _ => rfl)) (pg_name (i := 5) nd rfl (Or.inl rfl)))
      (pss_one (ps_if (pt_cmpR op_gtU (pv 5) pe_int (nomark _)) (pss_cons (ps_asg (pe_op op_fdvU (pv 5) (pv 1)) (pg_sub (pv 3) (pv 4) set_list))
      (pss_one (ps_ret (pe_op op_modU (pe_callTy cr_int rfl B.iint boot_int (pa_cons (pv 5) pa_nil)) (pv 1))))) pss_nil))))) pss_nil)
      (pss_cons (ps_asg (pe_dget hu (pv 0) pe_str (fun _ _ => rfl)) (pg_name (i := 3) nd rfl (Or.inl rfl)))
      (pss_one (ps_ret (pe_op op_modU (pe_callTy cr_int rfl B.iint boot_int (pa_cons (pe_df D__law_mixed hr pass0 (pa_cons (pe_df D__law_mixed hr pass0 (pa_cons (pe_op (k_addU (K := K) rfl) (pe_ix (k_ix (K := K) rfl) (pv 3) (pe_op op_modU (pe_callTy cr_int rfl B.iint boot_int (pa_cons (pv 2) pa_nil)) pe_int) (fun _ _ => rfl)) (pe_op op_mulU pe_int (pe_op op_fdvU (pv 2) pe_int))) (pa_cons (pv 2) pa_nil))) (pa_cons (pe_op (k_addU (K := K) rfl) (pv 2) pe_int) pa_nil))) pa_nil)) (pv 1)))))))), ?_⟩
    try dsimp only [cxOf, Cx.nox]
    refine st0 (σ := [some _, some _, none, none, none, none]) rfl ?_
    fail "rd"
    refine w_dpn D0 fun d' en ec eg D1 => ?_
    have hcl : d'.cs.length = 64 := ec ▸ ok.cl
    have hcb : ∀ c ∈ d'.cs, 0 ≤ c ∧ c < 2147483647 := by
      rw [ec]
      exact ok.cb
    have hgl : d'.gs.length ≤ 63 := by
      rw [eg]
      exact ok.gl
    have ok1 : OkD d' := ⟨by omega, hcl, hcb, hgl⟩
    fail "rd"
    fail "nl"
    fail "rd"
    refine w_neIL (ns := d'.gs) (ms := []) (by fail "fct") (by (show SqL K _ _ ([] : List V)); fail "fct") ?_
    fail "rd"
    refine ite_n (fun hne => ?_) (fun hne => ?_)
    · have hpos : 0 < d'.gs.length := List.length_pos_iff.mpr hne
      have hm := emod_bd (a := d.n) (l := (d'.gs.length : Int)) (by omega)
      fail "rd"
      refine ite_d (fun hz => ?_) (fun hz => ?_)
      · fail "rd"
        refine w_setG (by fail "dj") hm.1 hm.2 fun d2 en2 ec2 eg2 D2 => ?_
        fail "rd"
        refine k _ _ d2 (by fail "ex") ⟨by omega, ⟨by omega, ec2 ▸ hcl, by rw [ec2]; exact hcb, by omega⟩⟩ ⟨_, rfl, emod_bd hl0⟩ (by fail "dj")
      · fail "rd"
        refine k _ _ d' (by fail "ex") ⟨by omega, ok1⟩ ⟨_, rfl, emod_bd hl0⟩ (by fail "dj")
    · fail "rd"
      refine k _ _ d' (by fail "ex") ⟨by omega, ok1⟩ ⟨_, rfl, emod_bd hl0⟩ (by fail "dj")
theorem go_draw {K : PySem.W.Frag} {G : Hp} {M : List Mo} {m c g : Addr} {d : DS} {l : Int} {Q : VK} {E : XK} (D : Dj G (.drw m c g d :: M)) (ok : OkD d) (hn : d.n + 1 ≤ 2 ^ 59) (h0 : 0 < l) (h1 : l < 2 ^ 30)
    (k : ∀ r G' d', 0 ≤ r → r < l → Ex G G' → d'.n ≤ d.n + 1 → OkD d' → Dj G' (.drw m c g d' :: M) → Q (.int r) (jn G' (.drw m c g d' :: M))) : aCl (Frm (sp__law_draw K)) [.ref m, .int l] (jn G (.drw m c g d :: M)) Q E :=
  w_dw D ok hn l ⟨rfl, h0, h1⟩ fun v G' d' e nx po D' => by
    obtain ⟨r, rfl, h2, h3⟩ := po
    exact k r G' d' h2 h3 e nx.n nx.ok D'
local macro_rules | `(tactic| fail "sp") => `(tactic| ((with_reducible refine' go_draw ?h ?h1 ?h2 ?h3 ?h4 (fun r G' d' hr0 hr1 e hn ok D => ?_)); (case h => fail "dj"); (case h1 => assumption); (case h2 => omega); (case h3 => omega); (case h4 => omega)))
/-! ### _law_big -/
abbrev s__law_big : Stmt := top 10
theorem sc__law_big : FnScope ["_law_m", "_law_limit"] ["_law_m", "_law_limit"] (defScope s__law_big) := ⟨rfl, rfl, rfl, by decide +kernel, rfl, by decide +kernel, by decide +kernel⟩
def sp__law_big (K : PySem.W.Frag) : Sp := Dw 2 (fun (l : Int) _ us => us = [.int l] ∧ 0 < l) (fun l v _ => ∃ r : Int, v = .int r ∧ 0 ≤ r ∧ r < l)
theorem ok__law_big {f : Addr} {fd : FuncData} (F : Fun K "_law_big" "_law_big" s__law_big f fd) (N : Gn K) (B : Bt mg) (D__law_draw : Df P w K mg base CX0 2 "_law_draw" (sp__law_draw K)) : FnOk P w K mg base CX0 3 f fd ["_law_m", "_law_limit"] (sp__law_big K) := by
  have nd := sc__law_big.nd
  have D__law_draw := D__law_draw.frm
  refine F.ok sc__law_big (fun vs H Q E h => ?_) (fun cdv A outer s H vs Q E hr h => ?_)
  · obtain ⟨l, G, m, c, g, d, us, rfl, _, _, _, _, ⟨rfl, _⟩, _⟩ := h
    rfl
  · have hu := hu_of hr
    have hu64 := hr.units
    obtain ⟨l, G, m, c, g, d, us, rfl, rfl, D0, ok, hn, ⟨rfl, hl0⟩, k⟩ := h
    have hn0 := ok.n0
    refine ⟨_, (pss_one (ps_ret (pe_op op_modU (pe_callTy cr_int rfl B.iint boot_int (pa_cons (pe_op (k_addU (K := K) rfl) (pe_op op_mulU (pe_df D__law_draw hr pass0 (pa_cons (pv 0) (pa_cons pe_int pa_nil))) pe_int) (pe_df D__law_draw hr pass0 (pa_cons (pv 0) (pa_cons pe_int pa_nil)))) pa_nil)) (pv 1)))), ?_⟩
    try dsimp only [cxOf, Cx.nox]
    refine st0 (σ := [some _, some _]) rfl ?_
    fail "rd"
    refine k _ _ _ ?_ ⟨?_, ?_⟩ ⟨_, rfl, emod_bd hl0⟩ ?_
    rotate_left 3
    · assumption
    · fail "ex"
    · omega
    · assumption
theorem go_big {K : PySem.W.Frag} {G : Hp} {M : List Mo} {m c g : Addr} {d : DS} {l : Int} {Q : VK} {E : XK} (D : Dj G (.drw m c g d :: M)) (ok : OkD d) (hn : d.n + 2 ≤ 2 ^ 59) (h0 : 0 < l)
    (k : ∀ r G' d', 0 ≤ r → r < l → Ex G G' → d'.n ≤ d.n + 2 → OkD d' → Dj G' (.drw m c g d' :: M) → Q (.int r) (jn G' (.drw m c g d' :: M))) : aCl (Frm (sp__law_big K)) [.ref m, .int l] (jn G (.drw m c g d :: M)) Q E :=
  w_dw D ok hn l ⟨rfl, h0⟩ fun v G' d' e nx po D' => by
    obtain ⟨r, rfl, h2, h3⟩ := po
    exact k r G' d' h2 h3 e nx.n nx.ok D'
local macro_rules | `(tactic| fail "sp") => `(tactic| ((with_reducible refine' go_big ?h ?h1 ?h2 ?h3 (fun r G' d' hr0 hr1 e hn ok D => ?_)); (case h => fail "dj"); (case h1 => assumption); (case h2 => omega); (case h3 => omega)))
/-! ### _law_ends -/
abbrev s__law_ends : Stmt := top 13
theorem sc__law_ends : FnScope ["_law_m", "_law_first"] ["_law_m"] (defScope s__law_ends) := ⟨rfl, rfl, rfl, by decide +kernel, rfl, by decide +kernel, by decide +kernel⟩
def sp__law_ends (K : PySem.W.Frag) : Sp := Dw 6 (fun (_ : Unit) _ us => us = []) (fun _ v G => ∃ p f l, v = .ref p ∧ G p = some (.tup [.int f, .int l]) ∧ 0 ≤ f ∧ 0 ≤ l ∧ f < 2 ^ 31 ∧ l < 2 ^ 31)
theorem ok__law_ends {f : Addr} {fd : FuncData} (F : Fun K "_law_ends" "_law_ends" s__law_ends f fd) (N : Gn K) (B : Bt mg) (D__law_draw : Df P w K mg base CX0 2 "_law_draw" (sp__law_draw K)) (D__law_big : Df P w K mg base CX0 3 "_law_big" (sp__law_big K)) : FnOk P w K mg base CX0 4 f fd ["_law_m"] (sp__law_ends K) := by
  have nd := sc__law_ends.nd
  have D__law_draw := D__law_draw.frm
  have D__law_big := D__law_big.frm
  refine F.ok sc__law_ends (fun vs H Q E h => ?_) (fun cdv A outer s H vs Q E hr h => ?_)
  · obtain ⟨l, G, m, c, g, d, us, rfl, _, _, _, _, rfl, _⟩ := h
    rfl
  · have hu := hu_of hr
    have hu64 := hr.units
    obtain ⟨l, G, m, c, g, d, us, rfl, rfl, D0, ok, hn, rfl, k⟩ := h
    have hn0 := ok.n0
    refine ⟨_, (pss_cons (ps_if (pt_cmpR (k_eqU (K := K) rfl hu64) (pe_df D__law_draw hr pass0 (pa_cons (pv 0) (pa_cons pe_int pa_nil))) pe_int (nomark _)) (pss_cons (ps_asg (pe_df D__law_big hr pass0 (pa_cons (pv 0) (pa_cons (pe_op op_subU (pe_op op_powU pe_int pe_int) pe_int) pa_nil))) (pg_name (i := 1) nd rfl (Or.inl rfl)))
      (pss_one (ps_ret (pe_tup (pa_cons (pv 1) (pa_cons (pe_ifExp (pt_cmpR (k_eqU (K := K) rfl hu64) (pe_df D__law_draw hr pass0 (pa_cons (pv 0) (pa_cons pe_int pa_nil))) pe_int (nomark _)) (pe_df D__law_big hr pass0 (pa_cons (pv 0) (pa_cons (pe_op op_subU (pe_op op_powU pe_int pe_int) pe_int) pa_nil))) (pe_op (k_addU (K := K) rfl) (pv 1) (pe_df D__law_draw hr pass0 (pa_cons (pv 0) (pa_cons pe_int pa_nil))))) pa_nil)))))) pss_nil)
      (pss_one (ps_ret (pe_tup (pa_cons (pe_df D__law_draw hr pass0 (pa_cons (pv 0) (pa_cons pe_int pa_nil))) (pa_cons (pe_df D__law_draw hr pass0 (pa_cons (pv 0) (pa_cons pe_int pa_nil))) pa_nil)))))), ?_⟩
    try dsimp only [cxOf, Cx.nox]
    refine st0 (σ := [some _, none]) rfl ?_
    fail "rd"
    refine ite_d (fun h1 => ?_) (fun h1 => ?_)
    · fail "rd"
      refine ite_d (fun h2 => ?_) (fun h2 => ?_)
      all_goals
        fail "rd"
        refine k _ _ _ ?_ ⟨?_, ?_⟩ ⟨_, _, _, rfl, by assumption, ?_, ?_, ?_, ?_⟩ ?_
        rotate_left 7
        · assumption
        · fail "ex"
        · omega
        · assumption
        all_goals omega
    · fail "rd"
      refine k _ _ _ ?_ ⟨?_, ?_⟩ ⟨_, _, _, rfl, by assumption, ?_, ?_, ?_, ?_⟩ ?_
      rotate_left 7
      · assumption
      · fail "ex"
      · omega
      · assumption
      all_goals omega
theorem go_ends {K : PySem.W.Frag} {G : Hp} {M : List Mo} {m c g : Addr} {d : DS} {Q : VK} {E : XK} (D : Dj G (.drw m c g d :: M)) (ok : OkD d) (hn : d.n + 6 ≤ 2 ^ 59)
    (k : ∀ p f l G' d', G' p = some (.tup [.int f, .int l]) → 0 ≤ f → 0 ≤ l → f < 2 ^ 31 → l < 2 ^ 31 → Ex G G' → d'.n ≤ d.n + 6 → OkD d' → Dj G' (.drw m c g d' :: M) → Q (.ref p) (jn G' (.drw m c g d' :: M))) : aCl (Frm (sp__law_ends K)) [.ref m] (jn G (.drw m c g d :: M)) Q E :=
  w_dw D ok hn () rfl fun v G' d' e nx po D' => by
    obtain ⟨p, f, l, rfl, h1, h2, h3, h4, h5⟩ := po
    exact k p f l G' d' h1 h2 h3 h4 h5 e nx.n nx.ok D'
local macro_rules | `(tactic| fail "sp") => `(tactic| ((with_reducible refine' go_ends ?h ?h1 ?h2 (fun p f l G' d' hp hf0 hl0 hf1 hl1 e hn ok D => ?_)); (case h => fail "dj"); (case h1 => assumption); (case h2 => omega)))
/-! ### Window.__init__ -/
abbrev s_Window___init__ : Stmt := inClass (top 4) 0
theorem sc_Window___init__ : FnScope ["self", "first", "last"] ["self", "first", "last"] (defScope s_Window___init__) := ⟨rfl, rfl, rfl, by decide +kernel, rfl, by decide +kernel, by decide +kernel⟩
def sp_Window___init__ (C_Window : Addr) : Sp := Iw C_Window (fun (a : Int × Int) G us => us = [.int a.1, .int a.2]) (fun a _ fs => ∃ f l, fs = ([("first", .int f), ("last", .int l)] : List (Str × V)) ∧ ((a.1 ≤ a.2 ∧ f = a.1 ∧ l = a.2) ∨ (a.2 < a.1 ∧ f = 0 ∧ l = -1)))
theorem ok_Window___init__ {f : Addr} {fd : FuncData} {C_Window : Addr} (F : Fun K "__init__" "Window.__init__" s_Window___init__ f fd) (N : Gn K) (B : Bt mg) (T_Window : Cf K mg "Window" C_Window ["first", "last"]) : FnOk P w K mg base CX0 1 f fd ["self", "first", "last"] (sp_Window___init__ C_Window) := by
  have nd := sc_Window___init__.nd
  refine F.ok sc_Window___init__ (fun vs H Q E h => ?_) (fun cdv A outer s H vs Q E hr h => ?_)
  · obtain ⟨a, G, x, dx, us, rfl, _, _, rfl, _⟩ := h
    rfl
  · have hu := hu_of hr
    have hu64 := hr.units
    obtain ⟨⟨f, l⟩, G, x, dx, us, rfl, rfl, D0, rfl, k⟩ := h
    dsimp only at k
    refine ⟨_, (pss_one (ps_asg (pe_ifExp (pt_cmpR op_leU (pv 1) (pv 2) (nomark _)) (pe_tup (pa_cons (pv 1) (pa_cons (pv 2) pa_nil))) (pe_tup (pa_cons pe_int (pa_cons (pe_un un_neg pe_int) pa_nil)))) (k_tupG (K := K) rfl rfl (pgs_cons (k_gfld (K := K) rfl (pv 0)) (pgs_cons (k_gfld (K := K) rfl (pv 0)) pgs_nil))))), ?_⟩
    try dsimp only [cxOf, Cx.nox]
    refine st0 (σ := [some _, some _, some _]) rfl ?_
    fail "rd"
    refine ite_d (fun h1 => ?_) (fun h1 => ?_)
    · fail "rd"
      refine k _ _ ?_ ⟨f, l, rfl, .inl ⟨h1, rfl, rfl⟩⟩ ?_
      · fail "ex"
      · fail "dj"
    · fail "rd"
      refine k _ _ ?_ ⟨0, -1, rfl, .inr ⟨by omega, rfl, rfl⟩⟩ ?_
      · fail "ex"
      · fail "dj"
theorem go_Window {C : Addr} {G : Hp} {M : List Mo} {f l : Int} {Q : VK} {E : XK} (D : Dj G M) (k : ∀ x dx G' f2 l2, Ex G G' → Nrm f l f2 l2 → G' x = some (.ins C dx ([("first", .int f2), ("last", .int l2)] : List (Str × V))) → Dj G' M → Q (.ref x) (jn G' M)) : aMk C (Frm (sp_Window___init__ C)) E [.int f, .int l] (jn G M) Q :=
  w_newV D (f, l) rfl fun x dx G1 G' fs e1 ⟨f2, l2, hfs, hn⟩ e2 hx0 hx D' => by
    subst hfs
    exact k x dx G' f2 l2 (e1.trans e2) hn hx D'
local macro_rules | `(tactic| fail "sp") => `(tactic| ((with_reducible refine' go_Window ?h (fun x dx G' f2 l2 e hnr hx D => ?_)); (case h => fail "dj")))
/-! ### _law_int -/
abbrev s__law_int : Stmt := top 11
theorem sc__law_int : FnScope ["_law_told", "_law_due"] ["_law_told", "_law_due"] (defScope s__law_int) := ⟨rfl, rfl, rfl, by decide +kernel, rfl, by decide +kernel, by decide +kernel⟩
def KEqI (K : PySem.W.Frag) (G : Hp) (v : V) (n : Int) (b : Bool) : Prop := (∃ i, v = .int i ∧ b = decide (i = n)) ∨ (∃ c, v = .bl c ∧ b = false) ∨ (b = false ∧ ∃ t, TyX K G v t ∧ PySem.W.kitOne K t (.type "int") = some false)
def sp__law_int (K : PySem.W.Frag) : Sp := Pu (fun (a : V × Int × Bool) G vs => vs = [a.1, .int a.2.1] ∧ KEqI K G a.1 a.2.1 a.2.2) (fun a v _ => v = .bl a.2.2)
theorem ok__law_int {f : Addr} {fd : FuncData} (F : Fun K "_law_int" "_law_int" s__law_int f fd) (N : Gn K) (B : Bt mg)  : FnOk P w K mg base CX0 1 f fd ["_law_told", "_law_due"] (sp__law_int K) := by
  have nd := sc__law_int.nd
  refine F.ok sc__law_int (fun vs H Q E h => ?_) (fun cdv A outer s H vs Q E hr h => ?_)
  · obtain ⟨a, ⟨rfl, _⟩, _⟩ := h
    rfl
  · have hu := hu_of hr
    have hu64 := hr.units
    obtain ⟨⟨v, n, b⟩, ⟨rfl, hv⟩, k⟩ := h
    dsimp only at hv k
    refine ⟨_, (pss_one (ps_ret (pe_and (pe_callB (k_isi (K := K) rfl) rfl B.iisinstance boot_isinstance (pa_cons (pv 0) (pa_cons (pe_bltn (v := .ty "int") rfl B.iint boot_int rfl) pa_nil))) (pe_and (pe_not (pe_callB (k_isi (K := K) rfl) rfl B.iisinstance boot_isinstance (pa_cons (pv 0) (pa_cons (pe_bltn (v := .ty "bool") rfl B.ibool (by decide +kernel) rfl) pa_nil)))) (pe_one (pe_cmpR (k_eqU (K := K) rfl hu64) (pv 0) (pv 1) (nomark _))))))), ?_⟩
    try dsimp only [cxOf, Cx.nox]
    refine st0 (σ := [some _, some _]) rfl ?_
    refine w00 fun D0 => ?_
    rcases hv with ⟨i, rfl, rfl⟩ | ⟨c, rfl, rfl⟩ | ⟨rfl, t, ht, e⟩
    all_goals
      fail "rd"
      exact k _ _ (Ex.refl _) rfl
theorem go_int {K : PySem.W.Frag} {G : Hp} {M : List Mo} {i n : Int} {Q : VK} {E : XK} (D : Dj G M) (k : ∀ G', Ex G G' → Dj G' M → Q (.bl (decide (i = n))) (jn G' M)) : aCl (Frm (sp__law_int K)) [.int i, .int n] (jn G M) Q E :=
  w_pu D (.int i, n, decide (i = n)) ⟨rfl, .inl ⟨i, rfl, rfl⟩⟩ fun v' G' e po D' => by
    subst po
    exact k G' e D'
local macro_rules | `(tactic| fail "sp") => `(tactic| ((with_reducible refine' go_int ?h (fun G' e D => ?_)); (case h => fail "dj")))
/-! ### Window.rounds -/
abbrev s_Window_rounds : Stmt := inClass (top 4) 2
theorem sc_Window_rounds : FnScope ["self"] ["self"] (defScope s_Window_rounds) := ⟨rfl, rfl, rfl, by decide +kernel, rfl, by decide +kernel, by decide +kernel⟩
def sp_Window_rounds (C_Window : Addr) : Sp := Pu (fun (a : Addr × Int × Int) G vs => vs = [.ref a.1] ∧ Win C_Window G a.1 a.2.1 a.2.2) (fun a v _ => v = .int (a.2.2 + 1 - a.2.1))
theorem ok_Window_rounds {f : Addr} {fd : FuncData} {C_Window : Addr} (F : Fun K "rounds" "Window.rounds" s_Window_rounds f fd) (N : Gn K) (B : Bt mg) (T_Window : Cf K mg "Window" C_Window ["first", "last"]) : FnOk P w K mg base CX0 1 f fd ["self"] (sp_Window_rounds C_Window) := by
  have nd := sc_Window_rounds.nd
  refine F.ok sc_Window_rounds (fun vs H Q E h => ?_) (fun cdv A outer s H vs Q E hr h => ?_)
  · obtain ⟨a, ⟨rfl, _⟩, _⟩ := h
    rfl
  · have hu := hu_of hr
    have hu64 := hr.units
    obtain ⟨⟨x, f, l⟩, ⟨rfl, ⟨dx, hx⟩⟩, k⟩ := h
    dsimp only at hx k
    refine ⟨_, (pss_one (ps_ret (pe_op op_subU (pe_op (k_addU (K := K) rfl) (k_fld (K := K) rfl (pv 0) rfl) pe_int) (k_fld (K := K) rfl (pv 0) rfl)))), ?_⟩
    try dsimp only [cxOf, Cx.nox]
    refine st0 (σ := [some _]) rfl ?_
    refine w00 fun D0 => ?_
    fail "rd"
    exact k _ _ (Ex.refl _) rfl
theorem go_rounds {C x dx : Addr} {G : Hp} {M : List Mo} {f l : Int} {Q : VK} {E : XK} (D : Dj G M) (hx : G x = some (.ins C dx ([("first", .int f), ("last", .int l)] : List (Str × V)))) (k : ∀ G', Ex G G' → Dj G' M → Q (.int (l + 1 - f)) (jn G' M)) : aCl (Frm (sp_Window_rounds C)) [.ref x] (jn G M) Q E :=
  w_pu D (x, f, l) ⟨rfl, ⟨dx, hx⟩⟩ fun v' G' e po D' => by
    subst po
    exact k G' e D'
local macro_rules | `(tactic| fail "sp") => `(tactic| ((with_reducible refine' go_rounds ?h ?hx (fun G' e D => ?_)); (case h => fail "dj"); (case hx => fail "fct")))
/-! ### Window.__bool__ -/
abbrev s_Window___bool__ : Stmt := inClass (top 4) 3
theorem sc_Window___bool__ : FnScope ["self"] ["self"] (defScope s_Window___bool__) := ⟨rfl, rfl, rfl, by decide +kernel, rfl, by decide +kernel, by decide +kernel⟩
def sp_Window___bool__ (C_Window : Addr) : Sp := Pu (fun (a : Addr × Int × Int) G vs => vs = [.ref a.1] ∧ Win C_Window G a.1 a.2.1 a.2.2) (fun a v _ => v = .bl (decide (a.2.1 ≤ a.2.2)))
theorem ok_Window___bool__ {f : Addr} {fd : FuncData} {C_Window : Addr} (F : Fun K "__bool__" "Window.__bool__" s_Window___bool__ f fd) (N : Gn K) (B : Bt mg) (T_Window : Cf K mg "Window" C_Window ["first", "last"]) : FnOk P w K mg base CX0 1 f fd ["self"] (sp_Window___bool__ C_Window) := by
  have nd := sc_Window___bool__.nd
  refine F.ok sc_Window___bool__ (fun vs H Q E h => ?_) (fun cdv A outer s H vs Q E hr h => ?_)
  · obtain ⟨a, ⟨rfl, _⟩, _⟩ := h
    rfl
  · have hu := hu_of hr
    have hu64 := hr.units
    obtain ⟨⟨x, f, l⟩, ⟨rfl, ⟨dx, hx⟩⟩, k⟩ := h
    dsimp only at hx k
    refine ⟨_, (pss_one (ps_ret (pe_callTy cr_bool rfl B.ibool (by decide +kernel) (pa_cons (pe_cmpR op_leU (k_fld (K := K) rfl (pv 0) rfl) (k_fld (K := K) rfl (pv 0) rfl) (nomark _)) pa_nil)))), ?_⟩
    try dsimp only [cxOf, Cx.nox]
    refine st0 (σ := [some _]) rfl ?_
    refine w00 fun D0 => ?_
    fail "rd"
    exact k _ _ (Ex.refl _) rfl
theorem go_wbool {C x dx : Addr} {G : Hp} {M : List Mo} {f l : Int} {Q : VK} {E : XK} (D : Dj G M) (hx : G x = some (.ins C dx ([("first", .int f), ("last", .int l)] : List (Str × V)))) (k : ∀ G', Ex G G' → Dj G' M → Q (.bl (decide (f ≤ l))) (jn G' M)) : aCl (Frm (sp_Window___bool__ C)) [.ref x] (jn G M) Q E :=
  w_pu D (x, f, l) ⟨rfl, ⟨dx, hx⟩⟩ fun v' G' e po D' => by
    subst po
    exact k G' e D'
local macro_rules | `(tactic| fail "sp") => `(tactic| ((with_reducible refine' go_wbool ?h ?hx (fun G' e D => ?_)); (case h => fail "dj"); (case hx => fail "fct")))
/-! ### _law_holds -/
abbrev s__law_holds : Stmt := top 14
theorem sc__law_holds : FnScope ["_law_told", "_law_first", "_law_last"] ["_law_told", "_law_first", "_law_last"] (defScope s__law_holds) := ⟨rfl, rfl, rfl, by decide +kernel, rfl, by decide +kernel, by decide +kernel⟩
def sp__law_holds (C_Window : Addr) : Sp := Pu (fun (a : Addr × Int × Int × Int × Int) G vs => vs = [.ref a.1, .int a.2.1, .int a.2.2.1] ∧ Win C_Window G a.1 a.2.2.2.1 a.2.2.2.2 ∧ Nrm a.2.1 a.2.2.1 a.2.2.2.1 a.2.2.2.2) (fun a v _ => v = .bl true)
theorem ok__law_holds {f : Addr} {fd : FuncData} {C_Window : Addr} (F : Fun K "_law_holds" "_law_holds" s__law_holds f fd) (N : Gn K) (B : Bt mg) (T_Window : Cf K mg "Window" C_Window ["first", "last"]) (D__law_int : Df P w K mg base CX0 1 "_law_int" (sp__law_int K)) (D_Window_rounds : Mt P w K mg base CX0 1 C_Window "rounds" (sp_Window_rounds C_Window)) (D_Window___bool__ : Mt P w K mg base CX0 1 C_Window "__bool__" (sp_Window___bool__ C_Window)) : FnOk P w K mg base CX0 4 f fd ["_law_told", "_law_first", "_law_last"] (sp__law_holds C_Window) := by
  have nd := sc__law_holds.nd
  have D__law_int := D__law_int.frm
  have D_Window_rounds := D_Window_rounds.frm
  have D_Window___bool__ := D_Window___bool__.frm
  refine F.ok sc__law_holds (fun vs H Q E h => ?_) (fun cdv A outer s H vs Q E hr h => ?_)
  · obtain ⟨a, ⟨rfl, _⟩, _⟩ := h
    rfl
  · have hu := hu_of hr
    have hu64 := hr.units
    obtain ⟨⟨x, f, l, f2, l2⟩, ⟨rfl, ⟨dx, hx⟩, hn⟩, k⟩ := h
    dsimp only at hx hn k
    refine ⟨_, (pss_cons (ps_if (pt_not (pt_val (pe_callB (k_isi (K := K) rfl) rfl B.iisinstance boot_isinstance (pa_cons (pv 0) (pa_cons (pe_glob (v := .ref C_Window) rfl T_Window.mg rfl) pa_nil))))) (pss_one (ps_ret pe_bl)) pss_nil)
      (pss_cons (ps_if (pt_cmpR op_ltU (pv 2) (pv 1) (nomark _)) (pss_one (ps_asg (pe_tup (pa_cons pe_int (pa_cons (pe_un un_neg pe_int) pa_nil))) (k_tupG (K := K) rfl rfl (pgs_cons (pg_name (i := 1) nd rfl (Or.inl rfl)) (pgs_cons (pg_name (i := 2) nd rfl (Or.inl rfl)) pgs_nil))))) pss_nil)
      (pss_cons (ps_if (PW.pt (pw_or (pt_not (pt_val (pe_df D__law_int hr pass0 (pa_cons (k_fld (K := K) rfl (pv 0) rfl) (pa_cons (pv 1) pa_nil))))) (pw_or1 (pt_not (pt_val (pe_df D__law_int hr pass0 (pa_cons (k_fld (K := K) rfl (pv 0) rfl) (pa_cons (pv 2) pa_nil)))))))) (pss_one (ps_ret pe_bl)) pss_nil)
      (pss_cons (ps_if (pt_not (pt_val (pe_df D__law_int hr pass0 (pa_cons (k_mtK0 (K := K) (E := E0) rfl (pv 0) T_Window.cl D_Window_rounds hr pass0) (pa_cons (pe_op (k_addU (K := K) rfl) (pe_op op_subU (pv 2) (pv 1)) pe_int) pa_nil))))) (pss_one (ps_ret pe_bl)) pss_nil)
      (pss_one (ps_ret (pe_cmpR (k_eqU (K := K) rfl hu64) (pe_callTy (k_boolO (K := K) rfl D_Window___bool__ hr) rfl B.ibool (by decide +kernel) (pa_cons (pv 0) pa_nil)) (pe_cmpR op_leU (pv 1) (pv 2) (nomark _)) (nomark _)))))))), ?_⟩
    try dsimp only [cxOf, Cx.nox]
    refine st0 (σ := [some _, some _, some _]) rfl ?_
    refine w00 fun D0 => ?_
    unfold Nrm at hn
    fail "rd"
    refine ite_d (fun h1 => ?_) (fun h1 => ?_)
    all_goals
      fail "rd"
      refine k _ _ ?_ ?_
      · fail "ex"
      · congr 1
        simp only [decide_eq_true_eq, decide_eq_decide]
        omega
theorem go_holds {C x dx : Addr} {G : Hp} {M : List Mo} {f l f2 l2 : Int} {Q : VK} {E : XK} (D : Dj G M) (hx : G x = some (.ins C dx ([("first", .int f2), ("last", .int l2)] : List (Str × V)))) (hn : Nrm f l f2 l2) (k : ∀ G', Ex G G' → Dj G' M → Q (.bl true) (jn G' M)) : aCl (Frm (sp__law_holds C)) [.ref x, .int f, .int l] (jn G M) Q E :=
  w_pu D (x, f, l, f2, l2) ⟨rfl, ⟨dx, hx⟩, hn⟩ fun v' G' e po D' => by
    subst po
    exact k G' e D'
local macro_rules | `(tactic| fail "sp") => `(tactic| ((with_reducible refine' go_holds ?h ?hx ?hn (fun G' e D => ?_)); (case h => fail "dj"); (case hx => fail "fct"); (case hn => first | assumption | (unfold Nrm at *; omega))))
/-! ### Window.__and__ -/
abbrev s_Window___and__ : Stmt := inClass (top 4) 5
theorem sc_Window___and__ : FnScope ["self", "other", "first"] ["self", "other"] (defScope s_Window___and__) := ⟨rfl, rfl, rfl, by decide +kernel, rfl, by decide +kernel, by decide +kernel⟩
def sp_Window___and__ (C_Window : Addr) : Sp := Pu (fun (a : (Addr × Int × Int) × Addr × Int × Int) G vs => vs = [.ref a.1.1, .ref a.2.1] ∧ Win C_Window G a.1.1 a.1.2.1 a.1.2.2 ∧ Win C_Window G a.2.1 a.2.2.1 a.2.2.2) (fun a v G => ∃ z f l, v = .ref z ∧ Win C_Window G z f l ∧ Nrm (max a.1.2.1 a.2.2.1) (min a.1.2.2 a.2.2.2) f l)
theorem ok_Window___and__ {f : Addr} {fd : FuncData} {C_Window : Addr} (F : Fun K "__and__" "Window.__and__" s_Window___and__ f fd) (N : Gn K) (B : Bt mg) (T_Window : Cf K mg "Window" C_Window ["first", "last"]) (D_Window : Ini P w K mg base CX0 1 "Window" C_Window (sp_Window___init__ C_Window)) : FnOk P w K mg base CX0 3 f fd ["self", "other"] (sp_Window___and__ C_Window) := by
  have nd := sc_Window___and__.nd
  have D_Window := D_Window.frm
  refine F.ok sc_Window___and__ (fun vs H Q E h => ?_) (fun cdv A outer s H vs Q E hr h => ?_)
  · obtain ⟨a, ⟨rfl, _⟩, _⟩ := h
    rfl
  · have hu := hu_of hr
    have hu64 := hr.units
    obtain ⟨⟨⟨x, f, l⟩, y, f2, l2⟩, ⟨rfl, ⟨dx, hx⟩, ⟨dy, hy⟩⟩, k⟩ := h
    dsimp only at hx hy k
    refine ⟨_, (pss_cons (ps_if (pt_not (pt_val (pe_callB (k_isi (K := K) rfl) rfl B.iisinstance boot_isinstance (pa_cons (pv 1) (pa_cons (pe_glob (v := .ref C_Window) rfl T_Window.mg rfl) pa_nil))))) (pss_one ps_never) pss_nil)
      (pss_cons (ps_asg (pe_ifExp (pt_cmpR op_gtU (k_fld (K := K) rfl (pv 0) rfl) (k_fld (K := K) rfl (pv 1) rfl) (nomark _)) (k_fld (K := K) rfl (pv 0) rfl) (k_fld (K := K) rfl (pv 1) rfl)) (pg_name (i := 2) nd rfl (Or.inl rfl)))
      (pss_one (ps_ret (pe_mk D_Window hr pass0 (pa_cons (pv 2) (pa_cons (pe_ifExp (pt_cmpR op_ltU (k_fld (K := K) rfl (pv 0) rfl) (k_fld (K := K) rfl (pv 1) rfl) (nomark _)) (k_fld (K := K) rfl (pv 0) rfl) (k_fld (K := K) rfl (pv 1) rfl)) pa_nil))))))), ?_⟩
    try dsimp only [cxOf, Cx.nox]
    refine st0 (σ := [some _, some _, none]) rfl ?_
    refine w00 fun D0 => ?_
    fail "rd"
    refine ite_d (fun h1 => ?_) (fun h1 => ?_)
    all_goals
      fail "rd"
      refine ite_d (fun h2 => ?_) (fun h2 => ?_)
      all_goals
        fail "rd"
        refine k _ _ ?_ ⟨_, _, _, rfl, ⟨_, by assumption⟩, ?_⟩
        · fail "ex"
        · unfold Nrm at *
          omega
theorem go_wand {C x dx y dy : Addr} {G : Hp} {M : List Mo} {f l f2 l2 : Int} {Q : VK} {E : XK} (D : Dj G M) (hx : G x = some (.ins C dx ([("first", .int f), ("last", .int l)] : List (Str × V)))) (hy : G y = some (.ins C dy ([("first", .int f2), ("last", .int l2)] : List (Str × V)))) (k : ∀ z dz f3 l3 G', Ex G G' → Nrm (max f f2) (min l l2) f3 l3 → G' z = some (.ins C dz ([("first", .int f3), ("last", .int l3)] : List (Str × V))) → Dj G' M → Q (.ref z) (jn G' M)) : aCl (Frm (sp_Window___and__ C)) [.ref x, .ref y] (jn G M) Q E :=
  w_pu D ((x, f, l), y, f2, l2) ⟨rfl, ⟨dx, hx⟩, ⟨dy, hy⟩⟩ fun v' G' e po D' => by
    obtain ⟨z, f3, l3, rfl, ⟨dz, hz⟩, hn⟩ := po
    exact k z dz f3 l3 G' e hn hz D'
local macro_rules | `(tactic| fail "sp") => `(tactic| ((with_reducible refine' go_wand ?h ?hx ?hy (fun z dz f3 l3 G' e hn hz D => ?_)); (case h => fail "dj"); (case hx => fail "fct"); (case hy => fail "fct")))
/-! ### is_integer -/
abbrev s_is_integer : Stmt := top 1
theorem sc_is_integer : FnScope ["value"] ["value"] (defScope s_is_integer) := ⟨rfl, rfl, rfl, by decide +kernel, rfl, by decide +kernel, by decide +kernel⟩
/-- whether a value is an integer, as isinstance says -/

def KInt (K : PySem.W.Frag) (G : Hp) (v : V) (b : Bool) : Prop := (∃ i, v = .int i ∧ b = true) ∨ (∃ c, v = .bl c ∧ b = false) ∨ (b = false ∧ ∃ t, TyX K G v t ∧ PySem.W.kitOne K t (.type "int") = some false)
def sp_is_integer (K : PySem.W.Frag) : Sp := Pu (fun (a : V × Bool) G vs => vs = [a.1] ∧ KInt K G a.1 a.2) (fun a v _ => v = .bl a.2)
theorem ok_is_integer {f : Addr} {fd : FuncData} (F : Fun K "is_integer" "is_integer" s_is_integer f fd) (N : Gn K) (B : Bt mg)  : FnOk P w K mg base CX0 1 f fd ["value"] (sp_is_integer K) := by
  have nd := sc_is_integer.nd
  refine F.ok sc_is_integer (fun vs H Q E h => ?_) (fun cdv A outer s H vs Q E hr h => ?_)
  · obtain ⟨a, ⟨rfl, _⟩, _⟩ := h
    rfl
  · have hu := hu_of hr
    have hu64 := hr.units
    obtain ⟨⟨v, b⟩, ⟨rfl, hv⟩, k⟩ := h
    dsimp only at hv k
    refine ⟨_, (pss_one (ps_ret (pe_and (pe_callB (k_isi (K := K) rfl) rfl B.iisinstance boot_isinstance (pa_cons (pv 0) (pa_cons (pe_bltn (v := .ty "int") rfl B.iint boot_int rfl) pa_nil))) (pe_one (pe_not (pe_callB (k_isi (K := K) rfl) rfl B.iisinstance boot_isinstance (pa_cons (pv 0) (pa_cons (pe_bltn (v := .ty "bool") rfl B.ibool (by decide +kernel) rfl) pa_nil)))))))), ?_⟩
    try dsimp only [cxOf, Cx.nox]
    refine st0 (σ := [some _]) rfl ?_
    refine w00 fun D0 => ?_
    rcases hv with ⟨i, rfl, rfl⟩ | ⟨c, rfl, rfl⟩ | ⟨rfl, t, ht, e⟩
    all_goals
      fail "rd"
      exact k _ _ (Ex.refl _) rfl
/-! ### is_between -/
abbrev s_is_between : Stmt := top 2
theorem sc_is_between : FnScope ["value", "low", "high"] ["value", "low", "high"] (defScope s_is_between) := ⟨rfl, rfl, rfl, by decide +kernel, rfl, by decide +kernel, by decide +kernel⟩
theorem go_is_integer {K : PySem.W.Frag} {G : Hp} {M : List Mo} {v : V} {b : Bool} {Q : VK} {E : XK} (D : Dj G M) (hv : KInt K G v b) (k : ∀ G', Ex G G' → Dj G' M → Q (.bl b) (jn G' M)) : aCl (Frm (sp_is_integer K)) [v] (jn G M) Q E :=
  w_pu D (v, b) ⟨rfl, hv⟩ fun v' G' e po D' => by
    subst po
    exact k G' e D'
def KBtw (K : PySem.W.Frag) (G : Hp) (v : V) (lo hi : Int) (b : Bool) : Prop := (∃ i, v = .int i ∧ b = decide (lo ≤ i ∧ i ≤ hi)) ∨ (KInt K G v false ∧ b = false)
def sp_is_between (K : PySem.W.Frag) : Sp := Pu (fun (a : V × Int × Int × Bool) G vs => vs = [a.1, .int a.2.1, .int a.2.2.1] ∧ KBtw K G a.1 a.2.1 a.2.2.1 a.2.2.2) (fun a v _ => v = .bl a.2.2.2)
theorem ok_is_between {f : Addr} {fd : FuncData} (F : Fun K "is_between" "is_between" s_is_between f fd) (N : Gn K) (B : Bt mg) (D_is_integer : Df P w K mg base CX0 1 "is_integer" (sp_is_integer K)) : FnOk P w K mg base CX0 2 f fd ["value", "low", "high"] (sp_is_between K) := by
  have nd := sc_is_between.nd
  have D_is_integer := D_is_integer.frm
  refine F.ok sc_is_between (fun vs H Q E h => ?_) (fun cdv A outer s H vs Q E hr h => ?_)
  · obtain ⟨a, ⟨rfl, _⟩, _⟩ := h
    rfl
  · have hu := hu_of hr
    have hu64 := hr.units
    obtain ⟨⟨v, lo, hi, b⟩, ⟨rfl, hv⟩, k⟩ := h
    dsimp only at hv k
    refine ⟨_, (pss_one (ps_ret (pe_and (pe_df D_is_integer hr pass0 (pa_cons (pv 0) pa_nil)) (pe_one (pe_chain op_leU op_leU (pv 1) (pv 0) (pv 2)))))), ?_⟩
    try dsimp only [cxOf, Cx.nox]
    refine st0 (σ := [some _, some _, some _]) rfl ?_
    refine w00 fun D0 => ?_
    rcases hv with ⟨i, rfl, rfl⟩ | ⟨hv, rfl⟩
    · fail "rd"
      refine go_is_integer (b := true) D0 (.inl ⟨i, rfl, rfl⟩) fun G' e D => ?_
      fail "rd"
      refine ite_d (fun h1 => ?_) (fun h1 => ?_)
      · fail "rd"
        refine k _ _ e ?_
        congr 1
        exact (decide_eq_decide.mpr ⟨fun h => ⟨h1, h⟩, fun h => h.2⟩)
      · fail "rd"
        refine k _ _ e ?_
        congr 1
        exact (decide_eq_false fun h => h1 h.1).symm
    · fail "rd"
      refine go_is_integer D0 hv fun G' e D => ?_
      fail "rd"
      exact k _ _ e rfl
theorem go_is_between {K : PySem.W.Frag} {G : Hp} {M : List Mo} {v : V} {lo hi : Int} {b : Bool} {Q : VK} {E : XK} (D : Dj G M) (hv : KBtw K G v lo hi b) (k : ∀ G', Ex G G' → Dj G' M → Q (.bl b) (jn G' M)) : aCl (Frm (sp_is_between K)) [v, .int lo, .int hi] (jn G M) Q E :=
  w_pu D (v, lo, hi, b) ⟨rfl, hv⟩ fun v' G' e po D' => by
    subst po
    exact k G' e D'
/-! ### Window.__contains__ -/
abbrev s_Window___contains__ : Stmt := inClass (top 4) 1
theorem sc_Window___contains__ : FnScope ["self", "value"] ["self", "value"] (defScope s_Window___contains__) := ⟨rfl, rfl, rfl, by decide +kernel, rfl, by decide +kernel, by decide +kernel⟩
def sp_Window___contains__ (K : PySem.W.Frag) (C_Window : Addr) : Sp := Pu (fun (a : Addr × V × Int × Int × Bool) G vs => vs = [.ref a.1, a.2.1] ∧ Win C_Window G a.1 a.2.2.1 a.2.2.2.1 ∧ KBtw K G a.2.1 a.2.2.1 a.2.2.2.1 a.2.2.2.2) (fun a v _ => v = .bl a.2.2.2.2)
theorem ok_Window___contains__ {f : Addr} {fd : FuncData} {C_Window : Addr} (F : Fun K "__contains__" "Window.__contains__" s_Window___contains__ f fd) (N : Gn K) (B : Bt mg) (T_Window : Cf K mg "Window" C_Window ["first", "last"]) (D_is_between : Df P w K mg base CX0 2 "is_between" (sp_is_between K)) : FnOk P w K mg base CX0 3 f fd ["self", "value"] (sp_Window___contains__ K C_Window) := by
  have nd := sc_Window___contains__.nd
  have D_is_between := D_is_between.frm
  refine F.ok sc_Window___contains__ (fun vs H Q E h => ?_) (fun cdv A outer s H vs Q E hr h => ?_)
  · obtain ⟨a, ⟨rfl, _⟩, _⟩ := h
    rfl
  · have hu := hu_of hr
    have hu64 := hr.units
    obtain ⟨⟨x, v, f, l, b⟩, ⟨rfl, ⟨dx, hx⟩, hv⟩, k⟩ := h
    dsimp only at hx hv k
    refine ⟨_, (pss_one (ps_ret (pe_df D_is_between hr pass0 (pa_cons (pv 1) (pa_cons (k_fld (K := K) rfl (pv 0) rfl) (pa_cons (k_fld (K := K) rfl (pv 0) rfl) pa_nil)))))), ?_⟩
    try dsimp only [cxOf, Cx.nox]
    refine st0 (σ := [some _, some _]) rfl ?_
    refine w00 fun D0 => ?_
    fail "rd"
    refine go_is_between D0 hv fun G' e D => ?_
    fail "rd"
    exact k _ _ e rfl
theorem go_in {K : PySem.W.Frag} {C x dx : Addr} {G : Hp} {M : List Mo} {v : V} {f l : Int} {b : Bool} {Q : VK} {E : XK} (D : Dj G M) (hx : G x = some (.ins C dx ([("first", .int f), ("last", .int l)] : List (Str × V)))) (hv : KBtw K G v f l b) (k : ∀ G', Ex G G' → Dj G' M → Q (.bl b) (jn G' M)) : aCl (Frm (sp_Window___contains__ K C)) [.ref x, v] (jn G M) Q E :=
  w_pu D (x, v, f, l, b) ⟨rfl, ⟨dx, hx⟩, hv⟩ fun v' G' e po D' => by
    subst po
    exact k G' e D'
theorem go_inI {K : PySem.W.Frag} {C x dx : Addr} {G : Hp} {M : List Mo} {i f l : Int} {Q : VK} {E : XK} (D : Dj G M) (hx : G x = some (.ins C dx ([("first", .int f), ("last", .int l)] : List (Str × V)))) (k : ∀ G', Ex G G' → Dj G' M → Q (.bl (decide (f ≤ i ∧ i ≤ l))) (jn G' M)) : aCl (Frm (sp_Window___contains__ K C)) [.ref x, .int i] (jn G M) Q E := go_in D hx (.inl ⟨i, rfl, rfl⟩) k
local macro_rules | `(tactic| fail "sp") => `(tactic| ((with_reducible refine' go_inI ?h ?hx (fun G' e D => ?_)); (case h => fail "dj"); (case hx => fail "fct")))
/-! ### _law_truth -/
abbrev s__law_truth : Stmt := top 12
theorem sc__law_truth : FnScope ["_law_told", "_law_due"] ["_law_told", "_law_due"] (defScope s__law_truth) := ⟨rfl, rfl, rfl, by decide +kernel, rfl, by decide +kernel, by decide +kernel⟩
def sp__law_truth : Sp := Pu (fun (a : Bool × Bool) G vs => vs = [.bl a.1, .bl a.2]) (fun a v _ => v = .bl (decide (a.1 = a.2)))
theorem ok__law_truth {f : Addr} {fd : FuncData} (F : Fun K "_law_truth" "_law_truth" s__law_truth f fd) (N : Gn K) (B : Bt mg)  : FnOk P w K mg base CX0 1 f fd ["_law_told", "_law_due"] (sp__law_truth) := by
  have nd := sc__law_truth.nd
  refine F.ok sc__law_truth (fun vs H Q E h => ?_) (fun cdv A outer s H vs Q E hr h => ?_)
  · obtain ⟨a, rfl, _⟩ := h
    rfl
  · have hu := hu_of hr
    have hu64 := hr.units
    obtain ⟨⟨a, b⟩, rfl, k⟩ := h
    dsimp only at k
    refine ⟨_, (pss_one (ps_ret (pe_and (pe_callB (k_isi (K := K) rfl) rfl B.iisinstance boot_isinstance (pa_cons (pv 0) (pa_cons (pe_bltn (v := .ty "bool") rfl B.ibool (by decide +kernel) rfl) pa_nil))) (pe_one (pe_cmpR (k_eqU (K := K) rfl hu64) (pv 0) (pv 1) (nomark _)))))), ?_⟩
    try dsimp only [cxOf, Cx.nox]
    refine st0 (σ := [some _, some _]) rfl ?_
    refine w00 fun D0 => ?_
    fail "rd"
    exact k _ _ (Ex.refl _) rfl
theorem go_truth {G : Hp} {M : List Mo} {a b : Bool} {Q : VK} {E : XK} (D : Dj G M) (k : ∀ G', Ex G G' → Dj G' M → Q (.bl (decide (a = b))) (jn G' M)) : aCl (Frm sp__law_truth) [.bl a, .bl b] (jn G M) Q E :=
  w_pu D (a, b) rfl fun v' G' e po D' => by
    subst po
    exact k G' e D'
local macro_rules | `(tactic| fail "sp") => `(tactic| ((with_reducible refine' go_truth ?h (fun G' e D => ?_)); (case h => fail "dj")))
/-! ### Window.__le__ -/
abbrev s_Window___le__ : Stmt := inClass (top 4) 6
theorem sc_Window___le__ : FnScope ["self", "other"] ["self", "other"] (defScope s_Window___le__) := ⟨rfl, rfl, rfl, by decide +kernel, rfl, by decide +kernel, by decide +kernel⟩
def sp_Window___le__ (C_Window : Addr) : Sp := Pu (fun (a : (Addr × Int × Int) × Addr × Int × Int) G vs => vs = [.ref a.1.1, .ref a.2.1] ∧ Win C_Window G a.1.1 a.1.2.1 a.1.2.2 ∧ Win C_Window G a.2.1 a.2.2.1 a.2.2.2) (fun a v G => v = .bl (decide (a.1.2.2 < a.1.2.1 ∨ (a.2.2.1 ≤ a.1.2.1 ∧ a.1.2.2 ≤ a.2.2.2))))
theorem ok_Window___le__ {f : Addr} {fd : FuncData} {C_Window : Addr} (F : Fun K "__le__" "Window.__le__" s_Window___le__ f fd) (N : Gn K) (B : Bt mg) (T_Window : Cf K mg "Window" C_Window ["first", "last"]) : FnOk P w K mg base CX0 1 f fd ["self", "other"] (sp_Window___le__ C_Window) := by
  have nd := sc_Window___le__.nd
  refine F.ok sc_Window___le__ (fun vs H Q E h => ?_) (fun cdv A outer s H vs Q E hr h => ?_)
  · obtain ⟨a, ⟨rfl, _⟩, _⟩ := h
    rfl
  · have hu := hu_of hr
    have hu64 := hr.units
    obtain ⟨⟨⟨x, f, l⟩, y, f2, l2⟩, ⟨rfl, ⟨dx, hx⟩, ⟨dy, hy⟩⟩, k⟩ := h
    dsimp only at hx hy k
    refine ⟨_, (pss_cons (ps_if (pt_not (pt_val (pe_callB (k_isi (K := K) rfl) rfl B.iisinstance boot_isinstance (pa_cons (pv 1) (pa_cons (pe_glob (v := .ref C_Window) rfl T_Window.mg rfl) pa_nil))))) (pss_one ps_never) pss_nil)
      (pss_one (ps_ret (pe_or (pe_cmpR op_ltU (k_fld (K := K) rfl (pv 0) rfl) (k_fld (K := K) rfl (pv 0) rfl) (nomark _)) (pe_one (pe_and (pe_cmpR op_leU (k_fld (K := K) rfl (pv 1) rfl) (k_fld (K := K) rfl (pv 0) rfl) (nomark _)) (pe_one (pe_cmpR op_leU (k_fld (K := K) rfl (pv 0) rfl) (k_fld (K := K) rfl (pv 1) rfl) (nomark _))))))))), ?_⟩
    try dsimp only [cxOf, Cx.nox]
    refine st0 (σ := [some _, some _]) rfl ?_
    refine w00 fun D0 => ?_
    fail "rd"
    refine ite_d (fun h1 => ?_) (fun h1 => ?_)
    · fail "rd"
      refine k _ _ (Ex.refl _) ?_
      congr 1
      exact (decide_eq_true (by omega)).symm
    · fail "rd"
      refine ite_d (fun h2 => ?_) (fun h2 => ?_)
      · fail "rd"
        refine k _ _ (Ex.refl _) ?_
        congr 1
        exact decide_eq_decide.mpr (by omega)
      · fail "rd"
        refine k _ _ (Ex.refl _) ?_
        congr 1
        exact (decide_eq_false (by omega)).symm
theorem go_wle {C x dx y dy : Addr} {G : Hp} {M : List Mo} {f l f2 l2 : Int} {Q : VK} {E : XK} (D : Dj G M) (hx : G x = some (.ins C dx ([("first", .int f), ("last", .int l)] : List (Str × V)))) (hy : G y = some (.ins C dy ([("first", .int f2), ("last", .int l2)] : List (Str × V)))) (k : ∀ G', Ex G G' → Dj G' M → Q (.bl (decide (l < f ∨ (f2 ≤ f ∧ l ≤ l2)))) (jn G' M)) : aCl (Frm (sp_Window___le__ C)) [.ref x, .ref y] (jn G M) Q E :=
  w_pu D ((x, f, l), y, f2, l2) ⟨rfl, ⟨dx, hx⟩, ⟨dy, hy⟩⟩ fun v' G' e po D' => by
    subst po
    exact k G' e D'
local macro_rules | `(tactic| fail "sp") => `(tactic| ((with_reducible refine' go_wle ?h ?hx ?hy (fun G' e D => ?_)); (case h => fail "dj"); (case hx => fail "fct"); (case hy => fail "fct")))
/-! ### Window.__ge__ -/
abbrev s_Window___ge__ : Stmt := inClass (top 4) 7
theorem sc_Window___ge__ : FnScope ["self", "other"] ["self", "other"] (defScope s_Window___ge__) := ⟨rfl, rfl, rfl, by decide +kernel, rfl, by decide +kernel, by decide +kernel⟩
def sp_Window___ge__ (C_Window : Addr) : Sp := Pu (fun (a : (Addr × Int × Int) × Addr × Int × Int) G vs => vs = [.ref a.1.1, .ref a.2.1] ∧ Win C_Window G a.1.1 a.1.2.1 a.1.2.2 ∧ Win C_Window G a.2.1 a.2.2.1 a.2.2.2) (fun a v G => v = .bl (decide (a.2.2.2 < a.2.2.1 ∨ (a.1.2.1 ≤ a.2.2.1 ∧ a.2.2.2 ≤ a.1.2.2))))
theorem ok_Window___ge__ {f : Addr} {fd : FuncData} {C_Window : Addr} (F : Fun K "__ge__" "Window.__ge__" s_Window___ge__ f fd) (N : Gn K) (B : Bt mg) (T_Window : Cf K mg "Window" C_Window ["first", "last"]) : FnOk P w K mg base CX0 1 f fd ["self", "other"] (sp_Window___ge__ C_Window) := by
  have nd := sc_Window___ge__.nd
  refine F.ok sc_Window___ge__ (fun vs H Q E h => ?_) (fun cdv A outer s H vs Q E hr h => ?_)
  · obtain ⟨a, ⟨rfl, _⟩, _⟩ := h
    rfl
  · have hu := hu_of hr
    have hu64 := hr.units
    obtain ⟨⟨⟨x, f, l⟩, y, f2, l2⟩, ⟨rfl, ⟨dx, hx⟩, ⟨dy, hy⟩⟩, k⟩ := h
    dsimp only at hx hy k
    refine ⟨_, (pss_cons (ps_if (pt_not (pt_val (pe_callB (k_isi (K := K) rfl) rfl B.iisinstance boot_isinstance (pa_cons (pv 1) (pa_cons (pe_glob (v := .ref C_Window) rfl T_Window.mg rfl) pa_nil))))) (pss_one ps_never) pss_nil)
      (pss_one (ps_ret (pe_or (pe_cmpR op_ltU (k_fld (K := K) rfl (pv 1) rfl) (k_fld (K := K) rfl (pv 1) rfl) (nomark _)) (pe_one (pe_and (pe_cmpR op_leU (k_fld (K := K) rfl (pv 0) rfl) (k_fld (K := K) rfl (pv 1) rfl) (nomark _)) (pe_one (pe_cmpR op_leU (k_fld (K := K) rfl (pv 1) rfl) (k_fld (K := K) rfl (pv 0) rfl) (nomark _))))))))), ?_⟩
    try dsimp only [cxOf, Cx.nox]
    refine st0 (σ := [some _, some _]) rfl ?_
    refine w00 fun D0 => ?_
    fail "rd"
    refine ite_d (fun h1 => ?_) (fun h1 => ?_)
    · fail "rd"
      refine k _ _ (Ex.refl _) ?_
      congr 1
      exact (decide_eq_true (by omega)).symm
    · fail "rd"
      refine ite_d (fun h2 => ?_) (fun h2 => ?_)
      · fail "rd"
        refine k _ _ (Ex.refl _) ?_
        congr 1
        exact decide_eq_decide.mpr (by omega)
      · fail "rd"
        refine k _ _ (Ex.refl _) ?_
        congr 1
        exact (decide_eq_false (by omega)).symm
theorem go_wge {C x dx y dy : Addr} {G : Hp} {M : List Mo} {f l f2 l2 : Int} {Q : VK} {E : XK} (D : Dj G M) (hx : G x = some (.ins C dx ([("first", .int f), ("last", .int l)] : List (Str × V)))) (hy : G y = some (.ins C dy ([("first", .int f2), ("last", .int l2)] : List (Str × V)))) (k : ∀ G', Ex G G' → Dj G' M → Q (.bl (decide (l2 < f2 ∨ (f ≤ f2 ∧ l2 ≤ l)))) (jn G' M)) : aCl (Frm (sp_Window___ge__ C)) [.ref x, .ref y] (jn G M) Q E :=
  w_pu D ((x, f, l), y, f2, l2) ⟨rfl, ⟨dx, hx⟩, ⟨dy, hy⟩⟩ fun v' G' e po D' => by
    subst po
    exact k G' e D'
local macro_rules | `(tactic| fail "sp") => `(tactic| ((with_reducible refine' go_wge ?h ?hx ?hy (fun G' e D => ?_)); (case h => fail "dj"); (case hx => fail "fct"); (case hy => fail "fct")))
/-! ### Window.__eq__ -/
abbrev s_Window___eq__ : Stmt := inClass (top 4) 4
theorem sc_Window___eq__ : FnScope ["self", "other"] ["self", "other"] (defScope s_Window___eq__) := ⟨rfl, rfl, rfl, by decide +kernel, rfl, by decide +kernel, by decide +kernel⟩
def EqW (K : PySem.W.Frag) (C : Addr) (G : Hp) (v : V) (f l : Int) (b : Bool) : Prop := (∃ y f2 l2, v = .ref y ∧ Win C G y f2 l2 ∧ b = decide (f = f2 ∧ l = l2)) ∨ (b = false ∧ ∃ t, TyX K G v t ∧ PySem.W.kitOne K t (.ref C) = some false)
def sp_Window___eq__ (K : PySem.W.Frag) (C_Window : Addr) : Sp := Pu (fun (a : Addr × V × Int × Int × Bool) G vs => vs = [.ref a.1, a.2.1] ∧ Win C_Window G a.1 a.2.2.1 a.2.2.2.1 ∧ EqW K C_Window G a.2.1 a.2.2.1 a.2.2.2.1 a.2.2.2.2) (fun a v _ => v = .bl a.2.2.2.2)
theorem ok_Window___eq__ {f : Addr} {fd : FuncData} {C_Window : Addr} (F : Fun K "__eq__" "Window.__eq__" s_Window___eq__ f fd) (N : Gn K) (B : Bt mg) (T_Window : Cf K mg "Window" C_Window ["first", "last"]) : FnOk P w K mg base CX0 1 f fd ["self", "other"] (sp_Window___eq__ K C_Window) := by
  have nd := sc_Window___eq__.nd
  refine F.ok sc_Window___eq__ (fun vs H Q E h => ?_) (fun cdv A outer s H vs Q E hr h => ?_)
  · obtain ⟨a, ⟨rfl, _⟩, _⟩ := h
    rfl
  · have hu := hu_of hr
    have hu64 := hr.units
    obtain ⟨⟨x, v, f, l, b⟩, ⟨rfl, ⟨dx, hx⟩, hv⟩, k⟩ := h
    dsimp only at hx hv k
    refine ⟨_, (pss_one (ps_ret (pe_and (pe_callB (k_isi (K := K) rfl) rfl B.iisinstance boot_isinstance (pa_cons (pv 1) (pa_cons (pe_glob (v := .ref C_Window) rfl T_Window.mg rfl) pa_nil))) (pe_and (pe_cmpR (k_eqU (K := K) rfl hu64) (k_fld (K := K) rfl (pv 0) rfl) (k_fld (K := K) rfl (pv 1) rfl) (nomark _)) (pe_one (pe_cmpR (k_eqU (K := K) rfl hu64) (k_fld (K := K) rfl (pv 0) rfl) (k_fld (K := K) rfl (pv 1) rfl) (nomark _))))))), ?_⟩
    try dsimp only [cxOf, Cx.nox]
    refine st0 (σ := [some _, some _]) rfl ?_
    refine w00 fun D0 => ?_
    rcases hv with ⟨y, f2, l2, rfl, ⟨dy, hy⟩, rfl⟩ | ⟨rfl, t, ht, e⟩
    · fail "rd"
      refine ite_d (fun h1 => ?_) (fun h1 => ?_)
      · fail "rd"
        refine k _ _ (Ex.refl _) ?_
        congr 1
        exact decide_eq_decide.mpr ⟨fun h => ⟨h1, h⟩, fun h => h.2⟩
      · fail "rd"
        refine k _ _ (Ex.refl _) ?_
        congr 1
        exact (decide_eq_false fun h => h1 h.1).symm
    · fail "rd"
      exact k _ _ (Ex.refl _) rfl
theorem go_weq {K : PySem.W.Frag} {C x dx : Addr} {G : Hp} {M : List Mo} {v : V} {f l : Int} {b : Bool} {Q : VK} {E : XK} (D : Dj G M) (hx : G x = some (.ins C dx ([("first", .int f), ("last", .int l)] : List (Str × V)))) (hv : EqW K C G v f l b) (k : ∀ G', Ex G G' → Dj G' M → Q (.bl b) (jn G' M)) : aCl (Frm (sp_Window___eq__ K C)) [.ref x, v] (jn G M) Q E :=
  w_pu D (x, v, f, l, b) ⟨rfl, ⟨dx, hx⟩, hv⟩ fun v' G' e po D' => by
    subst po
    exact k G' e D'
theorem go_weqY {K : PySem.W.Frag} {C x dx y dy : Addr} {G : Hp} {M : List Mo} {f l f2 l2 : Int} {Q : VK} {E : XK} (D : Dj G M) (hx : G x = some (.ins C dx ([("first", .int f), ("last", .int l)] : List (Str × V)))) (hy : G y = some (.ins C dy ([("first", .int f2), ("last", .int l2)] : List (Str × V)))) (k : ∀ G', Ex G G' → Dj G' M → Q (.bl (decide (f = f2 ∧ l = l2))) (jn G' M)) : aCl (Frm (sp_Window___eq__ K C)) [.ref x, .ref y] (jn G M) Q E := go_weq D hx (.inl ⟨y, f2, l2, rfl, ⟨dy, hy⟩, rfl⟩) k
theorem go_weqN {K : PySem.W.Frag} {C x dx : Addr} {G : Hp} {M : List Mo} {v : V} {f l : Int} {t : Value} {Q : VK} {E : XK} (D : Dj G M) (hx : G x = some (.ins C dx ([("first", .int f), ("last", .int l)] : List (Str × V)))) (ht : TyX K G v t) (e : PySem.W.kitOne K t (.ref C) = some false) (k : ∀ G', Ex G G' → Dj G' M → Q (.bl false) (jn G' M)) : aCl (Frm (sp_Window___eq__ K C)) [.ref x, v] (jn G M) Q E := go_weq D hx (.inr ⟨rfl, t, ht, e⟩) k
local macro_rules | `(tactic| fail "sp") => `(tactic| ((with_reducible refine' go_weqN ?h ?hx ?ht ?e (fun G' e D => ?_)); (case h => fail "dj"); (case hx => fail "fct"); (case ht => fail "tx"); (case e => fail "kit")))
local macro_rules | `(tactic| fail "sp") => `(tactic| ((with_reducible refine' go_weqY ?h ?hx ?hy (fun G' e D => ?_)); (case h => fail "dj"); (case hx => fail "fct"); (case hy => fail "fct")))
/-! ### _law_compared -/
abbrev s__law_compared : Stmt := top 15
theorem sc__law_compared : FnScope ["_law_one", "_law_two", "_law_near", "_law_far", "_law_within", "_law_around"] ["_law_one", "_law_two", "_law_near", "_law_far"] (defScope s__law_compared) := ⟨rfl, rfl, rfl, by decide +kernel, rfl, by decide +kernel, by decide +kernel⟩
def sp__law_compared (C_Window : Addr) : Sp := Pu (fun (a : (Addr × Addr × Addr × Addr) × (Int × Int × Int × Int) × Int × Int × Int × Int) G vs => vs = [.ref a.1.1, .ref a.1.2.1, .ref a.1.2.2.1, .ref a.1.2.2.2] ∧ G a.1.2.2.1 = some (.tup [.int a.2.1.1, .int a.2.1.2.1]) ∧ G a.1.2.2.2 = some (.tup [.int a.2.1.2.2.1, .int a.2.1.2.2.2]) ∧
  Win C_Window G a.1.1 a.2.2.1 a.2.2.2.1 ∧ Win C_Window G a.1.2.1 a.2.2.2.2.1 a.2.2.2.2.2 ∧ Nrm a.2.1.1 a.2.1.2.1 a.2.2.1 a.2.2.2.1 ∧ Nrm a.2.1.2.2.1 a.2.1.2.2.2 a.2.2.2.2.1 a.2.2.2.2.2 ∧ 0 ≤ a.2.1.1 ∧ 0 ≤ a.2.1.2.2.1) (fun a v _ => v = .bl true)
theorem ok__law_compared {f : Addr} {fd : FuncData} {C_Window : Addr} (F : Fun K "_law_compared" "_law_compared" s__law_compared f fd) (N : Gn K) (B : Bt mg) (T_Window : Cf K mg "Window" C_Window ["first", "last"]) (NE_Window : PySem.W.findIn K (.ref C_Window) "__ne__" = some (some (.builtin "object.__ne__"))) (D__law_truth : Df P w K mg base CX0 1 "_law_truth" (sp__law_truth)) (D_Window___le__ : Mt P w K mg base CX0 1 C_Window "__le__" (sp_Window___le__ C_Window)) (D_Window___ge__ : Mt P w K mg base CX0 1 C_Window "__ge__" (sp_Window___ge__ C_Window)) (D_Window___eq__ : Mt P w K mg base CX0 1 C_Window "__eq__" (sp_Window___eq__ K C_Window)) : FnOk P w K mg base CX0 3 f fd ["_law_one", "_law_two", "_law_near", "_law_far"] (sp__law_compared C_Window) := by
  have nd := sc__law_compared.nd
  have D__law_truth := D__law_truth.frm
  have D_Window___le__ := D_Window___le__.frm
  have D_Window___ge__ := D_Window___ge__.frm
  have D_Window___eq__ := D_Window___eq__.frm
  refine F.ok sc__law_compared (fun vs H Q E h => ?_) (fun cdv A outer s H vs Q E hr h => ?_)
  · obtain ⟨a, ⟨rfl, _⟩, _⟩ := h
    rfl
  · have hu := hu_of hr
    have hu64 := hr.units
    obtain ⟨⟨⟨x, y, p, q⟩, ⟨f, l, b, e⟩, f2, l2, b2, e2⟩, ⟨rfl, hp, hq, ⟨dx, hx⟩, ⟨dy, hy⟩, hn1, hn2, hf0, hb0⟩, k⟩ := h
    dsimp only at hp hq hx hy hn1 hn2 hf0 hb0 k
    refine ⟨_, (pss_cons (ps_asg (pe_or (pe_cmpR op_ltU (pe_ix (k_ix (K := K) rfl) (pv 2) pe_int (fun _ _ => rfl)) (pe_ix (k_ix (K := K) rfl) (pv 2) pe_int (fun _ _ => rfl)) (nomark _)) (pe_one (pe_and (pe_cmpR op_leU (pe_ix (k_ix (K := K) rfl) (pv 3) pe_int (fun _ _ => rfl)) (pe_ix (k_ix (K := K) rfl) (pv 2) pe_int (fun _ _ => rfl)) (nomark _)) (pe_one (pe_cmpR op_leU (pe_ix (k_ix (K := K) rfl) (pv 2) pe_int (fun _ _ => rfl)) (pe_ix (k_ix (K := K) rfl) (pv 3) pe_int (fun _ _ => rfl)) (nomark _)))))) (pg_name (i := 4) nd rfl (Or.inl rfl)))
      (pss_cons (ps_asg (pe_or (pe_cmpR op_ltU (pe_ix (k_ix (K := K) rfl) (pv 3) pe_int (fun _ _ => rfl)) (pe_ix (k_ix (K := K) rfl) (pv 3) pe_int (fun _ _ => rfl)) (nomark _)) (pe_one (pe_and (pe_cmpR op_leU (pe_ix (k_ix (K := K) rfl) (pv 2) pe_int (fun _ _ => rfl)) (pe_ix (k_ix (K := K) rfl) (pv 3) pe_int (fun _ _ => rfl)) (nomark _)) (pe_one (pe_cmpR op_leU (pe_ix (k_ix (K := K) rfl) (pv 3) pe_int (fun _ _ => rfl)) (pe_ix (k_ix (K := K) rfl) (pv 2) pe_int (fun _ _ => rfl)) (nomark _)))))) (pg_name (i := 5) nd rfl (Or.inl rfl)))
      (pss_cons (ps_if (PW.pt (pw_or (pt_not (pt_val (pe_df D__law_truth hr pass0 (pa_cons (pe_cmpR (k_cmp2 (K := K) (E := E0) rfl D_Window___le__ hopLe T_Window.nfs hr pass0) (pv 0) (pv 1) (nomark _)) (pa_cons (pv 4) pa_nil))))) (pw_or1 (pt_not (pt_val (pe_df D__law_truth hr pass0 (pa_cons (pe_cmpR (k_cmp2 (K := K) (E := E0) rfl D_Window___ge__ hopGe T_Window.nfs hr pass0) (pv 1) (pv 0) (nomark _)) (pa_cons (pv 4) pa_nil)))))))) (pss_one (ps_ret pe_bl)) pss_nil)
      (pss_cons (ps_if (PW.pt (pw_or (pt_not (pt_val (pe_df D__law_truth hr pass0 (pa_cons (pe_cmpR (k_cmp2 (K := K) (E := E0) rfl D_Window___le__ hopLe T_Window.nfs hr pass0) (pv 1) (pv 0) (nomark _)) (pa_cons (pv 5) pa_nil))))) (pw_or1 (pt_not (pt_val (pe_df D__law_truth hr pass0 (pa_cons (pe_cmpR (k_cmp2 (K := K) (E := E0) rfl D_Window___ge__ hopGe T_Window.nfs hr pass0) (pv 0) (pv 1) (nomark _)) (pa_cons (pv 5) pa_nil)))))))) (pss_one (ps_ret pe_bl)) pss_nil)
      (pss_cons (ps_if (PW.pt (pw_or (pt_not (pt_val (pe_df D__law_truth hr pass0 (pa_cons (pe_cmpR (k_cmp1 (K := K) (E := E0) rfl D_Window___eq__ hopEq hr pass0) (pv 0) (pv 1) (nomark _)) (pa_cons (pe_and (pv 4) (pe_one (pv 5))) pa_nil))))) (pw_or1 (pt_not (pt_val (pe_df D__law_truth hr pass0 (pa_cons (pe_cmpR (k_ne1 (K := K) rfl D_Window___eq__ T_Window.hm NE_Window hr) (pv 0) (pv 1) (nomark _)) (pa_cons (pe_not (pe_and (pv 4) (pe_one (pv 5)))) pa_nil)))))))) (pss_one (ps_ret pe_bl)) pss_nil)
      (pss_one (ps_ret (pe_and (pe_not (pe_cmpR (k_cmp1 (K := K) (E := E0) rfl D_Window___eq__ hopEq hr pass0) (pv 0) (pv 2) (nomark _))) (pe_and (pe_not (pe_cmpR (k_cmp1 (K := K) (E := E0) rfl D_Window___eq__ hopEq hr pass0) (pv 1) pe_int (nomark _))) (pe_and (pe_cmpR (k_ne1 (K := K) rfl D_Window___eq__ T_Window.hm NE_Window hr) (pv 0) (pv 2) (nomark _)) (pe_one (pe_cmpR (k_ne1 (K := K) rfl D_Window___eq__ T_Window.hm NE_Window hr) (pv 1) pe_int (nomark _))))))))))))), ?_⟩
    try dsimp only [cxOf, Cx.nox]
    refine st0 (σ := [some _, some _, some _, some _, none, none]) rfl ?_
    refine w00 fun D0 => ?_
    unfold Nrm at hn1 hn2
    fail "rp"
    refine k _ _ ?_ rfl
    fail "ex"
theorem go_compared {C x dx y dy p q : Addr} {G : Hp} {M : List Mo} {f l f2 l2 b e b2 e2 : Int} {Q : VK} {E : XK} (D : Dj G M) (hp : G p = some (.tup [.int f, .int l])) (hq : G q = some (.tup [.int b, .int e])) (hx : G x = some (.ins C dx ([("first", .int f2), ("last", .int l2)] : List (Str × V)))) (hy : G y = some (.ins C dy ([("first", .int b2), ("last", .int e2)] : List (Str × V)))) (hn1 : Nrm f l f2 l2) (hn2 : Nrm b e b2 e2) (h0 : 0 ≤ f) (h1 : 0 ≤ b) (k : ∀ G', Ex G G' → Dj G' M → Q (.bl true) (jn G' M)) : aCl (Frm (sp__law_compared C)) [.ref x, .ref y, .ref p, .ref q] (jn G M) Q E :=
  w_pu D ((x, y, p, q), (f, l, b, e), f2, l2, b2, e2) ⟨rfl, hp, hq, ⟨dx, hx⟩, ⟨dy, hy⟩, hn1, hn2, h0, h1⟩ fun v' G' e po D' => by
    subst po
    exact k G' e D'
/-! ### law -/
abbrev s_law : Stmt := top 16
theorem sc_law : FnScope ["_law_script", "_law_m", "_law_first", "_law_last", "_law_begin", "_law_end", "_law_kind", "_law_one", "_law_two", "_law_late", "_law_early", "_law_again", "_law_r", "_law_value"] ["_law_script"] (defScope s_law) := ⟨rfl, rfl, rfl, by decide +kernel, rfl, by decide +kernel, by decide +kernel⟩
theorem ok_law {f : Addr} {fd : FuncData} {C_Window : Addr} (F : Fun K "law" "law" s_law f fd) (N : Gn K) (B : Bt mg) (T_Window : Cf K mg "Window" C_Window ["first", "last"]) (D__law_begun : Df P w K mg base CX0 2 "_law_begun" (sp__law_begun K)) (D__law_ends : Df P w K mg base CX0 4 "_law_ends" (sp__law_ends K)) (D__law_draw : Df P w K mg base CX0 2 "_law_draw" (sp__law_draw K)) (D_Window : Ini P w K mg base CX0 1 "Window" C_Window (sp_Window___init__ C_Window)) (D__law_holds : Df P w K mg base CX0 4 "_law_holds" (sp__law_holds C_Window)) (D_Window___and__ : Mt P w K mg base CX0 3 C_Window "__and__" (sp_Window___and__ C_Window)) (D__law_big : Df P w K mg base CX0 3 "_law_big" (sp__law_big K)) (D_Window___contains__ : Mt P w K mg base CX0 3 C_Window "__contains__" (sp_Window___contains__ K C_Window)) (D__law_compared : Df P w K mg base CX0 3 "_law_compared" (sp__law_compared C_Window)) : FnOk P w K mg base CX0 5 f fd ["_law_script"] (spLaw K) := by
  have nd := sc_law.nd
  have D__law_begun := D__law_begun.frm
  have D__law_ends := D__law_ends.frm
  have D__law_draw := D__law_draw.frm
  have D_Window := D_Window.frm
  have D__law_holds := D__law_holds.frm
  have D_Window___and__ := D_Window___and__.frm
  have D__law_big := D__law_big.frm
  have D_Window___contains__ := D_Window___contains__.frm
  have D__law_compared := D__law_compared.frm
  refine F.ok sc_law (fun vs H Q E h => ?_) (fun cdv A outer s H vs Q E hr h => ?_)
  · obtain ⟨a, ns, rfl, _⟩ := h
    rfl
  · have hu := hu_of hr
    have hu64 := hr.units
    obtain ⟨a, ns, rfl, hS, hlen, k⟩ := h
    refine ⟨_, (pss_cons (ps_asg (pe_df D__law_begun hr pass0 (pa_cons (pv 0) pa_nil)) (pg_name (i := 1) nd rfl (Or.inl rfl)))
      (pss_cons (ps_asg (pe_df D__law_ends hr pass0 (pa_cons (pv 1) pa_nil)) (k_tupG (K := K) rfl rfl (pgs_cons (pg_name (i := 2) nd rfl (Or.inl rfl)) (pgs_cons (pg_name (i := 3) nd rfl (Or.inl rfl)) pgs_nil))))
      (pss_cons (ps_asg (pe_df D__law_ends hr pass0 (pa_cons (pv 1) pa_nil)) (k_tupG (K := K) rfl rfl (pgs_cons (pg_name (i := 4) nd rfl (Or.inl rfl)) (pgs_cons (pg_name (i := 5) nd rfl (Or.inl rfl)) pgs_nil))))
      (pss_cons (ps_asg (pe_df D__law_draw hr pass0 (pa_cons (pv 1) (pa_cons pe_int pa_nil))) (pg_name (i := 6) nd rfl (Or.inl rfl)))
      (pss_cut (ps_if (pt_cmpR (k_eqU (K := K) rfl hu64) (pv 6) pe_int (nomark _)) (pss_one (ps_par (i := 4) (j := 5) (by rfl) nd rfl rfl (by decide) rfl rfl (pa_cons (pv 2) (pa_cons (pv 3) pa_nil)) (by rfl))) pss_nil)
      (pss_cut (ps_if (pt_cmpR (k_eqU (K := K) rfl hu64) (pv 6) pe_int (nomark _)) (pss_one (ps_par (i := 4) (j := 5) (by rfl) nd rfl rfl (by decide) rfl rfl (pa_cons (pe_op (k_addU (K := K) rfl) (pv 2) (pe_df D__law_draw hr pass0 (pa_cons (pv 1) (pa_cons pe_int pa_nil)))) (pa_cons (pe_ifExp (pt_cmpR op_gtU (pv 3) pe_int (nomark _)) (pe_op op_subU (pv 3) (pe_df D__law_draw hr pass0 (pa_cons (pv 1) (pa_cons pe_int pa_nil)))) (pv 3)) pa_nil)) (by rfl))) pss_nil)
      (pss_cons (ps_par (i := 7) (j := 8) (by rfl) nd rfl rfl (by decide) rfl rfl (pa_cons (pe_mk D_Window hr pass0 (pa_cons (pv 2) (pa_cons (pv 3) pa_nil))) (pa_cons (pe_mk D_Window hr pass0 (pa_cons (pv 4) (pa_cons (pv 5) pa_nil))) pa_nil)) (by rfl))
      (pss_cons (ps_if (PW.pt (pw_or (pt_not (pt_val (pe_df D__law_holds hr pass0 (pa_cons (pv 7) (pa_cons (pv 2) (pa_cons (pv 3) pa_nil)))))) (pw_or1 (pt_not (pt_val (pe_df D__law_holds hr pass0 (pa_cons (pv 8) (pa_cons (pv 4) (pa_cons (pv 5) pa_nil))))))))) (pss_one (ps_ret pe_bl)) pss_nil)
      (pss_cut (ps_asg (pe_ifExp (pt_cmpR op_gtU (pv 2) (pv 4) (nomark _)) (pv 2) (pv 4)) (pg_name (i := 9) nd rfl (Or.inl rfl)))
      (pss_cut (ps_asg (pe_ifExp (pt_cmpR op_ltU (pv 3) (pv 5) (nomark _)) (pv 3) (pv 5)) (pg_name (i := 10) nd rfl (Or.inl rfl)))
      (pss_cut (ps_if (PW.pt (pw_or (pt_cmpR op_ltU (pv 3) (pv 2) (nomark _)) (pw_or1 (pt_cmpR op_ltU (pv 5) (pv 4) (nomark _))))) (pss_one (ps_asg (pe_tup (pa_cons pe_int (pa_cons (pe_un un_neg pe_int) pa_nil))) (k_tupG (K := K) rfl rfl (pgs_cons (pg_name (i := 9) nd rfl (Or.inl rfl)) (pgs_cons (pg_name (i := 10) nd rfl (Or.inl rfl)) pgs_nil))))) pss_nil)
      (pss_cons (ps_if (PW.pt (pw_or (pt_not (pt_val (pe_df D__law_holds hr pass0 (pa_cons (pe_op (k_bin2 (K := K) (E := E0) rfl D_Window___and__ T_Window.sf hr pass0) (pv 7) (pv 8)) (pa_cons (pv 9) (pa_cons (pv 10) pa_nil)))))) (pw_or1 (pt_not (pt_val (pe_df D__law_holds hr pass0 (pa_cons (pe_op (k_bin2 (K := K) (E := E0) rfl D_Window___and__ T_Window.sf hr pass0) (pv 8) (pv 7)) (pa_cons (pv 9) (pa_cons (pv 10) pa_nil))))))))) (pss_one (ps_ret pe_bl)) pss_nil)
      (pss_cons (ps_for PassesOwn.never rfl (pi_range1 rfl B.irange (pa_cons pe_int pa_nil)) (pg_name (i := 11) nd rfl (Or.inl rfl)) (pss_cons (ps_asg (pe_ix (k_ix (K := K) rfl) (pe_lst (pa_cons (pe_df D__law_draw hr pass0 (pa_cons (pv 1) (pa_cons pe_int pa_nil))) (pa_cons (pe_df D__law_big hr pass0 (pa_cons (pv 1) (pa_cons (pe_op (k_addU (K := K) rfl) (pe_op op_powU pe_int pe_int) pe_int) pa_nil))) (pa_cons (pv 2) (pa_cons (pv 3) (pa_cons (pv 4) (pa_cons (pv 5) pa_nil))))))) (pe_df D__law_draw hr pass0 (pa_cons (pv 1) (pa_cons pe_int pa_nil))) (fun _ _ => rfl)) (pg_name (i := 12) nd rfl (Or.inl rfl)))
      (pss_cons (ps_if (PW.pt (pw_or (pt_cmpR (k_neU (K := K) rfl hu64) (pe_cmpR (k_owIn (K := K) (E := E0) rfl D_Window___contains__ hr pass0) (pv 12) (pv 7) rfl) (pe_chain op_leU op_leU (pv 2) (pv 12) (pv 3)) (nomark _)) (pw_or1 (pt_cmpR (k_neU (K := K) rfl hu64) (pe_cmpR (k_owIn (K := K) (E := E0) rfl D_Window___contains__ hr pass0) (pv 12) (pv 8) rfl) (pe_chain op_leU op_leU (pv 4) (pv 12) (pv 5)) (nomark _))))) (pss_one (ps_ret pe_bl)) pss_nil)
      (pss_one (ps_if (pt_cmpR (k_neU (K := K) rfl hu64) (pe_cmpR (k_owIn (K := K) (E := E0) rfl D_Window___contains__ hr pass0) (pv 12) (pe_op (k_bin2 (K := K) (E := E0) rfl D_Window___and__ T_Window.sf hr pass0) (pv 7) (pv 8)) rfl) (pe_and (pe_chain op_leU op_leU (pv 2) (pv 12) (pv 3)) (pe_one (pe_chain op_leU op_leU (pv 4) (pv 12) (pv 5)))) (nomark _)) (pss_one (ps_ret pe_bl)) pss_nil)))))
      (pss_cons (ps_for PassesOwn.never rfl (k_tupI (K := K) rfl (pe_tup (pa_cons pe_non (pa_cons pe_str (pa_cons pe_bl (pa_cons (pe_tup (pa_cons pe_int pa_nil)) (pa_cons (pe_lst (pa_cons pe_int pa_nil)) (pa_cons pe_dnewK (pa_cons (pe_un un_neg pe_int) (pa_cons (pe_op op_powU pe_int pe_int) pa_nil)))))))))) (pg_name (i := 13) nd rfl (Or.inl rfl)) (pss_one (ps_if (PW.pt (pw_or (pt_cmpR (k_owIn (K := K) (E := E0) rfl D_Window___contains__ hr pass0) (pv 13) (pv 7) rfl) (pw_or1 (pt_cmpR (k_owIn (K := K) (E := E0) rfl D_Window___contains__ hr pass0) (pv 13) (pv 8) rfl)))) (pss_one (ps_ret pe_bl)) pss_nil)))
      (pss_one (ps_ret (pe_and (pe_df D__law_compared hr pass0 (pa_cons (pv 7) (pa_cons (pv 8) (pa_cons (pe_tup (pa_cons (pv 2) (pa_cons (pv 3) pa_nil))) (pa_cons (pe_tup (pa_cons (pv 4) (pa_cons (pv 5) pa_nil))) pa_nil))))) (pe_one (pe_df D__law_holds hr pass0 (pa_cons (pv 7) (pa_cons (pv 2) (pa_cons (pv 3) pa_nil)))))))))))))))))))))), ?_⟩
    try dsimp only [cxOf, Cx.nox]
    refine st0 (σ := [some _, none, none, none, none, none, none, none, none, none, none, none, none, none]) rfl ?_
    refine w00 fun D0 => ?_
    fail "ro"
    refine go_begun D0 hS hlen fun m c g d G1 e1 ok1 hn1 D1 => ?_
    fail "ro"
    refine go_ends D1 ok1 (by omega) fun p f l G2 d2 hp hf0 hl0 hf1 hl1 e2 hn2 ok2 D2 => ?_
    fail "ro"
    refine go_ends D2 ok2 (by omega) fun p2 b e G3 d3 hp2 hb0 he0 hb1 he1 e3 hn3 ok3 D3 => ?_
    fail "ro"
    refine go_draw D3 ok3 (by omega) (by omega) (by omega) fun kd G4 d4 hk0 hk1 e4 hn4 ok4 D4 => ?_
    fail "ro"
    refine w_cut D4 (fun σ G M => ∃ b e d, σ = [some (.ref a), some (.ref m), some (.int f), some (.int l), some (.int b), some (.int e), some (.int kd), none, none, none, none, none, none, none] ∧ M = [.drw m c g d] ∧ OkD d ∧ d.n ≤ 100 ∧ 0 ≤ b ∧ b < 2 ^ 31 ∧ e < 2 ^ 31) ?_ ?_
    · intro R hR
      fail "rd"
      refine ite_d (fun h => ?_) (fun h => ?_)
      all_goals
        fail "rd"
        refine hR _ _ _ ?_ ?_ ⟨_, _, _, rfl, rfl, ?_, ?_, ?_, ?_, ?_⟩
        · fail "ex"
        · fail "dj"
        · assumption
        all_goals omega
    rintro σ5 G5 M5 e5 D5 ⟨b, e, d5, rfl, rfl, ok5, hn5, hb0, hb1, he1⟩
    refine w_cut D5 (fun σ G M => ∃ b e d, σ = [some (.ref a), some (.ref m), some (.int f), some (.int l), some (.int b), some (.int e), some (.int kd), none, none, none, none, none, none, none] ∧ M = [.drw m c g d] ∧ OkD d ∧ d.n ≤ 200 ∧ 0 ≤ b ∧ b < 2 ^ 32 ∧ e < 2 ^ 32) ?_ ?_
    · intro R hR
      fail "rd"
      refine ite_d (fun h => ?_) (fun h => ?_)
      · fail "rd"
        refine ite_d (fun h => ?_) (fun h => ?_)
        all_goals
          fail "rd"
          refine hR _ _ _ ?_ ?_ ⟨_, _, _, rfl, rfl, ?_, ?_, ?_, ?_, ?_⟩
          · fail "ex"
          · fail "dj"
          · assumption
          all_goals omega
      · fail "rd"
        refine hR _ _ _ ?_ ?_ ⟨_, _, _, rfl, rfl, ?_, ?_, ?_, ?_, ?_⟩
        · fail "ex"
        · fail "dj"
        · assumption
        all_goals omega
    rintro σ6 G6 M6 e6 D6 ⟨b, e, d6, rfl, rfl, ok6, hn6, hb0, hb1, he1⟩
    fail "ro"
    refine go_Window D6 fun x dx G7 f2 l2 e7 hnr1 hx D7 => ?_
    fail "ro"
    refine go_Window D7 fun y dy G8 b2 e2 e8 hnr2 hy D8 => ?_
    have hx := e8 _ _ hx
    fail "rd"
    rename_i G9 e9 D9 G10 e10 D10
    have hx := e10 _ _ (e9 _ _ hx)
    have hy := e10 _ _ (e9 _ _ hy)
    refine w_cut D10 (fun σ G M => ∃ la, σ = [some (.ref a), some (.ref m), some (.int f), some (.int l), some (.int b), some (.int e), some (.int kd), some (.ref x), some (.ref y), some (.int la), none, none, none, none] ∧ M = [.drw m c g d6] ∧ la = max f b) ?_ ?_
    · intro R hR
      fail "rd"
      refine ite_d (fun h => ?_) (fun h => ?_)
      all_goals
        fail "rd"
        refine hR _ _ _ ?_ ?_ ⟨_, rfl, rfl, ?_⟩
        · fail "ex"
        · fail "dj"
        · omega
    rintro σ11 G11 M11 e11 D11 ⟨la, rfl, rfl, hla⟩
    refine w_cut D11 (fun σ G M => ∃ ea, σ = [some (.ref a), some (.ref m), some (.int f), some (.int l), some (.int b), some (.int e), some (.int kd), some (.ref x), some (.ref y), some (.int la), some (.int ea), none, none, none] ∧ M = [.drw m c g d6] ∧ ea = min l e) ?_ ?_
    · intro R hR
      fail "rd"
      refine ite_d (fun h => ?_) (fun h => ?_)
      all_goals
        fail "rd"
        refine hR _ _ _ ?_ ?_ ⟨_, rfl, rfl, ?_⟩
        · fail "ex"
        · fail "dj"
        · omega
    rintro σ12 G12 M12 e12 D12 ⟨ea, rfl, rfl, hea⟩
    refine w_cut D12 (fun σ G M => ∃ la ea, σ = [some (.ref a), some (.ref m), some (.int f), some (.int l), some (.int b), some (.int e), some (.int kd), some (.ref x), some (.ref y), some (.int la), some (.int ea), none, none, none] ∧ M = [.drw m c g d6] ∧ ∀ f3 l3, Nrm (max f2 b2) (min l2 e2) f3 l3 → Nrm la ea f3 l3) ?_ ?_
    · intro R hR
      unfold Nrm at hnr1 hnr2
      fail "rd"
      refine ite_d (fun h => ?_) (fun h => ?_)
      · fail "rd"
        refine hR _ _ _ ?_ ?_ ⟨_, _, rfl, rfl, ?_⟩
        · fail "ex"
        · fail "dj"
        · unfold Nrm
          omega
      · fail "rd"
        refine ite_d (fun h => ?_) (fun h => ?_)
        all_goals
          fail "rd"
          refine hR _ _ _ ?_ ?_ ⟨_, _, rfl, rfl, ?_⟩
          · fail "ex"
          · fail "dj"
          · unfold Nrm
            omega
    rintro σ13 G13 M13 e13 D13 ⟨la2, ea2, rfl, rfl, hN⟩
    have hN2 : ∀ f3 l3, Nrm (max b2 f2) (min e2 l2) f3 l3 → Nrm la2 ea2 f3 l3 := fun f3 l3 h => hN f3 l3 (by rw [Int.max_comm, Int.min_comm]; exact h)
    have hx := e13 _ _ (e12 _ _ (e11 _ _ hx))
    have hy := e13 _ _ (e12 _ _ (e11 _ _ hy))
    fail "ro"
    refine go_wand D13 hx hy fun z1 dz1 f3 l3 G14 e14 hn3 hz1 D14 => ?_
    fail "ro"
    refine go_holds D14 hz1 (hN _ _ hn3) fun G15 e15 D15 => ?_
    have hx := e15 _ _ (e14 _ _ hx)
    have hy := e15 _ _ (e14 _ _ hy)
    fail "ro"
    refine go_wand D15 hy hx fun z2 dz2 f4 l4 G16 e16 hn4 hz2 D16 => ?_
    fail "ro"
    refine go_holds D16 hz2 (hN2 _ _ hn4) fun G17 e17 D17 => ?_
    have hx := e17 _ _ (e16 _ _ hx)
    have hy := e17 _ _ (e16 _ _ hy)
    fail "ro"
    refine w_gR D17 (fun i σ G M => ∃ u v d, σ = [some (.ref a), some (.ref m), some (.int f), some (.int l), some (.int b), some (.int e), some (.int kd), some (.ref x), some (.ref y), some (.int la2), some (.int ea2), u, v, none] ∧ M = [.drw m c g d] ∧ OkD d ∧ d.n ≤ 1000 + 100 * i) ⟨none, none, d6, rfl, rfl, ok6, by omega⟩ ?_ ?_
    · rintro i σ' G' M' hi e D' ⟨u, v, d, rfl, rfl, ok, hn⟩
      unfold Nrm at hnr1 hnr2
      have hx := e _ _ hx
      have hy := e _ _ hy
      intro R E' hR
      fail "rd"
      fail "nl"
      fail "rd"
      rename_i L1 G18 e18 np18 hL1 D18 r6 G19 d19 hr60 hr61 e19 hn19 ok19 D19
      refine' w_ixI (ns := [_, _, f, l, b, _]) ?hL ?h0 ?h1 (fun r hr _ => ?_)
      case hL =>
        change SqL K _ _ [V.int _, V.int _, V.int f, V.int l, V.int b, V.int _]
        fail "fct"
      case h0 => omega
      case h1 =>
        show r6 < 6
        omega
      fail "rp"
      unfold Nrm at *
      fail "rp"
      refine hR _ _ _ ?_ ?_ ⟨_, _, _, rfl, rfl, ?_, ?_⟩
      · fail "ex"
      · fail "dj"
      · assumption
      · omega
    rintro σ18 G18 M18 e18 D18 ⟨u, v, d18, rfl, rfl, ok18, hn18⟩
    have hx := e18 _ _ hx
    have hy := e18 _ _ hy
    fail "rd"
    fail "nl"
    fail "rd"
    rename_i pt G19 e19 n19 ht1 D19 pl G20 e20 n20 ht2 D20 pd G21 e21 n21 ht3 D21 pv G22 e22 n22 hpv D22
    have hx := e22 _ _ (e21 _ _ (e20 _ _ (e19 _ _ hx)))
    have hy := e22 _ _ (e21 _ _ (e20 _ _ (e19 _ _ hy)))
    have kn : ∀ (G : Hp) (f l : Int), Ex G22 G → -1 < f → l < 2 ^ 40 → ∀ (i : Nat) (v : V), ([V.non, V.str "0", V.bl true, V.ref pt, V.ref pl, V.ref pd, V.int (-1), V.int 1000000000000000000000000000000000000000000000000000000000000] : List V)[i]? = some v → KBtw K G v f l false := by
      intro G f l e hf hl i v hv
      match i, hv with
      | 0, hv => cases hv; exact .inr ⟨.inr (.inr ⟨rfl, _, tx_non, kit_none_int⟩), rfl⟩
      | 1, hv => cases hv; exact .inr ⟨.inr (.inr ⟨rfl, _, tx_str, kit_str_int⟩), rfl⟩
      | 2, hv => cases hv; exact .inr ⟨.inr (.inl ⟨_, rfl, rfl⟩), rfl⟩
      | 3, hv => cases hv; exact .inr ⟨.inr (.inr ⟨rfl, _, tx_tup (e _ _ (e22 _ _ (e21 _ _ (e20 _ _ ht1)))), kit_tuple_int⟩), rfl⟩
      | 4, hv => cases hv; exact .inr ⟨.inr (.inr ⟨rfl, _, tx_lst (e _ _ (e22 _ _ (e21 _ _ ht2))), kit_list_int⟩), rfl⟩
      | 5, hv => cases hv; exact .inr ⟨.inr (.inr ⟨rfl, _, tx_dK (e _ _ (e22 _ _ ht3)), kit_dict_int⟩), rfl⟩
      | 6, hv => cases hv; exact .inl ⟨-1, rfl, (decide_eq_false (by omega)).symm⟩
      | 7, hv => cases hv; exact .inl ⟨_, rfl, (decide_eq_false (by omega)).symm⟩
      | n + 8, hv => cases hv
    refine w_gT (xs := [V.non, V.str "0", V.bl true, V.ref pt, V.ref pl, V.ref pd, V.int (-1), V.int 1000000000000000000000000000000000000000000000000000000000000]) D22 (fun i σ G M => ∃ u v w, σ = [some (.ref a), some (.ref m), some (.int f), some (.int l), some (.int b), some (.int e), some (.int kd), some (.ref x), some (.ref y), some (.int la2), some (.int ea2), u, v, w] ∧ M = [.drw m c g d18]) ⟨_, _, _, rfl, rfl⟩ ?_ ?_ ?_
    · rintro i σ' G' M' hi e D' ⟨u, v, w, rfl, rfl⟩
      exact sqt_of (D'.get (e _ _ hpv))
    · rintro i z σ' G' M' hz e D' ⟨u, v, w, rfl, rfl⟩ R E' hR
      unfold Nrm at hnr1 hnr2
      fail "ro"
      refine go_in D' (e _ _ hx) (kn G' f2 l2 e (by omega) (by omega) i z hz) fun G23 e23 D23 => ?_
      fail "ro"
      refine go_in D23 (e23 _ _ (e _ _ hy)) (kn G23 b2 e2 (e.trans e23) (by omega) (by omega) i z hz) fun G24 e24 D24 => ?_
      fail "ro"
      refine hR _ _ _ ?_ ?_ ⟨_, _, _, rfl, rfl⟩
      · fail "ex"
      · fail "dj"
    rintro σ25 G25 M25 e25 D25 ⟨u, v, w, rfl, rfl⟩
    have hx := e25 _ _ hx
    have hy := e25 _ _ hy
    fail "rd"
    refine' go_compared ?hD ?hp ?hq ?hx ?hy hnr1 hnr2 hf0 hb0 (fun G' e D => ?_)
    case hD => fail "dj"
    case hp => fail "fct"
    case hq => fail "fct"
    case hx => fail "fct"
    case hy => fail "fct"
    fail "rd"
    exact k _
end
/-! ### the text as the top has made it -/
theorem all_mk {l : PySem.W.OpenLaw} {w : World} {K : PySem.W.Frag} {h : Heap} {mg : Str → Option Value} {fa C_Window f__law_folded f__law_begun f__law_mixed f__law_draw f__law_big f__law_ends f_Window___init__ f__law_int f_Window_rounds f_Window___bool__ f__law_holds f_Window___and__ f_is_integer f_is_between f_Window___contains__ f__law_truth f_Window___le__ f_Window___ge__ f_Window___eq__ f__law_compared f_law : Addr} (X : K.In h) (G : h.Ns mainGlobals mg) (hfa : mg "law" = some (.ref fa))
    {od__law_folded an__law_folded od__law_begun an__law_begun od__law_mixed an__law_mixed od__law_draw an__law_draw od__law_big an__law_big od__law_ends an__law_ends od_Window___init__ an_Window___init__ od__law_int an__law_int od_Window_rounds an_Window_rounds od_Window___bool__ an_Window___bool__ od__law_holds an__law_holds od_Window___and__ an_Window___and__ od_is_integer an_is_integer od_is_between an_is_between od_Window___contains__ an_Window___contains__ od__law_truth an__law_truth od_Window___le__ an_Window___le__ od_Window___ge__ an_Window___ge__ od_Window___eq__ an_Window___eq__ od__law_compared an__law_compared od_law an_law : Option Addr} {sl__law_folded sl__law_begun sl__law_mixed sl__law_draw sl__law_big sl__law_ends sl_Window___init__ sl__law_int sl_Window_rounds sl_Window___bool__ sl__law_holds sl_Window___and__ sl_is_integer sl_is_between sl_Window___contains__ sl__law_truth sl_Window___le__ sl_Window___ge__ sl_Window___eq__ sl__law_compared sl_law : Array (Option Value)} {oc__law_folded kV__law_folded dc__law_folded pm__law_folded cd__law_folded ct__law_folded oc__law_begun kV__law_begun dc__law_begun pm__law_begun cd__law_begun ct__law_begun oc__law_mixed kV__law_mixed dc__law_mixed pm__law_mixed cd__law_mixed ct__law_mixed oc__law_draw kV__law_draw dc__law_draw pm__law_draw cd__law_draw ct__law_draw oc__law_big kV__law_big dc__law_big pm__law_big cd__law_big ct__law_big oc__law_ends kV__law_ends dc__law_ends pm__law_ends cd__law_ends ct__law_ends oc_Window___init__ kV_Window___init__ dc_Window___init__ pm_Window___init__ cd_Window___init__ ct_Window___init__ oc__law_int kV__law_int dc__law_int pm__law_int cd__law_int ct__law_int oc_Window_rounds kV_Window_rounds dc_Window_rounds pm_Window_rounds cd_Window_rounds ct_Window_rounds oc_Window___bool__ kV_Window___bool__ dc_Window___bool__ pm_Window___bool__ cd_Window___bool__ ct_Window___bool__ oc__law_holds kV__law_holds dc__law_holds pm__law_holds cd__law_holds ct__law_holds oc_Window___and__ kV_Window___and__ dc_Window___and__ pm_Window___and__ cd_Window___and__ ct_Window___and__ oc_is_integer kV_is_integer dc_is_integer pm_is_integer cd_is_integer ct_is_integer oc_is_between kV_is_between dc_is_between pm_is_between cd_is_between ct_is_between oc_Window___contains__ kV_Window___contains__ dc_Window___contains__ pm_Window___contains__ cd_Window___contains__ ct_Window___contains__ oc__law_truth kV__law_truth dc__law_truth pm__law_truth cd__law_truth ct__law_truth oc_Window___le__ kV_Window___le__ dc_Window___le__ pm_Window___le__ cd_Window___le__ ct_Window___le__ oc_Window___ge__ kV_Window___ge__ dc_Window___ge__ pm_Window___ge__ cd_Window___ge__ ct_Window___ge__ oc_Window___eq__ kV_Window___eq__ dc_Window___eq__ pm_Window___eq__ cd_Window___eq__ ct_Window___eq__ oc__law_compared kV__law_compared dc__law_compared pm__law_compared cd__law_compared ct__law_compared oc_law kV_law dc_law pm_law cd_law ct_law : Value}
    (a_Window : PySem.W.nsIn K mainGlobals "Window" = some (some (.ref C_Window)))
    (pg_Window : PySem.W.plainGet K C_Window Str.empty = true)
    (hd_Window : PySem.W.hasDictIn K C_Window = true)
    (po_Window : PySem.W.plainOver K C_Window = true)
    (sa_Window : PySem.W.findIn K (.ref C_Window) "__setattr__" = some (some (.builtin "object.__setattr__")))
    (no_Window_first : PySem.W.findIn K (.ref C_Window) "first" = some none)
    (no_Window_last : PySem.W.findIn K (.ref C_Window) "last" = some none)
    (ha_Window : PySem.W.findIn K (.ref C_Window) "__class__" = some (some (.builtin "object.__class__")))
    (hm_Window : PySem.W.mroIn K C_Window (.type "object") = some true)
    (sf_Window : PySem.W.selfFirst K C_Window = true)
    (ic_Window : PySem.W.isClsIn K C_Window = true)
    (ti_Window : PySem.W.typeIn K (.ref C_Window) = some (.type "type"))
    (s_Window_int : PySem.W.subIn K (.type "int") (.ref C_Window) = some false)
    (s_Window_bool : PySem.W.subIn K (.type "bool") (.ref C_Window) = some false)
    (s_Window_str : PySem.W.subIn K (.type "str") (.ref C_Window) = some false)
    (s_Window_list : PySem.W.subIn K (.type "list") (.ref C_Window) = some false)
    (s_Window_tuple : PySem.W.subIn K (.type "tuple") (.ref C_Window) = some false)
    (s_Window_dict : PySem.W.subIn K (.type "dict") (.ref C_Window) = some false)
    (s_Window_NoneType : PySem.W.subIn K (.type "NoneType") (.ref C_Window) = some false)
    (r_Window_int : PySem.W.subIn K (.ref C_Window) (.type "int") = some false)
    (r_Window_bool : PySem.W.subIn K (.ref C_Window) (.type "bool") = some false)
    (r_Window_str : PySem.W.subIn K (.ref C_Window) (.type "str") = some false)
    (r_Window_list : PySem.W.subIn K (.ref C_Window) (.type "list") = some false)
    (r_Window_tuple : PySem.W.subIn K (.ref C_Window) (.type "tuple") = some false)
    (r_Window_dict : PySem.W.subIn K (.ref C_Window) (.type "dict") = some false)
    (r_Window_NoneType : PySem.W.subIn K (.ref C_Window) (.type "NoneType") = some false)
    (ne_Window : PySem.W.findIn K (.ref C_Window) "__ne__" = some (some (.builtin "object.__ne__")))
    (mk_Window : PySem.W.makesIn K C_Window = true)
    (kc_Window : PySem.W.keepIn K (.ref C_Window) = true)
    (hn : PySem.W.specialIn K (.builtin "object.__class__") "__get__" = some (some (.builtin "getset_descriptor.__get__")))
    (htk : PySem.W.takesIn K (.builtin "object.__class__") = some true)
    (z_int : PySem.W.nsIn K mainGlobals "int" = some none)
    (z_len : PySem.W.nsIn K mainGlobals "len" = some none)
    (z_range : PySem.W.nsIn K mainGlobals "range" = some none)
    (z_isinstance : PySem.W.nsIn K mainGlobals "isinstance" = some none)
    (z_enumerate : PySem.W.nsIn K mainGlobals "enumerate" = some none)
    (z_zip : PySem.W.nsIn K mainGlobals "zip" = some none)
    (z_tuple : PySem.W.nsIn K mainGlobals "tuple" = some none)
    (z_list : PySem.W.nsIn K mainGlobals "list" = some none)
    (z_bool : PySem.W.nsIn K mainGlobals "bool" = some none)
    (z_str : PySem.W.nsIn K mainGlobals "str" = some none)
    (z_dict : PySem.W.nsIn K mainGlobals "dict" = some none)
    (z_abs : PySem.W.nsIn K mainGlobals "abs" = some none)
    (z_sum : PySem.W.nsIn K mainGlobals "sum" = some none)
    (z_all : PySem.W.nsIn K mainGlobals "all" = some none)
    (z_any : PySem.W.nsIn K mainGlobals "any" = some none)
    (z_divmod : PySem.W.nsIn K mainGlobals "divmod" = some none)
    (z_set : PySem.W.nsIn K mainGlobals "set" = some none)
    (z_super : PySem.W.nsIn K mainGlobals "super" = some none)
    (a__law_folded : PySem.W.nsIn K mainGlobals "_law_folded" = some (some (.ref f__law_folded)))
    (l__law_folded : K.lookup f__law_folded = some ⟨oc__law_folded, od__law_folded, .func (PySem.W.fnOf "_law_folded" "_law_folded" (defArgs s__law_folded) (defBody s__law_folded) (defScope s__law_folded) .none kV__law_folded dc__law_folded pm__law_folded an__law_folded cd__law_folded ct__law_folded), sl__law_folded⟩)
    (c__law_folded : PySem.W.codeIn K cd__law_folded "_law_folded" = true)
    (k__law_folded : PySem.W.keepIn K (.ref f__law_folded) = true)
    (a__law_begun : PySem.W.nsIn K mainGlobals "_law_begun" = some (some (.ref f__law_begun)))
    (l__law_begun : K.lookup f__law_begun = some ⟨oc__law_begun, od__law_begun, .func (PySem.W.fnOf "_law_begun" "_law_begun" (defArgs s__law_begun) (defBody s__law_begun) (defScope s__law_begun) .none kV__law_begun dc__law_begun pm__law_begun an__law_begun cd__law_begun ct__law_begun), sl__law_begun⟩)
    (c__law_begun : PySem.W.codeIn K cd__law_begun "_law_begun" = true)
    (k__law_begun : PySem.W.keepIn K (.ref f__law_begun) = true)
    (a__law_mixed : PySem.W.nsIn K mainGlobals "_law_mixed" = some (some (.ref f__law_mixed)))
    (l__law_mixed : K.lookup f__law_mixed = some ⟨oc__law_mixed, od__law_mixed, .func (PySem.W.fnOf "_law_mixed" "_law_mixed" (defArgs s__law_mixed) (defBody s__law_mixed) (defScope s__law_mixed) .none kV__law_mixed dc__law_mixed pm__law_mixed an__law_mixed cd__law_mixed ct__law_mixed), sl__law_mixed⟩)
    (c__law_mixed : PySem.W.codeIn K cd__law_mixed "_law_mixed" = true)
    (k__law_mixed : PySem.W.keepIn K (.ref f__law_mixed) = true)
    (a__law_draw : PySem.W.nsIn K mainGlobals "_law_draw" = some (some (.ref f__law_draw)))
    (l__law_draw : K.lookup f__law_draw = some ⟨oc__law_draw, od__law_draw, .func (PySem.W.fnOf "_law_draw" "_law_draw" (defArgs s__law_draw) (defBody s__law_draw) (defScope s__law_draw) .none kV__law_draw dc__law_draw pm__law_draw an__law_draw cd__law_draw ct__law_draw), sl__law_draw⟩)
    (c__law_draw : PySem.W.codeIn K cd__law_draw "_law_draw" = true)
    (k__law_draw : PySem.W.keepIn K (.ref f__law_draw) = true)
    (a__law_big : PySem.W.nsIn K mainGlobals "_law_big" = some (some (.ref f__law_big)))
    (l__law_big : K.lookup f__law_big = some ⟨oc__law_big, od__law_big, .func (PySem.W.fnOf "_law_big" "_law_big" (defArgs s__law_big) (defBody s__law_big) (defScope s__law_big) .none kV__law_big dc__law_big pm__law_big an__law_big cd__law_big ct__law_big), sl__law_big⟩)
    (c__law_big : PySem.W.codeIn K cd__law_big "_law_big" = true)
    (k__law_big : PySem.W.keepIn K (.ref f__law_big) = true)
    (a__law_ends : PySem.W.nsIn K mainGlobals "_law_ends" = some (some (.ref f__law_ends)))
    (l__law_ends : K.lookup f__law_ends = some ⟨oc__law_ends, od__law_ends, .func (PySem.W.fnOf "_law_ends" "_law_ends" (defArgs s__law_ends) (defBody s__law_ends) (defScope s__law_ends) .none kV__law_ends dc__law_ends pm__law_ends an__law_ends cd__law_ends ct__law_ends), sl__law_ends⟩)
    (c__law_ends : PySem.W.codeIn K cd__law_ends "_law_ends" = true)
    (k__law_ends : PySem.W.keepIn K (.ref f__law_ends) = true)
    (a_Window___init__ : PySem.W.findIn K (.ref C_Window) "__init__" = some (some (.ref f_Window___init__)))
    (i_Window___init__ : PySem.W.isFn K (.ref f_Window___init__) = true)
    (l_Window___init__ : K.lookup f_Window___init__ = some ⟨oc_Window___init__, od_Window___init__, .func (PySem.W.fnOf "__init__" "Window.__init__" (defArgs s_Window___init__) (defBody s_Window___init__) (defScope s_Window___init__) .none kV_Window___init__ dc_Window___init__ pm_Window___init__ an_Window___init__ cd_Window___init__ ct_Window___init__), sl_Window___init__⟩)
    (c_Window___init__ : PySem.W.codeIn K cd_Window___init__ "Window.__init__" = true)
    (k_Window___init__ : PySem.W.keepIn K (.ref f_Window___init__) = true)
    (a__law_int : PySem.W.nsIn K mainGlobals "_law_int" = some (some (.ref f__law_int)))
    (l__law_int : K.lookup f__law_int = some ⟨oc__law_int, od__law_int, .func (PySem.W.fnOf "_law_int" "_law_int" (defArgs s__law_int) (defBody s__law_int) (defScope s__law_int) .none kV__law_int dc__law_int pm__law_int an__law_int cd__law_int ct__law_int), sl__law_int⟩)
    (c__law_int : PySem.W.codeIn K cd__law_int "_law_int" = true)
    (k__law_int : PySem.W.keepIn K (.ref f__law_int) = true)
    (a_Window_rounds : PySem.W.findIn K (.ref C_Window) "rounds" = some (some (.ref f_Window_rounds)))
    (i_Window_rounds : PySem.W.isFn K (.ref f_Window_rounds) = true)
    (l_Window_rounds : K.lookup f_Window_rounds = some ⟨oc_Window_rounds, od_Window_rounds, .func (PySem.W.fnOf "rounds" "Window.rounds" (defArgs s_Window_rounds) (defBody s_Window_rounds) (defScope s_Window_rounds) .none kV_Window_rounds dc_Window_rounds pm_Window_rounds an_Window_rounds cd_Window_rounds ct_Window_rounds), sl_Window_rounds⟩)
    (c_Window_rounds : PySem.W.codeIn K cd_Window_rounds "Window.rounds" = true)
    (k_Window_rounds : PySem.W.keepIn K (.ref f_Window_rounds) = true)
    (a_Window___bool__ : PySem.W.findIn K (.ref C_Window) "__bool__" = some (some (.ref f_Window___bool__)))
    (i_Window___bool__ : PySem.W.isFn K (.ref f_Window___bool__) = true)
    (l_Window___bool__ : K.lookup f_Window___bool__ = some ⟨oc_Window___bool__, od_Window___bool__, .func (PySem.W.fnOf "__bool__" "Window.__bool__" (defArgs s_Window___bool__) (defBody s_Window___bool__) (defScope s_Window___bool__) .none kV_Window___bool__ dc_Window___bool__ pm_Window___bool__ an_Window___bool__ cd_Window___bool__ ct_Window___bool__), sl_Window___bool__⟩)
    (c_Window___bool__ : PySem.W.codeIn K cd_Window___bool__ "Window.__bool__" = true)
    (k_Window___bool__ : PySem.W.keepIn K (.ref f_Window___bool__) = true)
    (a__law_holds : PySem.W.nsIn K mainGlobals "_law_holds" = some (some (.ref f__law_holds)))
    (l__law_holds : K.lookup f__law_holds = some ⟨oc__law_holds, od__law_holds, .func (PySem.W.fnOf "_law_holds" "_law_holds" (defArgs s__law_holds) (defBody s__law_holds) (defScope s__law_holds) .none kV__law_holds dc__law_holds pm__law_holds an__law_holds cd__law_holds ct__law_holds), sl__law_holds⟩)
    (c__law_holds : PySem.W.codeIn K cd__law_holds "_law_holds" = true)
    (k__law_holds : PySem.W.keepIn K (.ref f__law_holds) = true)
    (a_Window___and__ : PySem.W.findIn K (.ref C_Window) "__and__" = some (some (.ref f_Window___and__)))
    (i_Window___and__ : PySem.W.isFn K (.ref f_Window___and__) = true)
    (l_Window___and__ : K.lookup f_Window___and__ = some ⟨oc_Window___and__, od_Window___and__, .func (PySem.W.fnOf "__and__" "Window.__and__" (defArgs s_Window___and__) (defBody s_Window___and__) (defScope s_Window___and__) .none kV_Window___and__ dc_Window___and__ pm_Window___and__ an_Window___and__ cd_Window___and__ ct_Window___and__), sl_Window___and__⟩)
    (c_Window___and__ : PySem.W.codeIn K cd_Window___and__ "Window.__and__" = true)
    (k_Window___and__ : PySem.W.keepIn K (.ref f_Window___and__) = true)
    (a_is_integer : PySem.W.nsIn K mainGlobals "is_integer" = some (some (.ref f_is_integer)))
    (l_is_integer : K.lookup f_is_integer = some ⟨oc_is_integer, od_is_integer, .func (PySem.W.fnOf "is_integer" "is_integer" (defArgs s_is_integer) (defBody s_is_integer) (defScope s_is_integer) .none kV_is_integer dc_is_integer pm_is_integer an_is_integer cd_is_integer ct_is_integer), sl_is_integer⟩)
    (c_is_integer : PySem.W.codeIn K cd_is_integer "is_integer" = true)
    (k_is_integer : PySem.W.keepIn K (.ref f_is_integer) = true)
    (a_is_between : PySem.W.nsIn K mainGlobals "is_between" = some (some (.ref f_is_between)))
    (l_is_between : K.lookup f_is_between = some ⟨oc_is_between, od_is_between, .func (PySem.W.fnOf "is_between" "is_between" (defArgs s_is_between) (defBody s_is_between) (defScope s_is_between) .none kV_is_between dc_is_between pm_is_between an_is_between cd_is_between ct_is_between), sl_is_between⟩)
    (c_is_between : PySem.W.codeIn K cd_is_between "is_between" = true)
    (k_is_between : PySem.W.keepIn K (.ref f_is_between) = true)
    (a_Window___contains__ : PySem.W.findIn K (.ref C_Window) "__contains__" = some (some (.ref f_Window___contains__)))
    (i_Window___contains__ : PySem.W.isFn K (.ref f_Window___contains__) = true)
    (l_Window___contains__ : K.lookup f_Window___contains__ = some ⟨oc_Window___contains__, od_Window___contains__, .func (PySem.W.fnOf "__contains__" "Window.__contains__" (defArgs s_Window___contains__) (defBody s_Window___contains__) (defScope s_Window___contains__) .none kV_Window___contains__ dc_Window___contains__ pm_Window___contains__ an_Window___contains__ cd_Window___contains__ ct_Window___contains__), sl_Window___contains__⟩)
    (c_Window___contains__ : PySem.W.codeIn K cd_Window___contains__ "Window.__contains__" = true)
    (k_Window___contains__ : PySem.W.keepIn K (.ref f_Window___contains__) = true)
    (a__law_truth : PySem.W.nsIn K mainGlobals "_law_truth" = some (some (.ref f__law_truth)))
    (l__law_truth : K.lookup f__law_truth = some ⟨oc__law_truth, od__law_truth, .func (PySem.W.fnOf "_law_truth" "_law_truth" (defArgs s__law_truth) (defBody s__law_truth) (defScope s__law_truth) .none kV__law_truth dc__law_truth pm__law_truth an__law_truth cd__law_truth ct__law_truth), sl__law_truth⟩)
    (c__law_truth : PySem.W.codeIn K cd__law_truth "_law_truth" = true)
    (k__law_truth : PySem.W.keepIn K (.ref f__law_truth) = true)
    (a_Window___le__ : PySem.W.findIn K (.ref C_Window) "__le__" = some (some (.ref f_Window___le__)))
    (i_Window___le__ : PySem.W.isFn K (.ref f_Window___le__) = true)
    (l_Window___le__ : K.lookup f_Window___le__ = some ⟨oc_Window___le__, od_Window___le__, .func (PySem.W.fnOf "__le__" "Window.__le__" (defArgs s_Window___le__) (defBody s_Window___le__) (defScope s_Window___le__) .none kV_Window___le__ dc_Window___le__ pm_Window___le__ an_Window___le__ cd_Window___le__ ct_Window___le__), sl_Window___le__⟩)
    (c_Window___le__ : PySem.W.codeIn K cd_Window___le__ "Window.__le__" = true)
    (k_Window___le__ : PySem.W.keepIn K (.ref f_Window___le__) = true)
    (a_Window___ge__ : PySem.W.findIn K (.ref C_Window) "__ge__" = some (some (.ref f_Window___ge__)))
    (i_Window___ge__ : PySem.W.isFn K (.ref f_Window___ge__) = true)
    (l_Window___ge__ : K.lookup f_Window___ge__ = some ⟨oc_Window___ge__, od_Window___ge__, .func (PySem.W.fnOf "__ge__" "Window.__ge__" (defArgs s_Window___ge__) (defBody s_Window___ge__) (defScope s_Window___ge__) .none kV_Window___ge__ dc_Window___ge__ pm_Window___ge__ an_Window___ge__ cd_Window___ge__ ct_Window___ge__), sl_Window___ge__⟩)
    (c_Window___ge__ : PySem.W.codeIn K cd_Window___ge__ "Window.__ge__" = true)
    (k_Window___ge__ : PySem.W.keepIn K (.ref f_Window___ge__) = true)
    (a_Window___eq__ : PySem.W.findIn K (.ref C_Window) "__eq__" = some (some (.ref f_Window___eq__)))
    (i_Window___eq__ : PySem.W.isFn K (.ref f_Window___eq__) = true)
    (l_Window___eq__ : K.lookup f_Window___eq__ = some ⟨oc_Window___eq__, od_Window___eq__, .func (PySem.W.fnOf "__eq__" "Window.__eq__" (defArgs s_Window___eq__) (defBody s_Window___eq__) (defScope s_Window___eq__) .none kV_Window___eq__ dc_Window___eq__ pm_Window___eq__ an_Window___eq__ cd_Window___eq__ ct_Window___eq__), sl_Window___eq__⟩)
    (c_Window___eq__ : PySem.W.codeIn K cd_Window___eq__ "Window.__eq__" = true)
    (k_Window___eq__ : PySem.W.keepIn K (.ref f_Window___eq__) = true)
    (a__law_compared : PySem.W.nsIn K mainGlobals "_law_compared" = some (some (.ref f__law_compared)))
    (l__law_compared : K.lookup f__law_compared = some ⟨oc__law_compared, od__law_compared, .func (PySem.W.fnOf "_law_compared" "_law_compared" (defArgs s__law_compared) (defBody s__law_compared) (defScope s__law_compared) .none kV__law_compared dc__law_compared pm__law_compared an__law_compared cd__law_compared ct__law_compared), sl__law_compared⟩)
    (c__law_compared : PySem.W.codeIn K cd__law_compared "_law_compared" = true)
    (k__law_compared : PySem.W.keepIn K (.ref f__law_compared) = true)
    (a_law : PySem.W.nsIn K mainGlobals "law" = some (some (.ref f_law)))
    (l_law : K.lookup f_law = some ⟨oc_law, od_law, .func (PySem.W.fnOf "law" "law" (defArgs s_law) (defBody s_law) (defScope s_law) .none kV_law dc_law pm_law an_law cd_law ct_law), sl_law⟩)
    (c_law : PySem.W.codeIn K cd_law "law" = true)
    (k_law : PySem.W.keepIn K (.ref f_law) = true)
    : ∃ fd : FuncData, (∀ (s : Shared) (v : Value), BindsTo s fd ⟨[v], []⟩ [("_law_script", v)]) ∧ ∀ base : Heap, K.In base → base.Ns mainGlobals mg → FnOk l.prog w K mg base CX0 5 fa fd ["_law_script"] (spLaw K) := by
  have e := hfa.symm.trans (PySem.W.mg_of X G a_law)
  cases e
  have T_Window : Cf K mg "Window" C_Window ["first", "last"] := cf_mk ⟨pg_Window, hd_Window, po_Window, sa_Window⟩ (PySem.W.mg_of X G a_Window) (List.forall_mem_cons.mpr ⟨no_Window_first, List.forall_mem_cons.mpr ⟨no_Window_last, fun _ h => by cases h⟩⟩) ha_Window hm_Window sf_Window ic_Window ti_Window s_Window_int s_Window_bool s_Window_str s_Window_list s_Window_tuple s_Window_dict s_Window_NoneType r_Window_int r_Window_bool r_Window_str r_Window_list r_Window_tuple r_Window_dict r_Window_NoneType
  have N : Gn K := ⟨hn, htk⟩
  have B : Bt mg := ⟨PySem.W.mg_none_of X G z_int, PySem.W.mg_none_of X G z_len, PySem.W.mg_none_of X G z_range, PySem.W.mg_none_of X G z_isinstance, PySem.W.mg_none_of X G z_enumerate, PySem.W.mg_none_of X G z_zip, PySem.W.mg_none_of X G z_tuple, PySem.W.mg_none_of X G z_list, PySem.W.mg_none_of X G z_bool, PySem.W.mg_none_of X G z_str, PySem.W.mg_none_of X G z_dict, PySem.W.mg_none_of X G z_abs, PySem.W.mg_none_of X G z_sum, PySem.W.mg_none_of X G z_all, PySem.W.mg_none_of X G z_any, PySem.W.mg_none_of X G z_divmod, PySem.W.mg_none_of X G z_set, PySem.W.mg_none_of X G z_super⟩
  have F__law_folded := fun_mk (st := s__law_folded) l__law_folded c__law_folded k__law_folded
  have b__law_folded := F__law_folded.binds (ps := ["_law_script"]) fun _ _ _ _ _ _ us hl => match us, hl with | [_], _ => rfl
  have F__law_begun := fun_mk (st := s__law_begun) l__law_begun c__law_begun k__law_begun
  have b__law_begun := F__law_begun.binds (ps := ["_law_script"]) fun _ _ _ _ _ _ us hl => match us, hl with | [_], _ => rfl
  have F__law_mixed := fun_mk (st := s__law_mixed) l__law_mixed c__law_mixed k__law_mixed
  have b__law_mixed := F__law_mixed.binds (ps := ["_law_cell", "_law_n"]) fun _ _ _ _ _ _ us hl => match us, hl with | [_, _], _ => rfl
  have F__law_draw := fun_mk (st := s__law_draw) l__law_draw c__law_draw k__law_draw
  have b__law_draw := F__law_draw.binds (ps := ["_law_m", "_law_limit"]) fun _ _ _ _ _ _ us hl => match us, hl with | [_, _], _ => rfl
  have F__law_big := fun_mk (st := s__law_big) l__law_big c__law_big k__law_big
  have b__law_big := F__law_big.binds (ps := ["_law_m", "_law_limit"]) fun _ _ _ _ _ _ us hl => match us, hl with | [_, _], _ => rfl
  have F__law_ends := fun_mk (st := s__law_ends) l__law_ends c__law_ends k__law_ends
  have b__law_ends := F__law_ends.binds (ps := ["_law_m"]) fun _ _ _ _ _ _ us hl => match us, hl with | [_], _ => rfl
  have F_Window___init__ := fun_mk (st := s_Window___init__) l_Window___init__ c_Window___init__ k_Window___init__
  have b_Window___init__ := F_Window___init__.binds (ps := ["self", "first", "last"]) fun _ _ _ _ _ _ us hl => match us, hl with | [_, _, _], _ => rfl
  have F__law_int := fun_mk (st := s__law_int) l__law_int c__law_int k__law_int
  have b__law_int := F__law_int.binds (ps := ["_law_told", "_law_due"]) fun _ _ _ _ _ _ us hl => match us, hl with | [_, _], _ => rfl
  have F_Window_rounds := fun_mk (st := s_Window_rounds) l_Window_rounds c_Window_rounds k_Window_rounds
  have b_Window_rounds := F_Window_rounds.binds (ps := ["self"]) fun _ _ _ _ _ _ us hl => match us, hl with | [_], _ => rfl
  have F_Window___bool__ := fun_mk (st := s_Window___bool__) l_Window___bool__ c_Window___bool__ k_Window___bool__
  have b_Window___bool__ := F_Window___bool__.binds (ps := ["self"]) fun _ _ _ _ _ _ us hl => match us, hl with | [_], _ => rfl
  have F__law_holds := fun_mk (st := s__law_holds) l__law_holds c__law_holds k__law_holds
  have b__law_holds := F__law_holds.binds (ps := ["_law_told", "_law_first", "_law_last"]) fun _ _ _ _ _ _ us hl => match us, hl with | [_, _, _], _ => rfl
  have F_Window___and__ := fun_mk (st := s_Window___and__) l_Window___and__ c_Window___and__ k_Window___and__
  have b_Window___and__ := F_Window___and__.binds (ps := ["self", "other"]) fun _ _ _ _ _ _ us hl => match us, hl with | [_, _], _ => rfl
  have F_is_integer := fun_mk (st := s_is_integer) l_is_integer c_is_integer k_is_integer
  have b_is_integer := F_is_integer.binds (ps := ["value"]) fun _ _ _ _ _ _ us hl => match us, hl with | [_], _ => rfl
  have F_is_between := fun_mk (st := s_is_between) l_is_between c_is_between k_is_between
  have b_is_between := F_is_between.binds (ps := ["value", "low", "high"]) fun _ _ _ _ _ _ us hl => match us, hl with | [_, _, _], _ => rfl
  have F_Window___contains__ := fun_mk (st := s_Window___contains__) l_Window___contains__ c_Window___contains__ k_Window___contains__
  have b_Window___contains__ := F_Window___contains__.binds (ps := ["self", "value"]) fun _ _ _ _ _ _ us hl => match us, hl with | [_, _], _ => rfl
  have F__law_truth := fun_mk (st := s__law_truth) l__law_truth c__law_truth k__law_truth
  have b__law_truth := F__law_truth.binds (ps := ["_law_told", "_law_due"]) fun _ _ _ _ _ _ us hl => match us, hl with | [_, _], _ => rfl
  have F_Window___le__ := fun_mk (st := s_Window___le__) l_Window___le__ c_Window___le__ k_Window___le__
  have b_Window___le__ := F_Window___le__.binds (ps := ["self", "other"]) fun _ _ _ _ _ _ us hl => match us, hl with | [_, _], _ => rfl
  have F_Window___ge__ := fun_mk (st := s_Window___ge__) l_Window___ge__ c_Window___ge__ k_Window___ge__
  have b_Window___ge__ := F_Window___ge__.binds (ps := ["self", "other"]) fun _ _ _ _ _ _ us hl => match us, hl with | [_, _], _ => rfl
  have F_Window___eq__ := fun_mk (st := s_Window___eq__) l_Window___eq__ c_Window___eq__ k_Window___eq__
  have b_Window___eq__ := F_Window___eq__.binds (ps := ["self", "other"]) fun _ _ _ _ _ _ us hl => match us, hl with | [_, _], _ => rfl
  have F__law_compared := fun_mk (st := s__law_compared) l__law_compared c__law_compared k__law_compared
  have b__law_compared := F__law_compared.binds (ps := ["_law_one", "_law_two", "_law_near", "_law_far"]) fun _ _ _ _ _ _ us hl => match us, hl with | [_, _, _, _], _ => rfl
  have F_law := fun_mk (st := s_law) l_law c_law k_law
  refine ⟨PySem.W.fnOf "law" "law" (defArgs s_law) (defBody s_law) (defScope s_law) .none kV_law dc_law pm_law an_law cd_law ct_law, fun s v => .of_eq rfl, fun base _ _ => ?_⟩
  have D__law_folded : Df l.prog w K mg base CX0 1 "_law_folded" (sp__law_folded K) := ⟨_, fnR0 (ok__law_folded (P := l.prog) (w := w) (base := base) F__law_folded N B) b__law_folded, PySem.W.mg_of X G a__law_folded, k__law_folded⟩
  have D__law_begun : Df l.prog w K mg base CX0 2 "_law_begun" (sp__law_begun K) := ⟨_, fnR0 (ok__law_begun (P := l.prog) (w := w) (base := base) F__law_begun N B D__law_folded) b__law_begun, PySem.W.mg_of X G a__law_begun, k__law_begun⟩
  have D__law_mixed : Df l.prog w K mg base CX0 1 "_law_mixed" (sp__law_mixed) := ⟨_, fnR0 (ok__law_mixed (P := l.prog) (w := w) (base := base) F__law_mixed N B) b__law_mixed, PySem.W.mg_of X G a__law_mixed, k__law_mixed⟩
  have D__law_draw : Df l.prog w K mg base CX0 2 "_law_draw" (sp__law_draw K) := ⟨_, fnR0 (ok__law_draw (P := l.prog) (w := w) (base := base) F__law_draw N B D__law_mixed) b__law_draw, PySem.W.mg_of X G a__law_draw, k__law_draw⟩
  have D__law_big : Df l.prog w K mg base CX0 3 "_law_big" (sp__law_big K) := ⟨_, fnR0 (ok__law_big (P := l.prog) (w := w) (base := base) F__law_big N B D__law_draw) b__law_big, PySem.W.mg_of X G a__law_big, k__law_big⟩
  have D__law_ends : Df l.prog w K mg base CX0 4 "_law_ends" (sp__law_ends K) := ⟨_, fnR0 (ok__law_ends (P := l.prog) (w := w) (base := base) F__law_ends N B D__law_draw D__law_big) b__law_ends, PySem.W.mg_of X G a__law_ends, k__law_ends⟩
  have D_Window : Ini l.prog w K mg base CX0 1 "Window" C_Window (sp_Window___init__ C_Window) := ⟨_, fnR0 (ok_Window___init__ (P := l.prog) (w := w) (base := base) F_Window___init__ N B T_Window) b_Window___init__, ⟨mk_Window, a_Window___init__, i_Window___init__, kc_Window⟩, PySem.W.mg_of X G a_Window⟩
  have D__law_int : Df l.prog w K mg base CX0 1 "_law_int" (sp__law_int K) := ⟨_, fnR0 (ok__law_int (P := l.prog) (w := w) (base := base) F__law_int N B) b__law_int, PySem.W.mg_of X G a__law_int, k__law_int⟩
  have D_Window_rounds : Mt l.prog w K mg base CX0 1 C_Window "rounds" (sp_Window_rounds C_Window) := ⟨_, fnR0 (ok_Window_rounds (P := l.prog) (w := w) (base := base) F_Window_rounds N B T_Window) b_Window_rounds, ⟨a_Window_rounds, i_Window_rounds, k_Window_rounds⟩, fnIn_of l_Window_rounds⟩
  have D_Window___bool__ : Mt l.prog w K mg base CX0 1 C_Window "__bool__" (sp_Window___bool__ C_Window) := ⟨_, fnR0 (ok_Window___bool__ (P := l.prog) (w := w) (base := base) F_Window___bool__ N B T_Window) b_Window___bool__, ⟨a_Window___bool__, i_Window___bool__, k_Window___bool__⟩, fnIn_of l_Window___bool__⟩
  have D__law_holds : Df l.prog w K mg base CX0 4 "_law_holds" (sp__law_holds C_Window) := ⟨_, fnR0 (ok__law_holds (P := l.prog) (w := w) (base := base) F__law_holds N B T_Window D__law_int D_Window_rounds D_Window___bool__) b__law_holds, PySem.W.mg_of X G a__law_holds, k__law_holds⟩
  have D_Window___and__ : Mt l.prog w K mg base CX0 3 C_Window "__and__" (sp_Window___and__ C_Window) := ⟨_, fnR0 (ok_Window___and__ (P := l.prog) (w := w) (base := base) F_Window___and__ N B T_Window D_Window) b_Window___and__, ⟨a_Window___and__, i_Window___and__, k_Window___and__⟩, fnIn_of l_Window___and__⟩
  have D_is_integer : Df l.prog w K mg base CX0 1 "is_integer" (sp_is_integer K) := ⟨_, fnR0 (ok_is_integer (P := l.prog) (w := w) (base := base) F_is_integer N B) b_is_integer, PySem.W.mg_of X G a_is_integer, k_is_integer⟩
  have D_is_between : Df l.prog w K mg base CX0 2 "is_between" (sp_is_between K) := ⟨_, fnR0 (ok_is_between (P := l.prog) (w := w) (base := base) F_is_between N B D_is_integer) b_is_between, PySem.W.mg_of X G a_is_between, k_is_between⟩
  have D_Window___contains__ : Mt l.prog w K mg base CX0 3 C_Window "__contains__" (sp_Window___contains__ K C_Window) := ⟨_, fnR0 (ok_Window___contains__ (P := l.prog) (w := w) (base := base) F_Window___contains__ N B T_Window D_is_between) b_Window___contains__, ⟨a_Window___contains__, i_Window___contains__, k_Window___contains__⟩, fnIn_of l_Window___contains__⟩
  have D__law_truth : Df l.prog w K mg base CX0 1 "_law_truth" (sp__law_truth) := ⟨_, fnR0 (ok__law_truth (P := l.prog) (w := w) (base := base) F__law_truth N B) b__law_truth, PySem.W.mg_of X G a__law_truth, k__law_truth⟩
  have D_Window___le__ : Mt l.prog w K mg base CX0 1 C_Window "__le__" (sp_Window___le__ C_Window) := ⟨_, fnR0 (ok_Window___le__ (P := l.prog) (w := w) (base := base) F_Window___le__ N B T_Window) b_Window___le__, ⟨a_Window___le__, i_Window___le__, k_Window___le__⟩, fnIn_of l_Window___le__⟩
  have D_Window___ge__ : Mt l.prog w K mg base CX0 1 C_Window "__ge__" (sp_Window___ge__ C_Window) := ⟨_, fnR0 (ok_Window___ge__ (P := l.prog) (w := w) (base := base) F_Window___ge__ N B T_Window) b_Window___ge__, ⟨a_Window___ge__, i_Window___ge__, k_Window___ge__⟩, fnIn_of l_Window___ge__⟩
  have D_Window___eq__ : Mt l.prog w K mg base CX0 1 C_Window "__eq__" (sp_Window___eq__ K C_Window) := ⟨_, fnR0 (ok_Window___eq__ (P := l.prog) (w := w) (base := base) F_Window___eq__ N B T_Window) b_Window___eq__, ⟨a_Window___eq__, i_Window___eq__, k_Window___eq__⟩, fnIn_of l_Window___eq__⟩
  have D__law_compared : Df l.prog w K mg base CX0 3 "_law_compared" (sp__law_compared C_Window) := ⟨_, fnR0 (ok__law_compared (P := l.prog) (w := w) (base := base) F__law_compared N B T_Window ne_Window D__law_truth D_Window___le__ D_Window___ge__ D_Window___eq__) b__law_compared, PySem.W.mg_of X G a__law_compared, k__law_compared⟩
  exact ok_law (P := l.prog) (w := w) (base := base) F_law N B T_Window D__law_begun D__law_ends D__law_draw D_Window D__law_holds D_Window___and__ D__law_big D_Window___contains__ D__law_compared
theorem walkL {l : PySem.W.OpenLaw} {q : Program} {loose : List Str} {XP : (Str → Option Value) → Heap → Prop} {YP : World → Heap → Prop} {d : DefRec} {K : Params → PySem.W.Frag} (hn : l.most = some 63) (hdf : d.params.defaults = [])
    (hY : ∀ (w : World) (h : Heap), YP w h → (K w.params).In h)
    (F : ∀ (w : World) (mg : Str → Option Value) (fa : Addr) (h : Heap), (K w.params).In h → h.Ns mainGlobals mg → mg d.name = some (.ref fa) →
      ∃ fd : FuncData, (∀ (s : Shared) (u : Value), BindsTo s fd ⟨[u], []⟩ [("_law_script", u)]) ∧ ∀ base : Heap, (K w.params).In base → base.Ns mainGlobals mg → FnOk l.prog w (K w.params) mg base CX0 5 fa fd ["_law_script"] (spLaw (K w.params))) :
    PySem.W.WalkO q loose XP YP l.row.toRowW d [] (fun f vs => PySem.call f vs) :=
  L2.walk_of (n := 63) (k := 5) (x := "_law_script") (CX := fun _ => CX0) (sp := fun w => spLaw (K w.params)) hn (by decide) hdf ⟨rfl, by decide, by decide⟩ hY F (fun _ _ a ns hl _ hS => ⟨a, ns, rfl, hS, hl, fun _ => rfl⟩) fun _ _ _ _ _ z => z
end Td
open PySem PySem.W PyProof.Rows
set_option maxRecDepth 100000 in
set_option maxHeartbeats 0 in
theorem PySem.Challenge.cw_turndues_k18_windows_as_sets_holds : PySem.Challenge.rw_turndues_k18_windows_as_sets.Holds := by
  w_on; o_law; k_head; (case hw => w_witness2)
  k_fill
  refine Td.walkL (l := PySem.Challenge.rw_turndues_k18_windows_as_sets) rfl rfl (fun w h Y => PySem.W.kIn_of Y) ?F
  case F =>
    intro w mg fa h KX G hmg
    refine' Td.all_mk KX G hmg ?a_Window ?pg_Window ?hd_Window ?po_Window ?sa_Window ?no_Window_first ?no_Window_last ?ha_Window ?hm_Window ?sf_Window ?ic_Window ?ti_Window ?s_Window_int ?s_Window_bool ?s_Window_str ?s_Window_list ?s_Window_tuple ?s_Window_dict ?s_Window_NoneType ?r_Window_int ?r_Window_bool ?r_Window_str ?r_Window_list ?r_Window_tuple ?r_Window_dict ?r_Window_NoneType ?ne_Window ?mk_Window ?kc_Window ?hn ?htk ?z_int ?z_len ?z_range ?z_isinstance ?z_enumerate ?z_zip ?z_tuple ?z_list ?z_bool ?z_str ?z_dict ?z_abs ?z_sum ?z_all ?z_any ?z_divmod ?z_set ?z_super ?a__law_folded ?l__law_folded ?c__law_folded ?k__law_folded ?a__law_begun ?l__law_begun ?c__law_begun ?k__law_begun ?a__law_mixed ?l__law_mixed ?c__law_mixed ?k__law_mixed ?a__law_draw ?l__law_draw ?c__law_draw ?k__law_draw ?a__law_big ?l__law_big ?c__law_big ?k__law_big ?a__law_ends ?l__law_ends ?c__law_ends ?k__law_ends ?a_Window___init__ ?i_Window___init__ ?l_Window___init__ ?c_Window___init__ ?k_Window___init__ ?a__law_int ?l__law_int ?c__law_int ?k__law_int ?a_Window_rounds ?i_Window_rounds ?l_Window_rounds ?c_Window_rounds ?k_Window_rounds ?a_Window___bool__ ?i_Window___bool__ ?l_Window___bool__ ?c_Window___bool__ ?k_Window___bool__ ?a__law_holds ?l__law_holds ?c__law_holds ?k__law_holds ?a_Window___and__ ?i_Window___and__ ?l_Window___and__ ?c_Window___and__ ?k_Window___and__ ?a_is_integer ?l_is_integer ?c_is_integer ?k_is_integer ?a_is_between ?l_is_between ?c_is_between ?k_is_between ?a_Window___contains__ ?i_Window___contains__ ?l_Window___contains__ ?c_Window___contains__ ?k_Window___contains__ ?a__law_truth ?l__law_truth ?c__law_truth ?k__law_truth ?a_Window___le__ ?i_Window___le__ ?l_Window___le__ ?c_Window___le__ ?k_Window___le__ ?a_Window___ge__ ?i_Window___ge__ ?l_Window___ge__ ?c_Window___ge__ ?k_Window___ge__ ?a_Window___eq__ ?i_Window___eq__ ?l_Window___eq__ ?c_Window___eq__ ?k_Window___eq__ ?a__law_compared ?l__law_compared ?c__law_compared ?k__law_compared ?a_law ?l_law ?c_law ?k_law
    (case a_Window => k_is)
    (case pg_Window => k_is)
    (case hd_Window => k_is)
    (case po_Window => k_is)
    (case sa_Window => k_is)
    (case no_Window_first => k_is)
    (case no_Window_last => k_is)
    (case ha_Window => k_is)
    (case hm_Window => k_is)
    (case sf_Window => k_is)
    (case ic_Window => k_is)
    (case ti_Window => k_is)
    (case s_Window_int => k_is)
    (case s_Window_bool => k_is)
    (case s_Window_str => k_is)
    (case s_Window_list => k_is)
    (case s_Window_tuple => k_is)
    (case s_Window_dict => k_is)
    (case s_Window_NoneType => k_is)
    (case r_Window_int => k_is)
    (case r_Window_bool => k_is)
    (case r_Window_str => k_is)
    (case r_Window_list => k_is)
    (case r_Window_tuple => k_is)
    (case r_Window_dict => k_is)
    (case r_Window_NoneType => k_is)
    (case ne_Window => k_is)
    (case mk_Window => k_is)
    (case kc_Window => k_is)
    (case hn => k_is)
    (case htk => k_is)
    (case z_int => k_is)
    (case z_len => k_is)
    (case z_range => k_is)
    (case z_isinstance => k_is)
    (case z_enumerate => k_is)
    (case z_zip => k_is)
    (case z_tuple => k_is)
    (case z_list => k_is)
    (case z_bool => k_is)
    (case z_str => k_is)
    (case z_dict => k_is)
    (case z_abs => k_is)
    (case z_sum => k_is)
    (case z_all => k_is)
    (case z_any => k_is)
    (case z_divmod => k_is)
    (case z_set => k_is)
    (case z_super => k_is)
    (case a__law_folded => k_is)
    (case l__law_folded => k_is)
    (case c__law_folded => k_is)
    (case k__law_folded => k_is)
    (case a__law_begun => k_is)
    (case l__law_begun => k_is)
    (case c__law_begun => k_is)
    (case k__law_begun => k_is)
    (case a__law_mixed => k_is)
    (case l__law_mixed => k_is)
    (case c__law_mixed => k_is)
    (case k__law_mixed => k_is)
    (case a__law_draw => k_is)
    (case l__law_draw => k_is)
    (case c__law_draw => k_is)
    (case k__law_draw => k_is)
    (case a__law_big => k_is)
    (case l__law_big => k_is)
    (case c__law_big => k_is)
    (case k__law_big => k_is)
    (case a__law_ends => k_is)
    (case l__law_ends => k_is)
    (case c__law_ends => k_is)
    (case k__law_ends => k_is)
    (case a_Window___init__ => k_is)
    (case i_Window___init__ => k_is)
    (case l_Window___init__ => k_is)
    (case c_Window___init__ => k_is)
    (case k_Window___init__ => k_is)
    (case a__law_int => k_is)
    (case l__law_int => k_is)
    (case c__law_int => k_is)
    (case k__law_int => k_is)
    (case a_Window_rounds => k_is)
    (case i_Window_rounds => k_is)
    (case l_Window_rounds => k_is)
    (case c_Window_rounds => k_is)
    (case k_Window_rounds => k_is)
    (case a_Window___bool__ => k_is)
    (case i_Window___bool__ => k_is)
    (case l_Window___bool__ => k_is)
    (case c_Window___bool__ => k_is)
    (case k_Window___bool__ => k_is)
    (case a__law_holds => k_is)
    (case l__law_holds => k_is)
    (case c__law_holds => k_is)
    (case k__law_holds => k_is)
    (case a_Window___and__ => k_is)
    (case i_Window___and__ => k_is)
    (case l_Window___and__ => k_is)
    (case c_Window___and__ => k_is)
    (case k_Window___and__ => k_is)
    (case a_is_integer => k_is)
    (case l_is_integer => k_is)
    (case c_is_integer => k_is)
    (case k_is_integer => k_is)
    (case a_is_between => k_is)
    (case l_is_between => k_is)
    (case c_is_between => k_is)
    (case k_is_between => k_is)
    (case a_Window___contains__ => k_is)
    (case i_Window___contains__ => k_is)
    (case l_Window___contains__ => k_is)
    (case c_Window___contains__ => k_is)
    (case k_Window___contains__ => k_is)
    (case a__law_truth => k_is)
    (case l__law_truth => k_is)
    (case c__law_truth => k_is)
    (case k__law_truth => k_is)
    (case a_Window___le__ => k_is)
    (case i_Window___le__ => k_is)
    (case l_Window___le__ => k_is)
    (case c_Window___le__ => k_is)
    (case k_Window___le__ => k_is)
    (case a_Window___ge__ => k_is)
    (case i_Window___ge__ => k_is)
    (case l_Window___ge__ => k_is)
    (case c_Window___ge__ => k_is)
    (case k_Window___ge__ => k_is)
    (case a_Window___eq__ => k_is)
    (case i_Window___eq__ => k_is)
    (case l_Window___eq__ => k_is)
    (case c_Window___eq__ => k_is)
    (case k_Window___eq__ => k_is)
    (case a__law_compared => k_is)
    (case l__law_compared => k_is)
    (case c__law_compared => k_is)
    (case k__law_compared => k_is)
    (case a_law => k_is)
    (case l_law => k_is)
    (case c_law => k_is)
    (case k_law => k_is)
