import PyProof.Rows.All
import Wide.All
import OpenK.AllK
import Wide.FinOn
import HandS.ForMost
import HandS.IsInst
import HandS.Wide
import HandS.Exc
import HandS.WordsExc
import HandS.EndBits
import HandS.Flow
import HandS.TupLe
import HandS.TupAny
import HandS.RaiseMore
import HandS.Style
import PySem.Challenge.RW_pagefates_k02_rows_and_integers
set_option Elab.async false
set_option linter.all false
set_option maxRecDepth 100000
set_option maxHeartbeats 4000000
namespace Gd
open PySem L2

/-! ### data -/
inductive D where
  | non | bl (b : Bool) | int (i : Int) | str (x : Str)
  | lst (ds : List D) | tup (ds : List D)
  | dic (ks : List Key) (ds : List D)
  | ins (c : Nat) (ns : List Str) (ds : List D)
  | box (i : Nat)
  | scr (ns : List Int)
abbrev Pi := Nat → Option Addr
structure Gm where
  K : PySem.W.Frag
  cl : Nat → Addr
mutual
inductive Den (g : Gm) (π : Pi) (G : Hp) : D → V → Prop
  | non : Den g π G .non .non
  | bl (b : Bool) : Den g π G (.bl b) (.bl b)
  | int (i : Int) : Den g π G (.int i) (.int i)
  | str (x : Str) : Den g π G (.str x) (.str x)
  | lst {a : Addr} {xs : List V} {ds : List D} : G a = some (.lst xs) → DenL g π G ds xs → Den g π G (.lst ds) (.ref a)
  | tup {a : Addr} {xs : List V} {ds : List D} : SqT g.K G a xs → DenL g π G ds xs → Den g π G (.tup ds) (.ref a)
  | dic {a : Addr} {kvs : List (Key × V)} {ks : List Key} {xs : List V} {ds : List D} : G a = some (.dK kvs) → kvs.map (·.1) = ks → kvs.map (·.2) = xs → DenL g π G ds xs → Den g π G (.dic ks ds) (.ref a)
  | ins {a dx : Addr} {fs : List (Str × V)} {c : Nat} {ns : List Str} {xs : List V} {ds : List D} : G a = some (.ins (g.cl c) dx fs) → fs.map (·.1) = ns → fs.map (·.2) = xs → DenL g π G ds xs → Den g π G (.ins c ns ds) (.ref a)
  | box {i : Nat} {a : Addr} : π i = some a → Den g π G (.box i) (.ref a)
  | scr {a : Addr} {ns : List Int} : SqL g.K G a (ns.map V.int) → ns.length ≤ 63 → Den g π G (.scr ns) (.ref a)
inductive DenL (g : Gm) (π : Pi) (G : Hp) : List D → List V → Prop
  | nil : DenL g π G [] []
  | cons {d : D} {ds : List D} {v : V} {vs : List V} : Den g π G d v → DenL g π G ds vs → DenL g π G (d :: ds) (v :: vs)
end
def Sub (π π' : Pi) : Prop := ∀ i a, π i = some a → π' i = some a
theorem Sub.refl (π : Pi) : Sub π π := fun _ _ h => h
theorem Sub.trans {a b c : Pi} (h : Sub a b) (k : Sub b c) : Sub a c := fun i x e => k i x (h i x e)
theorem seqT {K : PySem.W.Frag} {H H' : Hp} {a : Addr} {xs : List V} (e : Same H H') (h : SqT K H a xs) : SqT K H' a xs := by
  rcases h with (h | ⟨o, h⟩) | h
  · exact .inl (.inl (e _ _ h))
  · exact .inl (.inr ⟨o, e _ _ h⟩)
  · exact .inr h
mutual
theorem Den.mono {g : Gm} {π π' : Pi} {G G' : Hp} (s : Same G G') (p : Sub π π') : ∀ {d : D} {v : V}, Den g π G d v → Den g π' G' d v
  | _, _, .non => .non
  | _, _, .bl b => .bl b
  | _, _, .int i => .int i
  | _, _, .str x => .str x
  | _, _, .lst h l => .lst (s _ _ h) (DenL.mono s p l)
  | _, _, .tup h l => .tup (seqT s h) (DenL.mono s p l)
  | _, _, .dic h e e2 l => .dic (s _ _ h) e e2 (DenL.mono s p l)
  | _, _, .ins h e e2 l => .ins (s _ _ h) e e2 (DenL.mono s p l)
  | _, _, .box h => .box (p _ _ h)
  | _, _, .scr h l => .scr (s.seq h) l
theorem DenL.mono {g : Gm} {π π' : Pi} {G G' : Hp} (s : Same G G') (p : Sub π π') : ∀ {ds : List D} {vs : List V}, DenL g π G ds vs → DenL g π' G' ds vs
  | _, _, .nil => .nil
  | _, _, .cons h t => .cons (Den.mono s p h) (DenL.mono s p t)
end
theorem DenL.length {g : Gm} {π : Pi} {G : Hp} : ∀ {ds : List D} {vs : List V}, DenL g π G ds vs → vs.length = ds.length
  | _, _, .nil => rfl
  | _, _, .cons _ t => by rw [List.length_cons, List.length_cons, DenL.length t]
theorem DenL.get {g : Gm} {π : Pi} {G : Hp} : ∀ {ds : List D} {vs : List V} {i : Nat} {d : D}, DenL g π G ds vs → ds[i]? = some d → ∃ v, vs[i]? = some v ∧ Den g π G d v
  | _, _, _, _, .nil, e => by simp at e
  | _, _, 0, _, .cons h _, e => by simp at e; subst e; exact ⟨_, rfl, h⟩
  | _, _, i + 1, d, .cons _ t, e => by
    obtain ⟨v, h1, h2⟩ := DenL.get (i := i) (d := d) t (by simpa using e)
    exact ⟨v, by simpa using h1, h2⟩
theorem DenL.getV {g : Gm} {π : Pi} {G : Hp} : ∀ {ds : List D} {vs : List V} {i : Nat} {v : V}, DenL g π G ds vs → vs[i]? = some v → ∃ d, ds[i]? = some d ∧ Den g π G d v
  | _, _, _, _, .nil, e => by simp at e
  | _, _, 0, _, .cons h _, e => by simp at e; subst e; exact ⟨_, rfl, h⟩
  | _, _, i + 1, v, .cons _ t, e => by
    obtain ⟨d, h1, h2⟩ := DenL.getV (i := i) (v := v) t (by simpa using e)
    exact ⟨d, by simpa using h1, h2⟩
theorem DenL.append {g : Gm} {π : Pi} {G : Hp} : ∀ {ds es : List D} {vs us : List V}, DenL g π G ds vs → DenL g π G es us → DenL g π G (ds ++ es) (vs ++ us)
  | _, _, _, _, .nil, s => s
  | _, _, _, _, .cons r t, s => .cons r (DenL.append t s)
theorem DenL.take {g : Gm} {π : Pi} {G : Hp} : ∀ {ds : List D} {vs : List V} (n : Nat), DenL g π G ds vs → DenL g π G (ds.take n) (vs.take n)
  | _, _, 0, _ => .nil
  | _, _, _ + 1, .nil => .nil
  | _, _, n + 1, .cons r t => .cons r (DenL.take n t)
theorem DenL.drop {g : Gm} {π : Pi} {G : Hp} : ∀ {ds : List D} {vs : List V} (n : Nat), DenL g π G ds vs → DenL g π G (ds.drop n) (vs.drop n)
  | _, _, 0, r => r
  | _, _, _ + 1, .nil => .nil
  | _, _, n + 1, .cons _ t => DenL.drop n t
theorem DenL.set {g : Gm} {π : Pi} {G : Hp} {d : D} {v : V} (r : Den g π G d v) : ∀ {ds : List D} {vs : List V} (i : Nat), DenL g π G ds vs → DenL g π G (ds.set i d) (vs.set i v)
  | _, _, _, .nil => .nil
  | _, _, 0, .cons _ t => .cons r t
  | _, _, i + 1, .cons q t => .cons q (DenL.set r i t)
theorem DenL.ints {g : Gm} {π : Pi} {G : Hp} : ∀ (ns : List Int), DenL g π G (ns.map D.int) (ns.map V.int)
  | [] => .nil
  | n :: r => .cons (.int n) (DenL.ints r)
theorem DenL.one {g : Gm} {π : Pi} {G : Hp} {d : D} {v : V} (h : Den g π G d v) : DenL g π G [d] [v] := .cons h .nil

/-! ### the boxes: objects that may be changed -/
inductive Bx where
  | lst (ds : List D) | dic (ks : List Key) (ds : List D) | ins (c : Nat) (ns : List Str) (ds : List D) | bag
abbrev W := List (Option Bx)
def BxAt (g : Gm) (π : Pi) (G H : Hp) (a : Addr) : Bx → Prop
  | .lst ds => ∃ xs, H a = some (.lst xs) ∧ DenL g π G ds xs
  | .dic ks ds => ∃ kvs, H a = some (.dK kvs) ∧ kvs.map (·.1) = ks ∧ DenL g π G ds (kvs.map (·.2))
  | .ins c ns ds => ∃ dx fs, H a = some (.ins (g.cl c) dx fs) ∧ fs.map (·.1) = ns ∧ DenL g π G ds (fs.map (·.2))
  | .bag => ∃ (l : Addr) (ns : List Int) (i z s n : Int), H a = some (.lst [.ref l, .int i, .int z, .int s, .int n]) ∧ G l = some (.lst (ns.map .int)) ∧ ns.length ≤ 63 ∧ 0 ≤ i ∧ 0 ≤ z ∧ 0 ≤ s ∧ s < 2147483587

structure RW (g : Gm) (π : Pi) (w : W) (G F H : Hp) : Prop where
  sub : Same G H
  fr : Same F H
  fg : ∀ a o, F a = some o → G a = none
  live : ∀ (i : Nat) b, w[i]? = some (some b) → ∃ a, π i = some a ∧ G a = none ∧ F a = none ∧ BxAt g π G H a b
  inj : ∀ (i j : Nat) a b b', w[i]? = some (some b) → w[j]? = some (some b') → π i = some a → π j = some a → i = j
  dom : ∀ i, w.length ≤ i → π i = none
theorem BxAt.mono {g : Gm} {π π' : Pi} {G G' H H' : Hp} {a : Addr} {b : Bx} (h : BxAt g π G H a b) (s : Same G G') (p : Sub π π') (e : H' a = H a) : BxAt g π' G' H' a b := by
  cases b with
  | lst ds => obtain ⟨xs, h1, h2⟩ := h; exact ⟨xs, by rw [e, h1], h2.mono s p⟩
  | dic ks ds => obtain ⟨xs, h1, h2, h3⟩ := h; exact ⟨xs, by rw [e, h1], h2, h3.mono s p⟩
  | ins c ns ds => obtain ⟨dx, xs, h1, h2, h3⟩ := h; exact ⟨dx, xs, by rw [e, h1], h2, h3.mono s p⟩
  | bag => obtain ⟨l, ns, i, z, s', n, h1, h2, h3⟩ := h; exact ⟨l, ns, i, z, s', n, by rw [e, h1], s _ _ h2, h3⟩
theorem BxAt.some {g : Gm} {π : Pi} {G H : Hp} {a : Addr} {b : Bx} (h : BxAt g π G H a b) : ∃ o, H a = Option.some o := by
  cases b with
  | lst ds => obtain ⟨xs, h1, h2⟩ := h; exact ⟨_, h1⟩
  | dic ks ds => obtain ⟨xs, h1, h2, h3⟩ := h; exact ⟨_, h1⟩
  | ins c ns ds => obtain ⟨dx, xs, h1, h2, h3⟩ := h; exact ⟨_, h1⟩
  | bag => obtain ⟨l, ns, i, z, s', n, h1, h2, h3⟩ := h; exact ⟨_, h1⟩
section
variable {g : Gm} {π : Pi} {w : W} {G F H : Hp}
theorem same_new {H : Hp} {p : Addr} (h : H p = none) (o : HO) : Same H (upd H p o) := fun b u q => by rw [upd_ne (ne_of_none q h)]; exact q
theorem RW.free (r : RW g π w G F H) {p : Addr} (h : H p = none) : G p = none := r.sub.free h
theorem RW.freeF (r : RW g π w G F H) {p : Addr} (h : H p = none) : F p = none := r.fr.free h
/-- a new thing that is never changed -/
theorem RW.lay (r : RW g π w G F H) {p : Addr} (h : H p = none) (o : HO) : RW g π w (upd G p o) F (upd H p o) where
  sub := fun b u q => by
    by_cases e : b = p
    · subst e; rw [upd_same] at q ⊢; exact q
    · rw [upd_ne e] at q ⊢; exact r.sub b u q
  fr := fun b u q => by rw [upd_ne (ne_of_none (r.fr b u q) h)]; exact r.fr b u q
  fg := fun a u q => by rw [upd_ne (ne_of_none (r.fr a u q) h)]; exact r.fg a u q
  live := fun i b e => by
    obtain ⟨a, h1, h2, hf, h3⟩ := r.live i b e
    obtain ⟨o', h4⟩ := h3.some
    have n : a ≠ p := ne_of_none h4 h
    exact ⟨a, h1, by rw [upd_ne n]; exact h2, hf, h3.mono (same_new (r.free h) o) (Sub.refl π) (upd_ne n)⟩
  inj := r.inj
  dom := r.dom
/-- a thing beside: tracked, never asked for -/
theorem RW.aside (r : RW g π w G F H) {p : Addr} (h : H p = none) (o : HO) : RW g π w G F (upd H p o) where
  sub := fun b u q => by rw [upd_ne (ne_of_none (r.sub b u q) h)]; exact r.sub b u q
  fr := fun b u q => by rw [upd_ne (ne_of_none (r.fr b u q) h)]; exact r.fr b u q
  fg := r.fg
  live := fun i b e => by
    obtain ⟨a, h1, h2, hf, h3⟩ := r.live i b e
    obtain ⟨o', h4⟩ := h3.some
    have n : a ≠ p := ne_of_none h4 h
    exact ⟨a, h1, h2, hf, h3.mono (Same.refl G) (Sub.refl π) (upd_ne n)⟩
  inj := r.inj
  dom := r.dom
/-- a thing of the frame -/
theorem RW.layF (r : RW g π w G F H) {p : Addr} (h : H p = none) (o : HO) : RW g π w G (upd F p o) (upd H p o) where
  sub := (r.aside h o).sub
  fr := fun b u q => by
    by_cases e : b = p
    · subst e; rw [upd_same] at q ⊢; exact q
    · rw [upd_ne e] at q ⊢; exact r.fr b u q
  fg := fun a u q => by
    by_cases e : a = p
    · subst e; exact r.free h
    · rw [upd_ne e] at q; exact r.fg a u q
  live := fun i b e => by
    obtain ⟨a, h1, h2, hf, h3⟩ := (r.aside h o).live i b e
    have n : a ≠ p := by
      obtain ⟨a', h1', _, _, h3'⟩ := r.live i b e
      obtain ⟨o', h4⟩ := h3'.some
      have : a' = a := Option.some.inj (h1'.symm.trans h1)
      subst this
      exact ne_of_none h4 h
    exact ⟨a, h1, h2, by rw [upd_ne n]; exact hf, h3⟩
  inj := r.inj
  dom := r.dom
/-- a thing of the frame is changed -/
theorem RW.putF (r : RW g π w G F H) {p : Addr} {o o' : HO} (h : F p = some o) : RW g π w G (upd F p o') (upd H p o') where
  sub := fun b u q => by rw [upd_ne (fun z => by subst z; rw [r.fg b o h] at q; cases q)]; exact r.sub b u q
  fr := fun b u q => by
    by_cases e : b = p
    · subst e; rw [upd_same] at q ⊢; exact q
    · rw [upd_ne e] at q ⊢; exact r.fr b u q
  fg := fun a u q => by
    by_cases e : a = p
    · subst e; exact r.fg a o h
    · rw [upd_ne e] at q; exact r.fg a u q
  live := fun i b e => by
    obtain ⟨a, h1, h2, hf, h3⟩ := r.live i b e
    have n : a ≠ p := fun z => by subst z; rw [h] at hf; cases hf
    exact ⟨a, h1, h2, by rw [upd_ne n]; exact hf, h3.mono (Same.refl G) (Sub.refl π) (upd_ne n)⟩
  inj := r.inj
  dom := r.dom
/-- a thing of the frame is given up: it is read from now on -/
theorem RW.dropF (r : RW g π w G (upd F p o) H) (h : F p = none) : RW g π w (upd G p o) F H ∧ Same G (upd G p o) := by
  have hg : G p = none := r.fg p o upd_same
  have sG : Same G (upd G p o) := same_new hg o
  refine ⟨⟨fun b u q => ?_, fun b u q => ?_, fun a u q => ?_, fun i b e => ?_, r.inj, r.dom⟩, sG⟩
  · by_cases e : b = p
    · subst e; rw [upd_same] at q; exact r.fr b u (by rw [upd_same]; exact q)
    · rw [upd_ne e] at q; exact r.sub b u q
  · exact r.fr b u (by rw [upd_ne (ne_of_none q h)]; exact q)
  · rw [upd_ne (ne_of_none q h)]
    exact r.fg a u (by rw [upd_ne (ne_of_none q h)]; exact q)
  · obtain ⟨a, h1, h2, hf, h3⟩ := r.live i b e
    have n : a ≠ p := fun z => by subst z; rw [upd_same] at hf; cases hf
    rw [upd_ne n] at hf
    exact ⟨a, h1, by rw [upd_ne n]; exact h2, hf, h3.mono sG (Sub.refl π) rfl⟩
theorem RW.lessF (r : RW g π w G (upd F p o) H) (h : F p = none) : RW g π w G F H where
  sub := r.sub
  fr := fun b u q => r.fr b u (by rw [upd_ne (ne_of_none q h)]; exact q)
  fg := fun b u q => r.fg b u (by rw [upd_ne (ne_of_none q h)]; exact q)
  live := fun i b e => by
    obtain ⟨a, h1, h2, hf, h3⟩ := r.live i b e
    have n : a ≠ p := fun z => by subst z; rw [upd_same] at hf; cases hf
    rw [upd_ne n] at hf
    exact ⟨a, h1, h2, hf, h3⟩
  inj := r.inj
  dom := r.dom
/-- a box is changed -/
theorem RW.put (r : RW g π w G F H) {i : Nat} {a : Addr} {b b' : Bx} {o : HO} (e : w[i]? = some (some b)) (ha : π i = some a) (hb : BxAt g π G (upd H a o) a b') : RW g π (w.set i (some b')) G F (upd H a o) := by
  obtain ⟨a', h1, h2, hf, _⟩ := r.live i b e
  have : a' = a := Option.some.inj (h1.symm.trans ha)
  subst this
  have hl : i < w.length := (List.getElem?_eq_some_iff.mp e).1
  refine ⟨fun c u q => ?_, fun c u q => ?_, r.fg, fun j c ej => ?_, fun j k c d d' ej ek hj hk => ?_, fun j hj => r.dom j (by simpa using hj)⟩
  · rw [upd_ne (fun z => by subst z; rw [h2] at q; cases q)]
    exact r.sub c u q
  · rw [upd_ne (fun z => by subst z; rw [hf] at q; cases q)]
    exact r.fr c u q
  · by_cases z : j = i
    · subst z
      rw [List.getElem?_set_self hl] at ej
      cases ej
      exact ⟨a', h1, h2, hf, hb⟩
    · rw [List.getElem?_set_ne (Ne.symm z)] at ej
      obtain ⟨a2, k1, k2, k4, k3⟩ := r.live j c ej
      have n : a2 ≠ a' := fun q => by subst q; exact z (r.inj j i a2 c b ej e k1 ha)
      exact ⟨a2, k1, k2, k4, k3.mono (Same.refl G) (Sub.refl π) (upd_ne n)⟩
  · have f : ∀ (j : Nat) d, (w.set i (some b'))[j]? = some (some d) → ∃ d', w[j]? = some (some d') := fun j d q => by
      by_cases z : j = i
      · subst z; exact ⟨b, e⟩
      · rw [List.getElem?_set_ne (Ne.symm z)] at q; exact ⟨d, q⟩
    obtain ⟨x, hx⟩ := f j d ej
    obtain ⟨y, hy⟩ := f k d' ek
    exact r.inj j k c x y hx hy hj hk
def Pi.add (π : Pi) (n : Nat) (a : Addr) : Pi := fun i => if i = n then some a else π i
theorem Pi.add_self {π : Pi} {n : Nat} {a : Addr} : π.add n a n = some a := by unfold Pi.add; rw [if_pos rfl]
theorem Pi.add_ne {π : Pi} {n i : Nat} {a : Addr} (h : i ≠ n) : π.add n a i = π i := by unfold Pi.add; rw [if_neg h]
theorem RW.subAdd (r : RW g π w G F H) (a : Addr) : Sub π (π.add w.length a) := fun i x e => by
  rw [Pi.add_ne]
  · exact e
  · intro z; subst z; rw [r.dom _ (Nat.le_refl _)] at e; cases e
/-- a new box -/
theorem RW.new (r : RW g π w G F H) {p : Addr} {o : HO} {b : Bx} (h : H p = none) (hb : BxAt g π G (upd H p o) p b) : RW g (π.add w.length p) (w ++ [some b]) G F (upd H p o) where
  sub := (r.aside h o).sub
  fr := (r.aside h o).fr
  fg := r.fg
  live := fun j c ej => by
    have sp := r.subAdd p
    by_cases z : j < w.length
    · rw [List.getElem?_append_left z] at ej
      obtain ⟨a', h1, h2, hf, h3⟩ := (r.aside h o).live j c ej
      exact ⟨a', sp _ _ h1, h2, hf, h3.mono (Same.refl G) sp rfl⟩
    · have hl : j < (w ++ [some b]).length := (List.getElem?_eq_some_iff.mp ej).1
      rw [List.length_append, List.length_singleton] at hl
      have e : j = w.length := by omega
      subst e
      rw [List.getElem?_append_right (Nat.le_refl _), Nat.sub_self] at ej
      cases ej
      exact ⟨p, Pi.add_self, r.free h, r.freeF h, hb.mono (Same.refl G) sp rfl⟩
  inj := fun j k a c d ej ek hj hk => by
    have f : ∀ (j : Nat) c, (w ++ [some b])[j]? = some (some c) → (j = w.length) ∨ (j ≠ w.length ∧ w[j]? = some (some c)) := fun j c q => by
      by_cases z : j < w.length
      · rw [List.getElem?_append_left z] at q; exact .inr ⟨by omega, q⟩
      · have hl : j < (w ++ [some b]).length := (List.getElem?_eq_some_iff.mp q).1
        rw [List.length_append, List.length_singleton] at hl
        exact .inl (by omega)
    have old : ∀ (j : Nat) c, j ≠ w.length → w[j]? = some (some c) → (π.add w.length p) j = some a → a ≠ p := fun j c nj q e z => by
      subst z
      rw [Pi.add_ne nj] at e
      obtain ⟨a', h1, _, _, h3⟩ := r.live j c q
      have : a' = a := Option.some.inj (h1.symm.trans e)
      subst this
      obtain ⟨o', h4⟩ := h3.some
      rw [h] at h4
      cases h4
    rcases f j c ej with e1 | ⟨n1, e1⟩
    · rcases f k d ek with e2 | ⟨n2, e2⟩
      · rw [e1, e2]
      · subst e1
        rw [Pi.add_self] at hj
        exact absurd (Option.some.inj hj).symm (old k d n2 e2 hk)
    · rcases f k d ek with e2 | ⟨n2, e2⟩
      · subst e2
        rw [Pi.add_self] at hk
        exact absurd (Option.some.inj hk).symm (old j c n1 e1 hj)
      · rw [Pi.add_ne n1] at hj
        rw [Pi.add_ne n2] at hk
        exact r.inj j k a c d e1 e2 hj hk
  dom := fun j hj => by
    rw [List.length_append, List.length_singleton] at hj
    rw [Pi.add_ne (by omega)]
    exact r.dom j (by omega)
/-- a box is given up: it is read from now on, and never changed -/
theorem RW.drop (r : RW g π w G F H) {i : Nat} {a : Addr} {b : Bx} {o : HO} (e : w[i]? = some (some b)) (ha : π i = some a) (ho : H a = some o) : RW g π (w.set i none) (upd G a o) F H ∧ Same G (upd G a o) := by
  obtain ⟨a', h1, h2, hf, h3⟩ := r.live i b e
  have : a' = a := Option.some.inj (h1.symm.trans ha)
  subst this
  have sG : Same G (upd G a' o) := same_new h2 o
  refine ⟨⟨fun c u q => ?_, r.fr, fun c u q => ?_, fun j c ej => ?_, fun j k c d d' ej ek hj hk => ?_, fun j hj => r.dom j (by simpa using hj)⟩, sG⟩
  · by_cases z : c = a'
    · subst z; rw [upd_same] at q; cases q; exact ho
    · rw [upd_ne z] at q; exact r.sub c u q
  · rw [upd_ne (fun z => by subst z; rw [hf] at q; cases q)]
    exact r.fg c u q
  · have z : j ≠ i := fun z => by
      subst z
      have hl : j < w.length := (List.getElem?_eq_some_iff.mp e).1
      rw [List.getElem?_set_self hl] at ej
      cases ej
    rw [List.getElem?_set_ne (Ne.symm z)] at ej
    obtain ⟨a2, k1, k2, k4, k3⟩ := r.live j c ej
    have n : a2 ≠ a' := fun q => by subst q; exact z (r.inj j i a2 c b ej e k1 ha)
    exact ⟨a2, k1, by rw [upd_ne n]; exact k2, k4, k3.mono sG (Sub.refl π) rfl⟩
  · have f : ∀ (j : Nat) d, (w.set i none)[j]? = some (some d) → w[j]? = some (some d) := fun j d q => by
      by_cases z : j = i
      · subst z
        have hl : j < w.length := (List.getElem?_eq_some_iff.mp e).1
        rw [List.getElem?_set_self hl] at q
        cases q
      · rw [List.getElem?_set_ne (Ne.symm z)] at q; exact q
    exact r.inj j k c d d' (f _ _ ej) (f _ _ ek) hj hk
end
end Gd

set_option Elab.async false
set_option linter.all false
set_option maxRecDepth 100000
set_option maxHeartbeats 4000000
namespace Gd
open PySem L2
/-! ### what a run may do, over data -/
structure Er where
  c : Nat
  ns : List Str
  ds : List D
  w : W
inductive M (α : Type) where
  | ret (a : α) | err (e : Er) | draw (n : Int) (k : Int → M α) | bad
def M.bind {α β : Type} : M α → (α → M β) → M β
  | .ret a, f => f a
  | .err e, _ => .err e
  | .draw n k, f => .draw n fun d => (k d).bind f
  | .bad, _ => .bad
def M.wp {α : Type} : M α → (α → Prop) → (Er → Prop) → Prop
  | .ret a, Q, _ => Q a
  | .err e, _, E => E e
  | .draw n k, Q, E => 0 < n ∧ n ≤ 2 ^ 64 ∧ ∀ d, 0 ≤ d → d < n → (k d).wp Q E
  | .bad, _, _ => False
theorem M.wp_mono {α : Type} : ∀ {m : M α} {Q Q' : α → Prop} {E E' : Er → Prop}, m.wp Q E → (∀ a, Q a → Q' a) → (∀ e, E e → E' e) → m.wp Q' E'
  | .ret a, _, _, _, _, h, q, _ => q a h
  | .err a, _, _, _, _, h, _, q => q a h
  | .draw n k, _, _, _, _, h, q, qe => ⟨h.1, h.2.1, fun d h0 h1 => M.wp_mono (h.2.2 d h0 h1) q qe⟩
  | .bad, _, _, _, _, h, _, _ => h.elim
theorem M.wp_bind {α β : Type} {f : α → M β} {Q : β → Prop} {E : Er → Prop} : ∀ {m : M α}, (m.bind f).wp Q E → m.wp (fun a => (f a).wp Q E) E
  | .ret _, h => h
  | .err _, h => h
  | .draw n k, h => ⟨h.1, h.2.1, fun d h0 h1 => M.wp_bind (h.2.2 d h0 h1)⟩
  | .bad, h => h.elim
theorem M.wp_of_bind {α β : Type} {f : α → M β} {Q : β → Prop} {E : Er → Prop} : ∀ {m : M α}, m.wp (fun a => (f a).wp Q E) E → (m.bind f).wp Q E
  | .ret _, h => h
  | .err _, h => h
  | .draw n k, h => ⟨h.1, h.2.1, fun d h0 h1 => M.wp_of_bind (h.2.2 d h0 h1)⟩
  | .bad, h => h.elim
theorem M.bind_assoc {α β γ : Type} {f : α → M β} {k : β → M γ} : ∀ {m : M α}, (m.bind f).bind k = m.bind fun a => (f a).bind k
  | .ret _ => rfl
  | .err _ => rfl
  | .draw n j => by
    show M.draw n _ = M.draw n _
    congr 1
    funext d
    exact M.bind_assoc
  | .bad => rfl

abbrev Sl := List (Option D)
def DenS (g : Gm) (π : Pi) (G : Hp) (ds : Sl) (σ : St) : Prop := ds.length = σ.length ∧ ∀ (i : Nat) d, ds[i]? = some (some d) → ∃ v, σ[i]? = some (some v) ∧ Den g π G d v
theorem DenS.mono {g : Gm} {π π' : Pi} {G G' : Hp} {ds : Sl} {σ : St} (h : DenS g π G ds σ) (s : Same G G') (p : Sub π π') : DenS g π' G' ds σ :=
  ⟨h.1, fun i d e => let ⟨v, h1, h2⟩ := h.2 i d e; ⟨v, h1, h2.mono s p⟩⟩
theorem DenS.put {g : Gm} {π : Pi} {G : Hp} {ds : Sl} {σ : St} {d : D} {v : V} (h : DenS g π G ds σ) (i : Nat) (hd : Den g π G d v) : DenS g π G (ds.set i (some d)) (σ.set i (some v)) := by
  refine ⟨by rw [List.length_set, List.length_set, h.1], fun j e q => ?_⟩
  by_cases z : j = i
  · subst z
    have hl : j < (ds.set j (some d)).length := (List.getElem?_eq_some_iff.mp q).1
    rw [List.length_set] at hl
    rw [List.getElem?_set_self hl] at q
    cases q
    exact ⟨v, List.getElem?_set_self (by rw [← h.1]; exact hl), hd⟩
  · rw [List.getElem?_set_ne (Ne.symm z)] at q ⊢
    exact h.2 j e q
theorem DenS.start {g : Gm} {π : Pi} {G : Hp} {ds : List D} {vs : List V} (h : DenL g π G ds vs) (N : List Str) : DenS g π G (ds.map some ++ List.replicate (N.length - ds.length) none) (start N vs) := by
  have hl := h.length
  refine ⟨by unfold L2.start; simp [hl], fun i d e => ?_⟩
  unfold L2.start
  by_cases z : i < ds.length
  · rw [List.getElem?_append_left (by simpa using z), List.getElem?_map] at e
    cases q : ds[i]? with
    | none => rw [q] at e; cases e
    | some d' =>
      rw [q] at e
      cases e
      obtain ⟨v, h1, h2⟩ := h.get q
      exact ⟨v, by rw [List.getElem?_append_left (by simpa [hl] using z), List.getElem?_map, h1]; rfl, h2⟩
  · rw [List.getElem?_append_right (by simpa using z)] at e
    have := List.getElem?_eq_some_iff.mp e
    obtain ⟨h1, h2⟩ := this
    rw [List.getElem_replicate] at h2
    cases h2

section
variable {α β γ δ : Type}
def Post (g : Gm) (rel : Pi → Hp → α → β → Prop) (π : Pi) (G F : Hp) (Q : β → Hp → Prop) : α × W → Prop := fun p => ∀ v H' π' G', Same G G' → Sub π π' → RW g π' p.2 G' F H' → rel π' G' p.1 v → Q v H'
def PostE (g : Gm) (π : Pi) (G F : Hp) (E : XK) : Er → Prop := fun e => ∀ H' π' G' a fs, Same G G' → Sub π π' → RW g π' e.w G' F H' → H' a = some (.xd fs) → fs.map (·.1) = e.ns → DenL g π' G' e.ds (fs.map (·.2)) → E (.ref (g.cl e.c)) (some a) H'
theorem Post.mono {g : Gm} {rel : Pi → Hp → α → β → Prop} {π π' : Pi} {G G' F : Hp} {Q : β → Hp → Prop} {p : α × W} (s : Same G G') (q : Sub π π') (h : Post g rel π G F Q p) : Post g rel π' G' F Q p :=
  fun v H' π2 G2 s2 q2 => h v H' π2 G2 (s.trans s2) (q.trans q2)
theorem PostE.mono {g : Gm} {π π' : Pi} {G G' F : Hp} {E : XK} {e : Er} (s : Same G G') (q : Sub π π') (h : PostE g π G F E e) : PostE g π' G' F E e :=
  fun H' π2 G2 a fs s2 q2 => h H' π2 G2 a fs (s.trans s2) (q.trans q2)
def Lift (g : Gm) (E : XK) (rel : Pi → Hp → α → β → Prop) (f : Sl → W → M (α × W)) : St → Hp → (β → Hp → Prop) → Prop := fun σ H Q =>
  ∃ π w G F ds, RW g π w G F H ∧ DenS g π G ds σ ∧ (f ds w).wp (Post g rel π G F Q) (PostE g π G F E)
abbrev EE := Sl → W → M (D × W)
abbrev TT2 := Sl → W → M (Bool × W)
abbrev AA := Sl → W → M (List D × W)
abbrev LE (g : Gm) (E : XK) (f : EE) : TE := Lift g E (fun π G d v => Den g π G d v) f
abbrev LT (g : Gm) (E : XK) (f : TT2) : TT := Lift g E (fun _ _ (b c : Bool) => b = c) f
abbrev LA (g : Gm) (E : XK) (f : AA) : TA := Lift g E (fun π G d v => DenL g π G d v) f
theorem lift_then {g : Gm} {E : XK} {π : Pi} {w : W} {G F H : Hp} {ds : Sl} {σ : St} {rel1 : Pi → Hp → α → β → Prop} {rel2 : Pi → Hp → γ → δ → Prop} {f : Sl → W → M (α × W)} {k : α → W → M (γ × W)} {Q : β → Hp → Prop} {Q2 : δ → Hp → Prop}
    (r : RW g π w G F H) (s : DenS g π G ds σ) (h : ((f ds w).bind fun p => k p.1 p.2).wp (Post g rel2 π G F Q2) (PostE g π G F E))
    (next : ∀ a w1 v H1 π1 G1, RW g π1 w1 G1 F H1 → DenS g π1 G1 ds σ → rel1 π1 G1 a v → Same G G1 → Sub π π1 → (k a w1).wp (Post g rel2 π1 G1 F Q2) (PostE g π1 G1 F E) → Q v H1) : Lift g E rel1 f σ H Q :=
  ⟨π, w, G, F, ds, r, s, M.wp_mono (M.wp_bind h) (fun p hp v H1 π1 G1 sG sP r1 d1 =>
    next p.1 p.2 v H1 π1 G1 r1 (s.mono sG sP) d1 sG sP (M.wp_mono hp (fun _ x => x.mono sG sP) (fun _ x => x.mono sG sP))) (fun _ x => x)⟩
end
theorem _root_.L2.PE.imp {X : Cx} {e : Expr} {t t' : TE} (h : PE X e t) (q : ∀ σ H Q, t' σ H Q → t σ H Q) : PE X e t' := ⟨fun pins s σ H Q I x => h.run pins s σ H Q I (q _ _ _ x)⟩
theorem _root_.L2.PT.imp {X : Cx} {e : Expr} {t t' : TT} (h : PT X e t) (q : ∀ σ H Q, t' σ H Q → t σ H Q) : PT X e t' := ⟨fun pins s σ H Q I x => h.run pins s σ H Q I (q _ _ _ x)⟩
theorem _root_.L2.PW.imp {X : Cx} {e : Expr} {t t' : TT} (h : PW X e t) (q : ∀ σ H Q, t' σ H Q → t σ H Q) : PW X e t' := ⟨fun o pins s σ H Q I x => h.run o pins s σ H Q I (q _ _ _ x)⟩
theorem _root_.L2.PA.imp {X : Cx} {e : List Expr} {t t' : TA} (h : PA X e t) (q : ∀ σ H Q, t' σ H Q → t σ H Q) : PA X e t' := ⟨fun o pins s σ H Q I x => h.run o pins s σ H Q I (q _ _ _ x)⟩
theorem _root_.L2.PS.imp {X : Cx} {e : Stmt} {t t' : TS} (h : PS X e t) (q : ∀ D σ H, t' D σ H → t D σ H) : PS X e t' := ⟨fun pins s σ H D I x => h.run pins s σ H D I (q _ _ _ x)⟩
theorem _root_.L2.PSs.imp {X : Cx} {e : List Stmt} {t t' : TS} (h : PSs X e t) (q : ∀ D σ H, t' D σ H → t D σ H) : PSs X e t' := ⟨fun pins s σ H D I x => h.run pins s σ H D I (q _ _ _ x)⟩

/-! ### arguments without a star -/
def noStar : Expr → Bool
  | .Starred .. => false
  | _ => true
theorem starE {e : Expr} {es : List Expr} {env : Env} (h : noStar e = true) : starEach (e :: es) env = (false, eval e env) :: starEach es env := by
  cases e <;> first | rfl | cases h
theorem star0 {env : Env} : starEach [] env = [] := rfl
theorem anyStar {pos : Pos} {env : Env} : ∀ {es : List Expr}, es.all noStar = true → (backTo pos (starEach es env)).any (·.1) = false
  | [], _ => rfl
  | e :: es, h => by
    rw [List.all_cons, Bool.and_eq_true] at h
    rw [starE h.1]
    unfold backTo
    rw [List.map_cons, List.any_cons]
    exact anyStar h.2
/-! ### expressions -/
def eV (i : Nat) : EE := fun ds w => match ds[i]? with | some (some d) => .ret (d, w) | _ => .bad
def eC (d : D) : EE := fun _ w => .ret (d, w)
def eBin (o : D → D → W → M (D × W)) (a b : EE) : EE := fun ds w => (a ds w).bind fun p => (b ds p.2).bind fun q => o p.1 q.1 q.2
def eUn (o : D → W → M (D × W)) (a : EE) : EE := fun ds w => (a ds w).bind fun p => o p.1 p.2
def aNil : AA := fun _ w => .ret ([], w)
def aCons (a : EE) (r : AA) : AA := fun ds w => (a ds w).bind fun p => (r ds p.2).bind fun q => .ret (p.1 :: q.1, q.2)
def eArgs (o : List D → W → M (D × W)) (a : AA) : EE := fun ds w => (a ds w).bind fun p => o p.1 p.2
section
variable {X : Cx} {g : Gm} {E : XK}
/-- what an operation over data owes -/
abbrev EPost (g : Gm) (π : Pi) (G F : Hp) (Q : VK) : D × W → Prop := Post g (fun π G d v => Den g π G d v) π G F Q
theorem EPost.here {g : Gm} {π : Pi} {w : W} {G F H : Hp} {Q : VK} {d : D} {v : V} (h : EPost g π G F Q (d, w)) (r : RW g π w G F H) (hd : Den g π G d v) : Q v H := h v H π G (Same.refl G) (Sub.refl π) r hd
theorem de_v (i : Nat) {x : Str} {pos : Pos} (hN : X.N[i]? = some x := by rfl) (hv : Vis X.env.scope x := by first | exact Or.inl rfl | exact Or.inr (Or.inl rfl) | exact Or.inr (Or.inr rfl)) (hd : (x == ("__debug__" : Str)) = false := by decide)
    (hcd : (x == ("__classdict__" : Str)) = false := by decide) : PE X (.Name x pos) (LE g E (eV i)) := by
  refine (pv i hN hv hd hcd).imp fun σ H Q h => ?_
  obtain ⟨π, w, G, F, ds, r, s, h⟩ := h
  unfold eV at h
  split at h
  · rename_i d e
    obtain ⟨v, h1, h2⟩ := s.2 i d e
    exact ⟨v, h1, EPost.here h r h2⟩
  · exact h.elim
theorem de_c {e : Expr} {v : V} {d : D} (he : PE X e (tC v)) (hd : ∀ π G, Den g π G d v) : PE X e (LE g E (eC d)) :=
  he.imp fun σ H Q h => by
    obtain ⟨π, w, G, F, ds, r, s, h⟩ := h
    exact EPost.here h r (hd π G)
theorem de_int {i j pos} : PE X (.Constant (.int i) j pos) (LE g E (eC (.int i))) := de_c pe_int fun _ _ => .int i
theorem de_bl {b j pos} : PE X (.Constant (.bool b) j pos) (LE g E (eC (.bl b))) := de_c pe_bl fun _ _ => .bl b
theorem de_non {j pos} : PE X (.Constant .none j pos) (LE g E (eC .non)) := de_c pe_non fun _ _ => .non
theorem de_str {x j pos} : PE X (.Constant (.str x) j pos) (LE g E (eC (.str x))) := de_c pe_str fun _ _ => .str x
/-- what an operator's rule owes to its reading over data -/
def OpD (X : Cx) (g : Gm) (E : XK) (f : Value → Value → Sem Value) (o : D → D → W → M (D × W)) : Prop :=
  ∃ r : R2, OpR X f r ∧ ∀ π w G F H x y v u Q, RW g π w G F H → Den g π G x v → Den g π G y u → (o x y w).wp (EPost g π G F Q) (PostE g π G F E) → r v u H Q
theorem de_bin {op : Operator} {a b : Expr} {fa fb : EE} {pos : Pos} {o : D → D → W → M (D × W)} (ho : OpD X g E (binaryOp op) o) (ha : PE X a (LE g E fa)) (hb : PE X b (LE g E fb)) : PE X (.BinOp a op b pos) (LE g E (eBin o fa fb)) := by
  obtain ⟨r, h1, h2⟩ := ho
  refine (pe_op h1 ha hb).imp fun σ H Q h => ?_
  obtain ⟨π, w, G, F, ds, r, s, h⟩ := h
  refine lift_then (k := fun x w1 => (fb ds w1).bind fun q => o x q.1 q.2) r s h fun x w1 v H1 π1 G1 r1 s1 d1 _ _ h1 => ?_
  refine lift_then (k := fun y w2 => o x y w2) r1 s1 h1 fun y w2 u H2 π2 G2 r2 s2 d2 sg sp h2' => ?_
  exact h2 _ _ _ _ _ _ _ _ _ _ r2 (d1.mono sg sp) d2 h2'
theorem de_cmp {op : CmpOp} {a b : Expr} {fa fb : EE} {pos : Pos} {o : D → D → W → M (D × W)} (ho : OpD X g E (compareOp op) o) (ha : PE X a (LE g E fa)) (hb : PE X b (LE g E fb)) (hm : behindInMarks op b = false := by first | exact nobehind _ (by decide) (by decide) | rfl) : PE X (.Compare a [op] [b] pos) (LE g E (eBin o fa fb)) := by
  obtain ⟨r, h1, h2⟩ := ho
  refine (pe_cmpR h1 ha hb hm).imp fun σ H Q h => ?_
  obtain ⟨π, w, G, F, ds, r, s, h⟩ := h
  refine lift_then (k := fun x w1 => (fb ds w1).bind fun q => o x q.1 q.2) r s h fun x w1 v H1 π1 G1 r1 s1 d1 _ _ h1 => ?_
  refine lift_then (k := fun y w2 => o x y w2) r1 s1 h1 fun y w2 u H2 π2 G2 r2 s2 d2 sg sp h2' => ?_
  exact h2 _ _ _ _ _ _ _ _ _ _ r2 (d1.mono sg sp) d2 h2'
theorem de_un {op : UnaryOp} {r : V → Hp → VK → Prop} {a : Expr} {fa : EE} {pos : Pos} {o : D → W → M (D × W)} (ho : UnR X (unaryOp op) r) (h2 : ∀ π w G F H x v Q, RW g π w G F H → Den g π G x v → (o x w).wp (EPost g π G F Q) (PostE g π G F E) → r v H Q) (ha : PE X a (LE g E fa)) :
    PE X (.UnaryOp op a pos) (LE g E (eUn o fa)) := by
  refine (pe_un ho ha).imp fun σ H Q h => ?_
  obtain ⟨π, w, G, F, ds, r, s, h⟩ := h
  refine lift_then (k := fun x w1 => o x w1) r s h fun x w1 v H1 π1 G1 r1 s1 d1 _ _ h1 => ?_
  exact h2 _ _ _ _ _ _ _ _ r1 d1 h1
theorem da_nil : PA X [] (LA g E aNil) := pa_nil.imp fun σ H Q h => by
  obtain ⟨π, w, G, F, ds, r, s, h⟩ := h
  exact h [] H π G (Same.refl G) (Sub.refl π) r .nil
theorem da_cons {e : Expr} {es : List Expr} {fa : EE} {fr : AA} (ha : PE X e (LE g E fa)) (hr : PA X es (LA g E fr)) (hs : noStar e = true := by rfl) : PA X (e :: es) (LA g E (aCons fa fr)) := by
  refine (pa_cons ha hr (starE hs)).imp fun σ H Q h => ?_
  obtain ⟨π, w, G, F, ds, r, s, h⟩ := h
  refine lift_then (k := fun x w1 => (fr ds w1).bind fun q => .ret (x :: q.1, q.2)) r s h fun x w1 v H1 π1 G1 r1 s1 d1 _ _ h1 => ?_
  refine lift_then (k := fun y w2 => .ret (x :: y, w2)) r1 s1 h1 fun y w2 u H2 π2 G2 r2 s2 d2 sg sp h2 => ?_
  exact h2 (v :: u) H2 π2 G2 (Same.refl G2) (Sub.refl π2) r2 (.cons (d1.mono sg sp) d2)
def lenOk (n : Nat) : Bool := Nat.ble n 100000
theorem lenOk_le {n : Nat} (h : lenOk n = true) : n ≤ sizeLine := Nat.le_trans (Nat.le_of_ble_eq_true h) (by decide)
theorem lenOk_lt {n : Nat} (h : lenOk n = true) : n < sizeLine := Nat.lt_of_le_of_lt (Nat.le_of_ble_eq_true h) (by decide)
def oTup (ds : List D) (w : W) : M (D × W) := if lenOk ds.length = true then .ret (.tup ds, w) else .bad
def oLst (ds : List D) (w : W) : M (D × W) := if lenOk ds.length = true then .ret (.lst ds, w) else .bad
theorem EPost.lay {π : Pi} {w : W} {G F H : Hp} {Q : VK} {d : D} {p : Addr} {o : HO} (h : EPost g π G F Q (d, w)) (r : RW g π w G F H) (hp : H p = none) (hd : Den g π (upd G p o) d (.ref p)) : Q (.ref p) (upd H p o) :=
  h (.ref p) (upd H p o) π (upd G p o) (same_new (r.free hp) o) (Sub.refl π) (r.lay hp o) hd
theorem Den.newL {π : Pi} {G : Hp} {ds : List D} {xs : List V} {p : Addr} (h : G p = none) (l : DenL g π G ds xs) : Den g π (upd G p (.lst xs)) (.lst ds) (.ref p) := .lst upd_same (l.mono (same_new h _) (Sub.refl π))
theorem Den.newT {π : Pi} {G : Hp} {ds : List D} {xs : List V} {p : Addr} (h : G p = none) (l : DenL g π G ds xs) : Den g π (upd G p (.tup xs)) (.tup ds) (.ref p) := .tup (.inl (.inl upd_same)) (l.mono (same_new h _) (Sub.refl π))
theorem de_tup {es : List Expr} {fa : AA} {x1} {pos : Pos} (ha : PA X es (LA g E fa)) : PE X (.Tuple es x1 pos) (LE g E (eArgs oTup fa)) := by
  refine (pe_tup ha).imp fun σ H Q h => ?_
  obtain ⟨π, w, G, F, ds, r, s, h⟩ := h
  refine lift_then (k := fun x w1 => oTup x w1) r s h fun x w1 v H1 π1 G1 r1 s1 d1 _ _ h1 => ?_
  unfold oTup at h1
  split at h1
  · rename_i hl
    exact ⟨by rw [d1.length]; exact lenOk_le hl, fun p hp => EPost.lay h1 r1 hp (Den.newT (r1.free hp) d1)⟩
  · exact h1.elim
theorem de_lst {es : List Expr} {fa : AA} {pos : Pos} (ha : PA X es (LA g E fa)) : PE X (.List es pos) (LE g E (eArgs oLst fa)) := by
  refine (pe_lst ha).imp fun σ H Q h => ?_
  obtain ⟨π, w, G, F, ds, r, s, h⟩ := h
  refine lift_then (k := fun x w1 => oLst x w1) r s h fun x w1 v H1 π1 G1 r1 s1 d1 _ _ h1 => ?_
  unfold oLst at h1
  split at h1
  · rename_i hl
    exact ⟨by rw [d1.length]; exact lenOk_le hl, fun p hp => EPost.lay h1 r1 hp (Den.newL (r1.free hp) d1)⟩
  · exact h1.elim
/-! a built-in's call -/
def CallD (X : Cx) (g : Gm) (E : XK) (f : Value) (o : List D → W → M (D × W)) : Prop :=
  ∃ r, CallR X f r ∧ ∀ π w G F H xs vs Q, RW g π w G F H → DenL g π G xs vs → (o xs w).wp (EPost g π G F Q) (PostE g π G F E) → r vs H Q
theorem de_callB {id : String} {x : Str} {e : Expr} {es : List Expr} {fa : AA} {p pos : Pos} {o : List D → W → M (D × W)} (hc : CallD X g E (.builtin id) o) (hg : Gl X x) (hm : X.mg x = none) (hv : bootBuiltins x = some (.builtin id)) (ha : PA X (e :: es) (LA g E fa)) (hn : x ≠ "__name__" := by decide) (hdb : (x == ("__debug__" : Str)) = false := by decide)
    (he : noStar e = true := by rfl) (hpl : es.all noStar = true := by rfl) : PE X (.Call (.Name x p) (e :: es) [] pos) (LE g E (eArgs o fa)) := by
  obtain ⟨r, h1, h2⟩ := hc
  refine (pe_callB h1 hg hm hv ha hn hdb (starE he) (anyStar hpl)).imp fun σ H Q h => ?_
  obtain ⟨π, w, G, F, ds, r, s, h⟩ := h
  exact lift_then (k := fun x w1 => o x w1) r s h fun x w1 v H1 π1 G1 r1 s1 d1 _ _ h1 => h2 _ _ _ _ _ _ _ _ r1 d1 h1
theorem de_callTy {T : String} {x : Str} {e : Expr} {es : List Expr} {fa : AA} {p pos : Pos} {o : List D → W → M (D × W)} (hc : CallD X g E (.type T) o) (hg : Gl X x) (hm : X.mg x = none) (hv : bootBuiltins x = some (.type T)) (ha : PA X (e :: es) (LA g E fa)) (hn : x ≠ "__name__" := by decide) (hdb : (x == ("__debug__" : Str)) = false := by decide)
    (he : noStar e = true := by rfl) (hpl : es.all noStar = true := by rfl) : PE X (.Call (.Name x p) (e :: es) [] pos) (LE g E (eArgs o fa)) := by
  obtain ⟨r, h1, h2⟩ := hc
  refine (pe_callTy h1 hg hm hv ha hn hdb (starE he) (anyStar hpl)).imp fun σ H Q h => ?_
  obtain ⟨π, w, G, F, ds, r, s, h⟩ := h
  exact lift_then (k := fun x w1 => o x w1) r s h fun x w1 v H1 π1 G1 r1 s1 d1 _ _ h1 => h2 _ _ _ _ _ _ _ _ r1 d1 h1
/-! a def's promise over data, and its call -/
def spM (g : Gm) (n : Nat) (m : List D → W → M (D × W)) : Sp := fun vs H Q E => ∃ π w G F ds, RW g π w G F H ∧ DenL g π G ds vs ∧ ds.length = n ∧ (m ds w).wp (EPost g π G F Q) (PostE g π G F E)
def chk (n : Nat) (m : List D → W → M (D × W)) : List D → W → M (D × W) := fun ds w => if ds.length = n then m ds w else .bad
theorem spM_of {π : Pi} {w : W} {G F H : Hp} {ds : List D} {vs : List V} {Q : VK} {n : Nat} {m : List D → W → M (D × W)} (r : RW g π w G F H) (d : DenL g π G ds vs) (h : (chk n m ds w).wp (EPost g π G F Q) (PostE g π G F E)) : spM g n m vs H Q E := by
  unfold chk at h
  split at h
  · rename_i hl
    exact ⟨π, w, G, F, ds, r, d, hl, h⟩
  · exact h.elim
theorem de_call {CX : CXT} {k n : Nat} {f : Addr} {fd : FuncData} {ps : List Str} {m : List D → W → M (D × W)} {x : Str} {e : Expr} {es : List Expr} {fa : AA} {p pos : Pos} (F : FnOk X.prog X.w X.K X.mg X.base CX k f fd ps (spM g n m)) (hr : Room k X.A) (hg : Gl X x) (hm : X.mg x = some (.ref f))
    (hk : PySem.W.keepIn X.K (.ref f) = true) (hb : Binds X.K fd ps []) (hx : Passes CX X E) (ha : PA X (e :: es) (LA g E fa)) (hdb : (x == ("__debug__" : Str)) = false := by decide) (he : noStar e = true := by rfl) (hpl : es.all noStar = true := by rfl) :
    PE X (.Call (.Name x p) (e :: es) [] pos) (LE g E (eArgs (chk n m) fa)) := by
  refine (pe_call F hr hg hm hk hb .nil hx ha hdb (starE he) (anyStar hpl)).imp fun σ H Q h => ?_
  obtain ⟨π, w, G, F, ds, r, s, h⟩ := h
  refine lift_then (k := fun x w1 => chk n m x w1) r s h fun x w1 v H1 π1 G1 r1 s1 d1 _ _ h1 => ?_
  rw [List.append_nil]
  exact spM_of r1 d1 h1
theorem de_call0 {CX : CXT} {k : Nat} {f : Addr} {fd : FuncData} {ps : List Str} {m : List D → W → M (D × W)} {x : Str} {p pos : Pos} (F : FnOk X.prog X.w X.K X.mg X.base CX k f fd ps (spM g 0 m)) (hr : Room k X.A) (hg : Gl X x) (hm : X.mg x = some (.ref f))
    (hk : PySem.W.keepIn X.K (.ref f) = true) (hb : Binds X.K fd ps []) (hx : Passes CX X E) (hdb : (x == ("__debug__" : Str)) = false := by decide) :
    PE X (.Call (.Name x p) [] [] pos) (LE g E (eArgs (chk 0 m) aNil)) := by
  refine (pe_call0 F hr hg hm hk hb .nil hx hdb).imp fun σ H Q h => ?_
  obtain ⟨π, w, G, F, ds, r, s, h⟩ := h
  exact spM_of (ds := []) r .nil h
end
end Gd

set_option Elab.async false
set_option linter.all false
set_option maxRecDepth 100000
set_option maxHeartbeats 4000000
namespace Gd
open PySem L2
/-! ### tests -/
def truD (w : W) : D → Option Bool
  | .non => some false
  | .bl b => some b
  | .int i => some (i != 0)
  | .str x => if x.length ≤ sizeLine then some ((x.length : Int) != 0) else none
  | .lst ds => some (!ds.isEmpty)
  | .tup ds => some (!ds.isEmpty)
  | .dic ks _ => some (!ks.isEmpty)
  | .box i => match w[i]? with
    | some (some (.lst ds)) => some (!ds.isEmpty)
    | some (some (.dic ks _)) => some (!ks.isEmpty)
    | _ => none
  | _ => none
def boolD (_ : W) : D → Option Bool
  | .bl b => some b
  | _ => none
def tOf (o : W → D → Option Bool) (a : EE) : TT2 := fun ds w => (a ds w).bind fun p => match o p.2 p.1 with | some b => .ret (b, p.2) | none => .bad
def tAnd2 (a b : TT2) : TT2 := fun ds w => (a ds w).bind fun p => if p.1 = true then b ds p.2 else .ret (false, p.2)
def tOr2 (a b : TT2) : TT2 := fun ds w => (a ds w).bind fun p => if p.1 = true then .ret (true, p.2) else b ds p.2
def tNot2 (a : TT2) : TT2 := fun ds w => (a ds w).bind fun p => .ret (!p.1, p.2)
def eAnd (a b : EE) : EE := fun ds w => (a ds w).bind fun p => match truD p.2 p.1 with | some true => b ds p.2 | some false => .ret p | none => .bad
def eOr (a b : EE) : EE := fun ds w => (a ds w).bind fun p => match truD p.2 p.1 with | some true => .ret p | some false => b ds p.2 | none => .bad
def eNot (a : EE) : EE := fun ds w => (a ds w).bind fun p => match truD p.2 p.1 with | some b => .ret (.bl (!b), p.2) | none => .bad
def eIf (t : TT2) (a b : EE) : EE := fun ds w => (t ds w).bind fun p => if p.1 = true then a ds p.2 else b ds p.2
theorem isEmpty_len {α β : Type} {l : List α} {m : List β} (h : l.length = m.length) : l.isEmpty = m.isEmpty := by
  cases l <;> cases m <;> simp_all
section
variable {X : Cx} {g : Gm} {E : XK}
theorem truV_of {π : Pi} {w : W} {G F H : Hp} {d : D} {v : V} {k : Bool} (r : RW g π w G F H) (hd : Den g π G d v) (h : truD w d = some k) : TruV g.K v H k := by
  unfold truD at h
  cases hd with
  | non => cases h; rfl
  | bl b => cases h; rfl
  | int i => cases h; rfl
  | str x =>
    dsimp only at h
    split at h
    · cases h; exact ⟨by assumption, rfl⟩
    · cases h
  | lst e l => cases h; exact .inl ⟨_, .inl (.inl (r.sub _ _ e)), by rw [isEmpty_len l.length]⟩
  | tup e l => cases h; exact .inr (.inl ⟨_, seqT r.sub e, by rw [isEmpty_len l.length]⟩)
  | dic e e2 e3 l =>
    cases h
    refine .inr (.inr ⟨_, r.sub _ _ e, ?_⟩)
    subst e2
    rw [isEmpty_len (List.length_map _)]
  | ins e e2 e3 l => cases h
  | @box i a e =>
    dsimp only at h
    split at h
    · rename_i ds q
      cases h
      obtain ⟨a', h1, _, _, xs, h3, h4⟩ := r.live _ _ q
      have : a' = a := Option.some.inj (h1.symm.trans e)
      subst this
      exact .inl ⟨_, .inl (.inl h3), by rw [isEmpty_len h4.length]⟩
    · rename_i ks ds q
      cases h
      obtain ⟨a', h1, _, _, xs, h3, h4, h5⟩ := r.live _ _ q
      have : a' = a := Option.some.inj (h1.symm.trans e)
      subst this
      refine .inr (.inr ⟨_, h3, ?_⟩)
      subst h4
      rw [isEmpty_len (List.length_map _)]
    · cases h
  | scr e l => cases h
theorem dt_truth {a : Expr} {fa : EE} (ha : PE X a (LE g E fa)) (hK : X.K = g.K := by rfl) (he : ∀ whole, isTrue a X.env whole = (do let v ← whole; standAt a.pos; holding [v] (truthy v)) := by intro _; rfl) : PT X a (LT g E (tOf truD fa)) := by
  refine (pt_truth ha he).imp fun σ H Q h => ?_
  obtain ⟨π, w, G, F, ds, r, s, h⟩ := h
  refine lift_then (k := fun x w1 => match truD w1 x with | some b => .ret (b, w1) | none => .bad) r s h fun x w1 v H1 π1 G1 r1 s1 d1 _ _ h1 => ?_
  split at h1
  · rename_i b q
    exact ⟨b, by rw [hK]; exact truV_of r1 d1 q, h1 b H1 π1 G1 (Same.refl G1) (Sub.refl π1) r1 rfl⟩
  · exact h1.elim
theorem dt_cmp {op : CmpOp} {a b : Expr} {fa fb : EE} {pos : Pos} {o : D → D → W → M (D × W)} (ho : OpD X g E (compareOp op) o) (ha : PE X a (LE g E fa)) (hb : PE X b (LE g E fb)) (hm : behindInMarks op b = false := by first | exact nobehind _ (by decide) (by decide) | rfl) : PT X (.Compare a [op] [b] pos) (LT g E (tOf boolD (eBin o fa fb))) := by
  obtain ⟨r, h1, h2⟩ := ho
  refine (pt_cmpR h1 ha hb hm).imp fun σ H Q h => ?_
  obtain ⟨π, w, G, F, ds, r, s, h⟩ := h
  unfold tOf eBin at h
  rw [M.bind_assoc] at h
  refine lift_then (k := fun x w1 => ((fb ds w1).bind fun q => o x q.1 q.2).bind fun p => match boolD p.2 p.1 with | some b => .ret (b, p.2) | none => .bad) r s h fun x w1 v H1 π1 G1 r1 s1 d1 _ _ h1 => ?_
  rw [M.bind_assoc] at h1
  refine lift_then (k := fun y w2 => (o x y w2).bind fun p => match boolD p.2 p.1 with | some b => .ret (b, p.2) | none => .bad) r1 s1 h1 fun y w2 u H2 π2 G2 r2 s2 d2 sg sp h2' => ?_
  refine h2 _ _ _ _ _ _ _ _ _ _ r2 (d1.mono sg sp) d2 (M.wp_mono (M.wp_bind h2') (fun p hp v H' π' G' sg' sp' r' hd => ?_) fun _ x => x)
  obtain ⟨d, w'⟩ := p
  unfold boolD at hp
  cases hd with
  | bl b => exact ⟨b, rfl, hp b H' π' G' sg' sp' r' rfl⟩
  | non => exact hp.elim
  | int i => exact hp.elim
  | str i => exact hp.elim
  | lst _ _ => exact hp.elim
  | tup _ _ => exact hp.elim
  | dic _ _ _ _ => exact hp.elim
  | ins _ _ _ _ => exact hp.elim
  | box _ => exact hp.elim
  | scr _ _ => exact hp.elim
theorem dw_and1 {a : Expr} {fa : TT2} {pos : Pos} (ha : PT X a (LT g E fa)) : PW X (.BoolOp .And [a] pos) (LT g E fa) := pw_and1 ha
theorem dw_or1 {a : Expr} {fa : TT2} {pos : Pos} (ha : PT X a (LT g E fa)) : PW X (.BoolOp .Or [a] pos) (LT g E fa) := pw_or1 ha
theorem dw_and {a b : Expr} {rest : List Expr} {fa fb : TT2} {pos : Pos} (ha : PT X a (LT g E fa)) (hb : PW X (.BoolOp .And (b :: rest) pos) (LT g E fb)) : PW X (.BoolOp .And (a :: b :: rest) pos) (LT g E (tAnd2 fa fb)) := by
  refine (pw_and ha hb).imp fun σ H Q h => ?_
  obtain ⟨π, w, G, F, ds, r, s, h⟩ := h
  refine lift_then (k := fun x w1 => if x = true then fb ds w1 else .ret (false, w1)) r s h fun x w1 v H1 π1 G1 r1 s1 d1 _ _ h1 => ?_
  subst d1
  cases x with
  | true => rw [if_pos rfl] at h1 ⊢; exact ⟨π1, w1, G1, F, ds, r1, s1, h1⟩
  | false => rw [if_neg Bool.false_ne_true] at h1 ⊢; exact h1 false H1 π1 G1 (Same.refl G1) (Sub.refl π1) r1 rfl
theorem dw_or {a b : Expr} {rest : List Expr} {fa fb : TT2} {pos : Pos} (ha : PT X a (LT g E fa)) (hb : PW X (.BoolOp .Or (b :: rest) pos) (LT g E fb)) : PW X (.BoolOp .Or (a :: b :: rest) pos) (LT g E (tOr2 fa fb)) := by
  refine (pw_or ha hb).imp fun σ H Q h => ?_
  obtain ⟨π, w, G, F, ds, r, s, h⟩ := h
  refine lift_then (k := fun x w1 => if x = true then .ret (true, w1) else fb ds w1) r s h fun x w1 v H1 π1 G1 r1 s1 d1 _ _ h1 => ?_
  subst d1
  cases x with
  | true => rw [if_pos rfl] at h1 ⊢; exact h1 true H1 π1 G1 (Same.refl G1) (Sub.refl π1) r1 rfl
  | false => rw [if_neg Bool.false_ne_true] at h1 ⊢; exact ⟨π1, w1, G1, F, ds, r1, s1, h1⟩
theorem dt_not {a : Expr} {fa : TT2} {pos : Pos} (ha : PT X a (LT g E fa)) : PT X (.UnaryOp .Not a pos) (LT g E (tNot2 fa)) := by
  refine (pt_not ha).imp fun σ H Q h => ?_
  obtain ⟨π, w, G, F, ds, r, s, h⟩ := h
  refine lift_then (k := fun x w1 => .ret (!x, w1)) r s h fun x w1 v H1 π1 G1 r1 s1 d1 _ _ h1 => ?_
  subst d1
  exact h1 (!x) H1 π1 G1 (Same.refl G1) (Sub.refl π1) r1 rfl
theorem de_one {op} {a : Expr} {fa : EE} {pos : Pos} (ha : PE X a (LE g E fa)) : PE X (.BoolOp op [a] pos) (LE g E fa) := pe_one ha
theorem de_and {a b : Expr} {rest : List Expr} {fa fb : EE} {pos : Pos} (ha : PE X a (LE g E fa)) (hb : PE X (.BoolOp .And (b :: rest) pos) (LE g E fb)) (hK : X.K = g.K := by rfl) : PE X (.BoolOp .And (a :: b :: rest) pos) (LE g E (eAnd fa fb)) := by
  refine (pe_andT ha hb).imp fun σ H Q h => ?_
  obtain ⟨π, w, G, F, ds, r, s, h⟩ := h
  refine lift_then (k := fun x w1 => match truD w1 x with | some true => fb ds w1 | some false => .ret (x, w1) | none => .bad) r s h fun x w1 v H1 π1 G1 r1 s1 d1 _ _ h1 => ?_
  split at h1
  · rename_i q
    exact ⟨true, by rw [hK]; exact truV_of r1 d1 q, by rw [if_pos rfl]; exact ⟨π1, w1, G1, F, ds, r1, s1, h1⟩⟩
  · rename_i q
    exact ⟨false, by rw [hK]; exact truV_of r1 d1 q, by rw [if_neg Bool.false_ne_true]; exact EPost.here h1 r1 d1⟩
  · exact h1.elim
theorem de_or {a b : Expr} {rest : List Expr} {fa fb : EE} {pos : Pos} (ha : PE X a (LE g E fa)) (hb : PE X (.BoolOp .Or (b :: rest) pos) (LE g E fb)) (hK : X.K = g.K := by rfl) : PE X (.BoolOp .Or (a :: b :: rest) pos) (LE g E (eOr fa fb)) := by
  refine (pe_orT ha hb).imp fun σ H Q h => ?_
  obtain ⟨π, w, G, F, ds, r, s, h⟩ := h
  refine lift_then (k := fun x w1 => match truD w1 x with | some true => .ret (x, w1) | some false => fb ds w1 | none => .bad) r s h fun x w1 v H1 π1 G1 r1 s1 d1 _ _ h1 => ?_
  split at h1
  · rename_i q
    exact ⟨true, by rw [hK]; exact truV_of r1 d1 q, by rw [if_pos rfl]; exact EPost.here h1 r1 d1⟩
  · rename_i q
    exact ⟨false, by rw [hK]; exact truV_of r1 d1 q, by rw [if_neg Bool.false_ne_true]; exact ⟨π1, w1, G1, F, ds, r1, s1, h1⟩⟩
  · exact h1.elim
theorem de_not {a : Expr} {fa : EE} {pos : Pos} (ha : PE X a (LE g E fa)) (hK : X.K = g.K := by rfl) : PE X (.UnaryOp .Not a pos) (LE g E (eNot fa)) := by
  refine (pe_notT ha).imp fun σ H Q h => ?_
  obtain ⟨π, w, G, F, ds, r, s, h⟩ := h
  refine lift_then (k := fun x w1 => match truD w1 x with | some b => .ret (D.bl (!b), w1) | none => .bad) r s h fun x w1 v H1 π1 G1 r1 s1 d1 _ _ h1 => ?_
  split at h1
  · rename_i b q
    exact ⟨b, by rw [hK]; exact truV_of r1 d1 q, EPost.here h1 r1 (.bl _)⟩
  · exact h1.elim
theorem de_if {c a b : Expr} {fc : TT2} {fa fb : EE} {pos : Pos} (hc : PT X c (LT g E fc)) (ha : PE X a (LE g E fa)) (hb : PE X b (LE g E fb)) : PE X (.IfExp c a b pos) (LE g E (eIf fc fa fb)) := by
  refine (pe_ifExp hc ha hb).imp fun σ H Q h => ?_
  obtain ⟨π, w, G, F, ds, r, s, h⟩ := h
  refine lift_then (k := fun x w1 => if x = true then fa ds w1 else fb ds w1) r s h fun x w1 v H1 π1 G1 r1 s1 d1 _ _ h1 => ?_
  subst d1
  cases x with
  | true => rw [if_pos rfl] at h1 ⊢; exact ⟨π1, w1, G1, F, ds, r1, s1, h1⟩
  | false => rw [if_neg Bool.false_ne_true] at h1 ⊢; exact ⟨π1, w1, G1, F, ds, r1, s1, h1⟩
end
/-! ### statements -/
inductive Fl where
  | nx (ds : Sl) | rt (d : D) | bk (ds : Sl) | ct (ds : Sl)
abbrev SS := Sl → W → M (Fl × W)
def SPost (g : Gm) (π : Pi) (G F : Hp) (D : Ends) : Fl × W → Prop := fun p => match p.1 with
  | .nx ds => ∀ σ' H' π' G', Same G G' → Sub π π' → RW g π' p.2 G' F H' → DenS g π' G' ds σ' → D.nx σ' H'
  | .rt d => ∀ v H' π' G', Same G G' → Sub π π' → RW g π' p.2 G' F H' → Den g π' G' d v → D.rt v H'
  | .bk ds => ∀ σ' H' π' G', Same G G' → Sub π π' → RW g π' p.2 G' F H' → DenS g π' G' ds σ' → D.bk σ' H'
  | .ct ds => ∀ σ' H' π' G', Same G G' → Sub π π' → RW g π' p.2 G' F H' → DenS g π' G' ds σ' → D.ct σ' H'
theorem SPost.mono {g : Gm} {π π' : Pi} {G G' F : Hp} {D : Ends} {p : Fl × W} (s : Same G G') (q : Sub π π') (h : SPost g π G F D p) : SPost g π' G' F D p := by
  obtain ⟨f, w⟩ := p
  cases f with
  | nx ds => exact fun σ' H' π2 G2 s2 q2 => h σ' H' π2 G2 (s.trans s2) (q.trans q2)
  | rt d => exact fun σ' H' π2 G2 s2 q2 => h σ' H' π2 G2 (s.trans s2) (q.trans q2)
  | bk ds => exact fun σ' H' π2 G2 s2 q2 => h σ' H' π2 G2 (s.trans s2) (q.trans q2)
  | ct ds => exact fun σ' H' π2 G2 s2 q2 => h σ' H' π2 G2 (s.trans s2) (q.trans q2)
def LS (g : Gm) (E : XK) (f : SS) : TS := fun D σ H => ∃ π w G F ds, RW g π w G F H ∧ DenS g π G ds σ ∧ (f ds w).wp (SPost g π G F D) (PostE g π G F E)
/-- an expression, then a statement's rest -/
theorem lift_thenS {α β : Type} {g : Gm} {E : XK} {π : Pi} {w : W} {G F H : Hp} {ds : Sl} {σ : St} {rel1 : Pi → Hp → α → β → Prop} {f : Sl → W → M (α × W)} {k : α → W → M (Fl × W)} {Q : β → Hp → Prop} {D : Ends}
    (r : RW g π w G F H) (s : DenS g π G ds σ) (h : ((f ds w).bind fun p => k p.1 p.2).wp (SPost g π G F D) (PostE g π G F E))
    (next : ∀ a w1 v H1 π1 G1, RW g π1 w1 G1 F H1 → DenS g π1 G1 ds σ → rel1 π1 G1 a v → Same G G1 → Sub π π1 → (k a w1).wp (SPost g π1 G1 F D) (PostE g π1 G1 F E) → Q v H1) : Lift g E rel1 f σ H Q :=
  ⟨π, w, G, F, ds, r, s, M.wp_mono (M.wp_bind h) (fun p hp v H1 π1 G1 sG sP r1 d1 =>
    next p.1 p.2 v H1 π1 G1 r1 (s.mono sG sP) d1 sG sP (M.wp_mono hp (fun _ x => x.mono sG sP) (fun _ x => x.mono sG sP))) (fun _ x => x)⟩
def sNil : SS := fun ds w => .ret (.nx ds, w)
def sSeq (a b : SS) : SS := fun ds w => (a ds w).bind fun p => match p.1 with | .nx ds1 => b ds1 p.2 | _ => .ret p
def sDrop (a : EE) : SS := fun ds w => (a ds w).bind fun p => .ret (.nx ds, p.2)
def sSet (i : Nat) (a : EE) : SS := fun ds w => (a ds w).bind fun p => .ret (.nx (ds.set i (some p.1)), p.2)
def sRet (a : EE) : SS := fun ds w => (a ds w).bind fun p => .ret (.rt p.1, p.2)
def sRetN : SS := fun _ w => .ret (.rt .non, w)
def sIf (t : TT2) (a b : SS) : SS := fun ds w => (t ds w).bind fun p => if p.1 = true then a ds p.2 else b ds p.2
def sPass : SS := fun ds w => .ret (.nx ds, w)
def sBreak : SS := fun ds w => .ret (.bk ds, w)
def sCont : SS := fun ds w => .ret (.ct ds, w)
def sBad : SS := fun _ _ => .bad
section
variable {X : Cx} {g : Gm} {E : XK}
theorem ds_nil : PSs X [] (LS g E sNil) := pss_nil.imp fun D σ H h => by
  obtain ⟨π, w, G, F, ds, r, s, h⟩ := h
  exact h σ H π G (Same.refl G) (Sub.refl π) r s
theorem ds_cons {st : Stmt} {rest : List Stmt} {fa fb : SS} (ha : PS X st (LS g E fa)) (hb : PSs X rest (LS g E fb)) : PSs X (st :: rest) (LS g E (sSeq fa fb)) := by
  refine (pss_cons ha hb).imp fun D σ H h => ?_
  obtain ⟨π, w, G, F, ds, r, s, h⟩ := h
  refine ⟨π, w, G, F, ds, r, s, M.wp_mono (M.wp_bind h) (fun p hp => ?_) fun _ x => x⟩
  obtain ⟨f, w1⟩ := p
  cases f with
  | nx ds1 => exact fun σ' H' π' G' sg sp r' s' => ⟨π', w1, G', F, ds1, r', s', M.wp_mono hp (fun _ x => x.mono sg sp) fun _ x => x.mono sg sp⟩
  | rt d => exact hp
  | bk d => exact hp
  | ct d => exact hp
theorem ds_one {st : Stmt} {fa : SS} (ha : PS X st (LS g E fa)) : PSs X [st] (LS g E fa) := pss_one ha
theorem ds_expr {e : Expr} {fa : EE} {pos : Pos} (ha : PE X e (LE g E fa)) (hs : swapsWith e none pos.line X.env = pure false := by rfl) : PS X (.Expr e pos) (LS g E (sDrop fa)) := by
  refine (ps_expr ha hs).imp fun D σ H h => ?_
  obtain ⟨π, w, G, F, ds, r, s, h⟩ := h
  exact lift_thenS (k := fun x w1 => .ret (.nx ds, w1)) r s h fun x w1 v H1 π1 G1 r1 s1 d1 _ _ h1 => h1 σ H1 π1 G1 (Same.refl G1) (Sub.refl π1) r1 s1
theorem ds_ret {e : Expr} {fa : EE} {pos : Pos} (ha : PE X e (LE g E fa)) : PS X (.Return (some e) pos) (LS g E (sRet fa)) := by
  refine (ps_ret ha).imp fun D σ H h => ?_
  obtain ⟨π, w, G, F, ds, r, s, h⟩ := h
  exact lift_thenS (k := fun x w1 => .ret (.rt x, w1)) r s h fun x w1 v H1 π1 G1 r1 s1 d1 _ _ h1 => h1 v H1 π1 G1 (Same.refl G1) (Sub.refl π1) r1 d1
theorem ds_retN {pos : Pos} : PS X (.Return none pos) (LS g E sRetN) := ps_retN.imp fun D σ H h => by
  obtain ⟨π, w, G, F, ds, r, s, h⟩ := h
  exact h .non H π G (Same.refl G) (Sub.refl π) r .non
theorem ds_pass {pos : Pos} : PS X (.Pass pos) (LS g E sPass) := ps_pass.imp fun D σ H h => by
  obtain ⟨π, w, G, F, ds, r, s, h⟩ := h
  exact h σ H π G (Same.refl G) (Sub.refl π) r s
theorem ds_break {pos : Pos} : PS X (.Break pos) (LS g E sBreak) := ps_break.imp fun D σ H h => by
  obtain ⟨π, w, G, F, ds, r, s, h⟩ := h
  exact h σ H π G (Same.refl G) (Sub.refl π) r s
theorem ds_continue {pos : Pos} : PS X (.Continue pos) (LS g E sCont) := ps_continue.imp fun D σ H h => by
  obtain ⟨π, w, G, F, ds, r, s, h⟩ := h
  exact h σ H π G (Same.refl G) (Sub.refl π) r s
theorem ds_bad {st : Stmt} : PS X st (LS g E sBad) := ⟨fun _ _ _ _ _ _ h => by obtain ⟨π, w, G, F, ds, r, s, h⟩ := h; exact h.elim⟩
theorem ds_if {c : Expr} {a b : List Stmt} {fc : TT2} {fa fb : SS} {pos : Pos} (hc : PT X c (LT g E fc)) (ha : PSs X a (LS g E fa)) (hb : PSs X b (LS g E fb)) : PS X (.If c a b pos) (LS g E (sIf fc fa fb)) := by
  refine (ps_if hc ha hb).imp fun D σ H h => ?_
  obtain ⟨π, w, G, F, ds, r, s, h⟩ := h
  refine lift_thenS (k := fun x w1 => if x = true then fa ds w1 else fb ds w1) r s h fun x w1 v H1 π1 G1 r1 s1 d1 _ _ h1 => ?_
  subst d1
  cases x with
  | true => rw [if_pos rfl] at h1 ⊢; exact ⟨π1, w1, G1, F, ds, r1, s1, h1⟩
  | false => rw [if_neg Bool.false_ne_true] at h1 ⊢; exact ⟨π1, w1, G1, F, ds, r1, s1, h1⟩
theorem ds_set {i : Nat} {x : Str} {e : Expr} {fa : EE} {pos pos' : Pos} (hN : X.N.Nodup) (hi : X.N[i]? = some x) (hx : Loc X.env.scope x) (ha : PE X e (LE g E fa)) (hs : swapsWith e (some (.Name x pos')) pos.line X.env = pure false := by rfl) (hf : X.fn x = true ∨ X.env.scope.names.lookup x = some .local := by first | exact .inl rfl | exact .inr rfl | assumption) :
    PS X (.Assign [.Name x pos'] e pos) (LS g E (sSet i fa)) := by
  refine (ps_set hN hi hx ha hs hf).imp fun D σ H h => ?_
  obtain ⟨π, w, G, F, ds, r, s, h⟩ := h
  exact lift_thenS (k := fun x w1 => .ret (.nx (ds.set i (some x)), w1)) r s h fun x w1 v H1 π1 G1 r1 s1 d1 _ _ h1 => h1 _ H1 π1 G1 (Same.refl G1) (Sub.refl π1) r1 (s1.put i d1)
end
/-! ### targets -/
abbrev GD := D → Sl → Option Sl
abbrev GDs := List D → Sl → Option Sl
/-- two slot lists that agree but for some slots -/
def Off (vs : List Nat) (σ σ' : St) : Prop := σ'.length = σ.length ∧ ∀ k, k ∉ vs → σ'[k]? = σ[k]?
theorem Off.refl (vs : List Nat) (σ : St) : Off vs σ σ := ⟨rfl, fun _ _ => rfl⟩
theorem Off.trans {vs us : List Nat} {σ σ1 σ2 : St} (a : Off vs σ σ1) (b : Off us σ1 σ2) : Off (vs ++ us) σ σ2 :=
  ⟨b.1.trans a.1, fun k h => (b.2 k fun z => h (List.mem_append_right _ z)).trans (a.2 k fun z => h (List.mem_append_left _ z))⟩
theorem Off.mono {vs us : List Nat} {σ σ' : St} (a : Off vs σ σ') (h : ∀ k ∈ vs, k ∈ us) : Off us σ σ' := ⟨a.1, fun k z => a.2 k fun q => z (h k q)⟩
theorem wipe_get (σ : St) : ∀ (vs : List Nat) (k : Nat), (wipe σ vs)[k]? = if k ∈ vs ∧ k < σ.length then some none else σ[k]?
  | [], k => by simp [wipe]
  | v :: vs, k => by
    unfold wipe
    by_cases z : k = v
    · subst z
      by_cases hl : k < σ.length
      · rw [List.getElem?_set_self (by rw [wipe_length]; exact hl), if_pos ⟨List.mem_cons_self, hl⟩]
      · rw [if_neg (fun q => hl q.2), List.getElem?_eq_none (by rw [List.length_set, wipe_length]; omega), List.getElem?_eq_none (by omega)]
    · rw [List.getElem?_set_ne (Ne.symm z), wipe_get σ vs k]
      have : (k ∈ v :: vs) ↔ k ∈ vs := by simp [z]
      simp only [this]
theorem Off.wipe {vs : List Nat} {σ σ' : St} (a : Off vs (wipe σ vs) σ') : L2.wipe σ' vs = L2.wipe σ vs := by
  apply List.ext_getElem?
  intro k
  have hl : σ'.length = σ.length := by rw [a.1, wipe_length]
  rw [wipe_get, wipe_get, hl]
  split
  · rfl
  · rename_i h
    by_cases z : k ∈ vs
    · have : ¬ k < σ.length := fun q => h ⟨z, q⟩
      rw [List.getElem?_eq_none (by omega), List.getElem?_eq_none (by omega)]
    · rw [a.2 k z, wipe_get, if_neg (fun q => z q.1)]
theorem Off.set {i : Nat} {σ : St} {x : Option V} : Off [i] σ (σ.set i x) := ⟨List.length_set, fun k h => List.getElem?_set_ne (fun z => h (by simp [z]))⟩
def wipeD (ds : Sl) : List Nat → Sl
  | [] => ds
  | v :: vs => (wipeD ds vs).set v none
theorem DenS.wipe {g : Gm} {π : Pi} {G : Hp} {ds : Sl} {σ : St} (h : DenS g π G ds σ) : ∀ vs : List Nat, DenS g π G (wipeD ds vs) (wipe σ vs)
  | [] => h
  | v :: vs => by
    have q := DenS.wipe h vs
    refine ⟨by unfold wipeD L2.wipe; rw [List.length_set, List.length_set, q.1], fun i d e => ?_⟩
    unfold wipeD at e
    by_cases z : i = v
    · subst z
      have hl : i < ((wipeD ds vs).set i none).length := (List.getElem?_eq_some_iff.mp e).1
      rw [List.length_set] at hl
      rw [List.getElem?_set_self hl] at e
      cases e
    · rw [List.getElem?_set_ne (Ne.symm z)] at e
      obtain ⟨x, h1, h2⟩ := q.2 i d e
      exact ⟨x, by unfold L2.wipe; rw [List.getElem?_set_ne (Ne.symm z)]; exact h1, h2⟩
def LG (g : Gm) (vs : List Nat) (t : GD) : TG := fun v σ H Q => ∃ π w G F ds d, RW g π w G F H ∧ DenS g π G ds σ ∧ Den g π G d v ∧ ∃ ds', t d ds = some ds' ∧ ∀ σ', Off vs σ σ' → DenS g π G ds' σ' → Q σ' H
def LGs (g : Gm) (vs : List Nat) (t : GDs) : TGs := fun v σ H Q => ∃ π w G F ds d, RW g π w G F H ∧ DenS g π G ds σ ∧ DenL g π G d v ∧ ∃ ds', t d ds = some ds' ∧ ∀ σ', Off vs σ σ' → DenS g π G ds' σ' → Q σ' H
def gN (i : Nat) : GD := fun d ds => some (ds.set i (some d))
def gsNil : GDs := fun l ds => match l with | [] => some ds | _ => none
def gsCons (t : GD) (u : GDs) : GDs := fun l ds => match l with | d :: r => (t d ds).bind fun ds1 => u r ds1 | [] => none
def gT (n : Nat) (u : GDs) : GD := fun d ds => match d with | .tup l => if l.length = n then u l ds else none | _ => none
section
variable {X : Cx} {g : Gm}
theorem _root_.L2.PG.imp {X : Cx} {e : Expr} {t t' : TG} (h : PG X e t) (q : ∀ v σ H Q, t' v σ H Q → t v σ H Q) : PG X e t' := ⟨fun pins s σ H v u Q I r x => h.run pins s σ H v u Q I r (q _ _ _ _ x)⟩
theorem _root_.L2.PGs.imp {X : Cx} {e : List Expr} {t t' : TGs} (h : PGs X e t) (q : ∀ v σ H Q, t' v σ H Q → t v σ H Q) : PGs X e t' := ⟨fun pins s σ H v u Q I r x => h.run pins s σ H v u Q I r (q _ _ _ _ x)⟩
theorem dg_name {i : Nat} {x : Str} {pos : Pos} (hN : X.N.Nodup) (hi : X.N[i]? = some x) (hx : Loc X.env.scope x) (hf : X.fn x = true ∨ X.env.scope.names.lookup x = some .local := by first | exact .inl rfl | exact .inr rfl | assumption) : PG X (.Name x pos) (LG g [i] (gN i)) :=
  (pg_name hN hi hx hf).imp fun v σ H Q h => by
    obtain ⟨π, w, G, F, ds, d, r, s, hd, ds', e, q⟩ := h
    cases e
    exact q _ Off.set (s.put i hd)
theorem dgs_nil : PGs X [] (LGs g [] gsNil) := pgs_nil.imp fun v σ H Q h => by
  obtain ⟨π, w, G, F, ds, d, r, s, hd, ds', e, q⟩ := h
  cases hd with
  | nil => cases e; exact ⟨rfl, q _ (Off.refl _ _) s⟩
  | cons _ _ => cases e
theorem dgs_cons {t : GD} {u : GDs} {e : Expr} {es : List Expr} {vs us : List Nat} (h1 : PG X e (LG g vs t)) (h2 : PGs X es (LGs g us u)) (hs : (assignEach (e :: es) X.env).map (·.2) = assign e X.env :: (assignEach es X.env).map (·.2) := by rfl) : PGs X (e :: es) (LGs g (vs ++ us) (gsCons t u)) := by
  refine (pgs_cons h1 h2 hs).imp fun v σ H Q h => ?_
  obtain ⟨π, w, G, F, ds, d, r, s, hd, ds', e, q⟩ := h
  cases hd with
  | nil => cases e
  | @cons d0 dr v0 vr h0 hr =>
    unfold gsCons at e
    dsimp only at e
    cases z : t d0 ds with
    | none => rw [z] at e; cases e
    | some ds1 =>
      rw [z] at e
      exact ⟨v0, vr, rfl, π, w, G, F, ds, d0, r, s, h0, ds1, z, fun σ1 o1 s1 => ⟨π, w, G, F, ds1, dr, r, s1, hr, ds', e, fun σ2 o2 s2 => q σ2 (o1.trans o2) s2⟩⟩
theorem dg_tup {es : List Expr} {k : Nat} {u : GDs} {n : Nat} {pos : Pos} {vs : List Nat} (hc : X.calm = true) (h : PGs X es (LGs g vs u)) (hK : X.K = g.K := by rfl)
    (hn : (assignEach es X.env).length = n := by rfl) (hst : (assignEach es X.env).findIdx? (·.1) = none := by rfl) : PG X (.Tuple es k pos) (LG g vs (gT n u)) := by
  refine (pg_tup hc h hn hst).imp fun v σ H Q h => ?_
  obtain ⟨π, w, G, F, ds, d, r, s, hd, ds', e, q⟩ := h
  unfold gT at e
  split at e
  · rename_i l
    split at e
    · rename_i hl
      cases hd with
      | tup e1 l1 =>
        refine ⟨_, _, rfl, ?_, by rw [l1.length]; exact hl, π, w, G, F, ds, _, r, s, l1, ds', e, q⟩
        rw [hK]
        exact seqT r.sub e1
    · cases e
  · cases e
end
/-! ### walks -/
def ItOk (g : Gm) (F0 : Hp) (J : It) (π0 : Pi) (G0 : Hp) (its : List D) : Prop := ∀ (i : Nat) π w G F H, Same G0 G → Sub π0 π → Same F0 F → RW g π w G F H → (its.length ≤ i → J.stop i H) ∧
  ∀ d, its[i]? = some d → J.go i H ∧ ∀ x H', J.yld i H x H' → ∃ G', Same G G' ∧ RW g π w G' F H' ∧ Den g π G' d x
theorem _root_.L2.PI.imp {X : Cx} {tg e : Expr} {t t' : TI} (h : PI X tg e t) (q : ∀ σ H Q, t' σ H Q → t σ H Q) : PI X tg e t' := ⟨fun pins s σ H Q I x => h.run pins s σ H Q I (q _ _ _ x)⟩
abbrev II := Sl → W → M (List D × W)
def LI (g : Gm) (E : XK) (f : II) : TI := fun σ H R => ∃ π w G F ds, RW g π w G F H ∧ DenS g π G ds σ ∧ (f ds w).wp (fun p => ∀ J H' π' G', Same G G' → Sub π π' → RW g π' p.2 G' F H' → ItOk g F J π' G' p.1 → R J H') (PostE g π G F E)
end Gd

set_option Elab.async false
set_option linter.all false
set_option maxRecDepth 100000
set_option maxHeartbeats 4000000
namespace Gd
open PySem L2
/-! ### for -/
def forM (t : GD) (body : SS) : List D → Sl → W → M (Fl × W)
  | [], ds, w => .ret (.nx ds, w)
  | d :: r, ds, w => match t d ds with
    | none => .bad
    | some ds1 => (body ds1 w).bind fun p => match p.1 with
      | .nx ds2 => forM t body r ds2 p.2
      | .ct ds2 => forM t body r ds2 p.2
      | .bk ds2 => .ret (.nx ds2, p.2)
      | .rt v => .ret (.rt v, p.2)
def sFor (fi : II) (t : GD) (body : SS) : SS := fun ds w => (fi ds w).bind fun p => forM t body p.1 ds p.2
section
variable {X : Cx} {g : Gm} {E : XK}
theorem ds_for {tg iter : Expr} {body : List Stmt} {fi : II} {t : GD} {fb : SS} {vs : List Nat} {pos : Pos} (hp : PassesOwn (model X.prog X.w) X.A X.env X.xe) (hc : X.calm = true) (hi : PI X tg iter (LI g E fi)) (hg : PG X tg (LG g vs t)) (hb : PSs X body (LS g E fb))
    (hs : ∀ x, foldedSetIterable iter X.env x = pure x := by intro _; rfl) : PS X (.For tg iter body [] pos) (LS g E (sFor fi t fb)) := by
  refine (ps_for hp hc hi hg hb hs).imp fun D σ H h => ?_
  obtain ⟨π, w, G, F, ds, r, s, h⟩ := h
  refine ⟨π, w, G, F, ds, r, s, M.wp_mono (M.wp_bind h) (fun p hp J H1 π1 G1 sG sP r1 ok => ?_) fun _ x => x⟩
  obtain ⟨its, w1⟩ := p
  refine ⟨fun i m σ H => m = its.length - i ∧ i ≤ its.length ∧ ∃ π2 w2 G2 ds2, Same G1 G2 ∧ Sub π1 π2 ∧ RW g π2 w2 G2 F H ∧ DenS g π2 G2 ds2 σ ∧ (forM t fb (its.drop i) ds2 w2).wp (SPost g π2 G2 F D) (PostE g π2 G2 F E),
    ⟨its.length, by simp, Nat.zero_le _, π1, w1, G1, ds, Same.refl _, Sub.refl _, r1, s.mono sG sP, M.wp_mono hp (fun _ x => x.mono sG sP) fun _ x => x.mono sG sP⟩, ?_⟩
  rintro i m σ H ⟨rfl, hi, π2, w2, G2, ds2, s2, p2, r2, e2, h2⟩
  obtain ⟨o1, o2⟩ := ok i π2 w2 G2 F H s2 p2 (Same.refl F) r2
  by_cases hlt : i < its.length
  · obtain ⟨g1, g2⟩ := o2 its[i] (List.getElem?_eq_getElem hlt)
    refine .inr ⟨g1, fun σ' H' => ∃ π2 w2 G2 ds2, Same G1 G2 ∧ Sub π1 π2 ∧ RW g π2 w2 G2 F H' ∧ DenS g π2 G2 ds2 σ' ∧ (forM t fb (its.drop (i + 1)) ds2 w2).wp (SPost g π2 G2 F D) (PostE g π2 G2 F E), fun σ' H' q => ⟨its.length - (i + 1), by omega, rfl, hlt, q⟩, fun x H' hy => ?_⟩
    obtain ⟨G3, s3, r3, d3⟩ := g2 x H' hy
    rw [List.drop_eq_getElem_cons hlt] at h2
    unfold forM at h2
    split at h2
    · exact h2.elim
    · rename_i ds3 z
      refine ⟨π2, w2, G3, F, ds2, its[i], r3, e2.mono s3 (Sub.refl _), d3, ds3, z, fun σ3 _ e3 => ⟨π2, w2, G3, F, ds3, r3, e3, M.wp_mono (M.wp_bind h2) (fun q hq => ?_) fun _ x => x.mono s3 (Sub.refl _)⟩⟩
      obtain ⟨f, w4⟩ := q
      cases f with
      | nx ds4 => exact fun σ4 H4 π4 G4 s4 p4 r4 e4 => ⟨π4, w4, G4, ds4, s2.trans (s3.trans s4), p2.trans p4, r4, e4, M.wp_mono hq (fun _ x => x.mono (s3.trans s4) p4) fun _ x => x.mono (s3.trans s4) p4⟩
      | ct ds4 => exact fun σ4 H4 π4 G4 s4 p4 r4 e4 => ⟨π4, w4, G4, ds4, s2.trans (s3.trans s4), p2.trans p4, r4, e4, M.wp_mono hq (fun _ x => x.mono (s3.trans s4) p4) fun _ x => x.mono (s3.trans s4) p4⟩
      | bk ds4 => exact fun σ4 H4 π4 G4 s4 p4 r4 e4 => hq σ4 H4 π4 G4 (s3.trans s4) p4 r4 e4
      | rt d4 => exact fun σ4 H4 π4 G4 s4 p4 r4 e4 => hq σ4 H4 π4 G4 (s3.trans s4) p4 r4 e4
  · refine .inl ⟨o1 (by show its.length ≤ i; omega), ?_⟩
    rw [List.drop_eq_nil_of_le (by omega)] at h2
    exact h2 σ H π2 G2 (Same.refl _) (Sub.refl _) r2 e2
/-! what is walked -/
def itD (d : D) (w : W) : M (List D × W) := match d with | .lst l => .ret (l, w) | .tup l => .ret (l, w) | _ => .bad
def itE (a : EE) : II := fun ds w => (a ds w).bind fun p => itD p.1 p.2
def rngD (lo : Int) (n : Nat) : List D := (List.range n).map fun (i : Nat) => D.int (lo + (i : Int))
def cR (n : Int) : Bool := decide (-4611686018427387904 ≤ n) && decide (n < 4611686018427387904)
theorem cR_ok {n : Int} (h : cR n = true) : -(2 ^ 62) ≤ n ∧ n < 2 ^ 62 := by
  unfold cR at h
  rw [Bool.and_eq_true, decide_eq_true_eq, decide_eq_true_eq] at h
  omega
def r1D (d : D) (w : W) : M (List D × W) := match d with | .int n => if cR n = true then .ret (rngD 0 n.toNat, w) else .bad | _ => .bad
def itR1 (a : EE) : II := fun ds w => (a ds w).bind fun p => r1D p.1 p.2
def r2D (d e : D) (w : W) : M (List D × W) := match d, e with | .int m, .int n => if (cR m && cR n) = true then .ret (rngD m (n - m).toNat, w) else .bad | _, _ => .bad
def itR2 (a b : EE) : II := fun ds w => (a ds w).bind fun p => (b ds p.2).bind fun q => r2D p.1 q.1 q.2
def zipD : Nat → List D → List D
  | _, [] => []
  | k, d :: r => .tup [.int k, d] :: zipD (k + 1) r
def enD (d : D) (w : W) : M (List D × W) := match d with | .lst l => .ret (zipD 0 l, w) | _ => .bad
def itEnum (a : EE) : II := fun ds w => (a ds w).bind fun p => enD p.1 p.2
def zpD (d e : D) (w : W) : M (List D × W) := match d, e with | .lst l, .lst m => .ret (List.zipWith (fun x y => D.tup [x, y]) l m, w) | _, _ => .bad
def itZip (a b : EE) : II := fun ds w => (a ds w).bind fun p => (b ds p.2).bind fun q => zpD p.1 q.1 q.2
def iSeq (K : PySem.W.Frag) (tl : TE) : TI := fun σ H R => tl σ H fun x H1 => ∃ a, x = .ref a ∧ (((∃ xs, SqL K H1 a xs) ∧ R (Itl K a) H1) ∨ ((∃ xs, SqT K H1 a xs) ∧ R (Itt K a) H1))
theorem pi_seq {tg l : Expr} {tl : TE} (hl : PE X l tl) : PI X tg l (iSeq X.K tl) := by
  refine ⟨fun pins s σ H R I h => ?_⟩
  refine thn (hl.run pins s σ H _ I h) fun v s1 ⟨x, H1, I1, r1, q1⟩ => ?_
  obtain ⟨a, e, q1⟩ := q1
  subst e
  cases r1
  rcases q1 with ⟨⟨xs, hq⟩, q⟩ | ⟨⟨xs, hq⟩, q⟩
  · obtain ⟨its, rv, p, hz⟩ := I1.list hq
    refine wpAny_pyIter_list p.isList ?_
    refine ⟨s1.heap.objs.size, [s1.heap.objs.size], _, _, H1, rfl, I1.kept (t' := s1.toks) fun b o e => Heap.get?_push_of_some _ e, turn_list a _, ⟨_, Heap.get?_push_size _ rfl, rfl, rfl⟩, fun b hb => ?_, q⟩
    have e : b = s1.heap.objs.size := by simpa using hb
    subst e
    exact I1.fpOk (Nat.le_refl _) (I1.hok.fresh (Nat.le_refl _))
  · obtain ⟨its, rv, p, hz⟩ := I1.tuple hq
    refine wpAny_pyIter_tuple (show s1.heap.IsTuple a its.toArray from p) ?_
    refine ⟨s1.heap.objs.size, [s1.heap.objs.size], _, _, H1, rfl, I1.kept (t' := s1.toks) fun b o e => Heap.get?_push_of_some _ e, turn_tuple a _, ⟨_, Heap.get?_push_size _ rfl, rfl, rfl⟩, fun b hb => ?_, q⟩
    have e : b = s1.heap.objs.size := by simpa using hb
    subst e
    exact I1.fpOk (Nat.le_refl _) (I1.hok.fresh (Nat.le_refl _))
theorem itl_ok {π : Pi} {G F : Hp} {a : Addr} {xs : List V} {l : List D} (h : G a = some (.lst xs)) (dl : DenL g π G l xs) : ItOk g F (Itl g.K a) π G l := by
  intro i π2 w2 G2 F2 H2 s2 p2 _ r2
  have hq : SqL g.K H2 a xs := .inl (.inl (r2.sub _ _ (s2 _ _ h)))
  have hl := dl.length
  refine ⟨fun hi => ⟨xs, hq, by omega⟩, fun d e => ?_⟩
  obtain ⟨v, h1, h2⟩ := dl.get e
  refine ⟨⟨xs, v, hq, h1⟩, fun x H' hy => ?_⟩
  obtain ⟨rfl, hy⟩ := hy
  have : x = v := Option.some.inj ((hy xs hq).symm.trans h1)
  subst this
  exact ⟨G2, Same.refl _, r2, h2.mono s2 p2⟩
theorem itt_ok {π : Pi} {G F : Hp} {a : Addr} {xs : List V} {l : List D} (h : SqT g.K G a xs) (dl : DenL g π G l xs) : ItOk g F (Itt g.K a) π G l := by
  intro i π2 w2 G2 F2 H2 s2 p2 _ r2
  have hq : SqT g.K H2 a xs := seqT r2.sub (seqT s2 h)
  have hl := dl.length
  refine ⟨fun hi => ⟨xs, hq, by omega⟩, fun d e => ?_⟩
  obtain ⟨v, h1, h2⟩ := dl.get e
  refine ⟨⟨xs, v, hq, h1⟩, fun x H' hy => ?_⟩
  obtain ⟨rfl, hy⟩ := hy
  have : x = v := Option.some.inj ((hy xs hq).symm.trans h1)
  subst this
  exact ⟨G2, Same.refl _, r2, h2.mono s2 p2⟩
theorem itr_ok {π : Pi} {G F : Hp} {lo : Int} {n : Nat} {l : List D} (e : l = rngD lo n) : ItOk g F (Itr lo n) π G l := by
  subst e
  unfold rngD
  intro i π2 w2 G2 F2 H2 s2 p2 _ r2
  refine ⟨fun hi => by show n ≤ i; simpa using hi, fun d e => ?_⟩
  rw [List.getElem?_map] at e
  by_cases hi : i < n
  · rw [List.getElem?_range hi] at e
    cases e
    refine ⟨hi, fun x H' hy => ?_⟩
    obtain ⟨rfl, rfl⟩ := hy
    exact ⟨G2, Same.refl _, r2, .int _⟩
  · rw [List.getElem?_eq_none (by simpa using hi)] at e
    cases e
/-- an expression's reading, then what is walked -/
theorem lift_thenI {α β : Type} {π : Pi} {w : W} {G F H : Hp} {ds : Sl} {σ : St} {rel1 : Pi → Hp → α → β → Prop} {f : Sl → W → M (α × W)} {k : α → W → M (List D × W)} {Q : β → Hp → Prop} {R : It → Hp → Prop}
    (r : RW g π w G F H) (s : DenS g π G ds σ) (h : ((f ds w).bind fun p => k p.1 p.2).wp (fun p => ∀ J H' π' G', Same G G' → Sub π π' → RW g π' p.2 G' F H' → ItOk g F J π' G' p.1 → R J H') (PostE g π G F E))
    (next : ∀ a w1 v H1 π1 G1, RW g π1 w1 G1 F H1 → DenS g π1 G1 ds σ → rel1 π1 G1 a v → Same G G1 → Sub π π1 → (k a w1).wp (fun p => ∀ J H' π' G', Same G1 G' → Sub π1 π' → RW g π' p.2 G' F H' → ItOk g F J π' G' p.1 → R J H') (PostE g π1 G1 F E) → Q v H1) : Lift g E rel1 f σ H Q :=
  ⟨π, w, G, F, ds, r, s, M.wp_mono (M.wp_bind h) (fun p hp v H1 π1 G1 sG sP r1 d1 =>
    next p.1 p.2 v H1 π1 G1 r1 (s.mono sG sP) d1 sG sP (M.wp_mono hp (fun _ x J H' π' G' s' q' => x J H' π' G' (sG.trans s') (sP.trans q')) (fun _ x => x.mono sG sP))) (fun _ x => x)⟩
theorem di_seq {tg l : Expr} {fa : EE} (ha : PE X l (LE g E fa)) (hK : X.K = g.K := by rfl) : PI X tg l (LI g E (itE fa)) := by
  refine (pi_seq ha).imp fun σ H R h => ?_
  obtain ⟨π, w, G, F, ds, r, s, h⟩ := h
  refine lift_thenI (k := itD) r s h fun x w1 v H1 π1 G1 r1 s1 d1 _ _ h1 => ?_
  rw [hK]
  cases d1 with
  | lst e l => exact ⟨_, rfl, .inl ⟨⟨_, .inl (.inl (r1.sub _ _ e))⟩, h1 _ H1 π1 G1 (Same.refl _) (Sub.refl _) r1 (itl_ok e l)⟩⟩
  | tup e l => exact ⟨_, rfl, .inr ⟨⟨_, seqT r1.sub e⟩, h1 _ H1 π1 G1 (Same.refl _) (Sub.refl _) r1 (itt_ok e l)⟩⟩
  | non => exact h1.elim
  | bl _ => exact h1.elim
  | int i => exact h1.elim
  | str i => exact h1.elim
  | dic _ _ _ _ => exact h1.elim
  | ins _ _ _ _ => exact h1.elim
  | box _ => exact h1.elim
  | scr _ _ => exact h1.elim
theorem di_range1 {tg a : Expr} {fa : EE} {p pos : Pos} (hg : Gl X "range") (hm : X.mg "range" = none) (ha : PE X a (LE g E fa)) (hs : noStar a = true := by rfl) : PI X tg (.Call (.Name "range" p) [a] [] pos) (LI g E (itR1 fa)) := by
  refine (pi_range1 hg hm (pa_cons ha pa_nil (starE hs)) (starE hs)).imp fun σ H R h => ?_
  obtain ⟨π, w, G, F, ds, r, s, h⟩ := h
  refine lift_thenI (k := r1D) r s h fun x w1 v H1 π1 G1 r1 s1 d1 _ _ h1 => ?_
  cases d1 with
  | int n =>
    unfold r1D at h1
    dsimp only at h1
    split at h1
    · rename_i hz
      exact ⟨n, rfl, (cR_ok hz).1, (cR_ok hz).2, h1 _ H1 π1 G1 (Same.refl _) (Sub.refl _) r1 (itr_ok rfl)⟩
    · exact h1.elim
  | non => exact h1.elim
  | bl _ => exact h1.elim
  | lst _ _ => exact h1.elim
  | tup _ _ => exact h1.elim
  | str i => exact h1.elim
  | dic _ _ _ _ => exact h1.elim
  | ins _ _ _ _ => exact h1.elim
  | box _ => exact h1.elim
  | scr _ _ => exact h1.elim
end
/-! ### comprehensions -/
def M.calm {α : Type} : M α → M α
  | .ret a => .ret a
  | .err _ => .bad
  | .draw n k => .draw n fun d => (k d).calm
  | .bad => .bad
theorem M.wp_calm {α : Type} {Q : α → Prop} {E : Er → Prop} : ∀ {m : M α}, m.calm.wp Q E → m.wp Q fun _ => False
  | .ret _, h => h
  | .err _, h => h.elim
  | .draw n k, h => ⟨h.1, h.2.1, fun d h0 h1 => M.wp_calm (h.2.2 d h0 h1)⟩
  | .bad, h => h.elim
def lcM (t : GD) (test : TT2) (elt : EE) (ds : Sl) : List D → List D → W → M (List D × W)
  | [], acc, w => .ret (acc, w)
  | d :: r, acc, w => match t d ds with
    | none => .bad
    | some ds1 => (test ds1 w).bind fun p => if p.1 = true then (elt ds1 p.2).bind fun q => if lenOk acc.length = true then lcM t test elt ds r (acc ++ [q.1]) q.2 else .bad else lcM t test elt ds r acc p.2
def eLc (vs : List Nat) (fi : II) (t : GD) (test : TT2) (elt : EE) : EE := fun ds w => (fi ds w).bind fun p => (lcM t test elt (wipeD ds vs) p.1 [] p.2).calm.bind fun q => .ret (.lst q.1, q.2)
def tYes2 : TT2 := fun _ w => .ret (true, w)
def FalseE : XK := fun _ _ _ => False
section
variable {X : Cx} {g : Gm} {E : XK}
theorem dts_nil : PTs X [] (LT g E tYes2) := ⟨fun pins s σ H Q I h => by
  obtain ⟨π, w, G, F, ds, r, s', h⟩ := h
  exact pts_nil.run pins s σ H Q I (h true H π G (Same.refl _) (Sub.refl _) r rfl)⟩
theorem dts_one {c : Expr} {f : TT2} (h : PT X c (LT g E f)) : PTs X [c] (LT g E f) := pts_one h
theorem lc_turns {fi : II} {t : GD} {test : TT2} {elt : EE} {vs us : List Nat} (hu : ∀ k ∈ us, k ∈ vs) {σ : St} {H : Hp} {Q : VK} (h : LE g E (eLc vs fi t test elt) σ H Q) : tLc (LI g E fi) (LG g us t) (LT g E0 test) (LE g E0 elt) vs σ H Q := by
  obtain ⟨π, w, G, F, ds, r, s, h⟩ := h
  refine ⟨π, w, G, F, ds, r, s, M.wp_mono (M.wp_bind h) (fun p hp J H1 π1 G1 sG sP r1 ok Dd nD => ?_) fun _ x => x⟩
  obtain ⟨its, w1⟩ := p
  have s1 : DenS g π1 G1 (wipeD ds vs) (wipe σ vs) := (s.mono sG sP).wipe vs
  have nF : F Dd = none := r1.freeF nD
  have hp2 := M.wp_calm (M.wp_mono (M.wp_bind hp) (fun _ x => x) fun _ x => x)
  refine ⟨fun i m H => m = its.length - i ∧ i ≤ its.length ∧ ∃ π2 w2 G2 acc xs, Same G1 G2 ∧ Sub π1 π2 ∧ RW g π2 w2 G2 (upd F Dd (.lst xs)) H ∧ DenL g π2 G2 acc xs ∧
      (lcM t test elt (wipeD ds vs) (its.drop i) acc w2).wp (fun q => EPost g π2 G2 F Q (.lst q.1, q.2)) (fun _ => False),
    ⟨its.length, by simp, Nat.zero_le _, π1, w1, G1, [], [], Same.refl _, Sub.refl _, r1.layF nD _, .nil, M.wp_mono hp2 (fun q x => Post.mono sG sP x) fun _ x => x⟩, ?_⟩
  rintro i m H ⟨rfl, hi, π2, w2, G2, acc, xs, s2, p2, r2, da, h2⟩
  obtain ⟨o1, o2⟩ := ok i π2 w2 G2 _ H s2 p2 (same_new nF _) r2
  by_cases hlt : i < its.length
  · obtain ⟨g1, g2⟩ := o2 its[i] (List.getElem?_eq_getElem hlt)
    refine .inr ⟨g1, fun H' => ∃ π2 w2 G2 acc xs, Same G1 G2 ∧ Sub π1 π2 ∧ RW g π2 w2 G2 (upd F Dd (.lst xs)) H' ∧ DenL g π2 G2 acc xs ∧
      (lcM t test elt (wipeD ds vs) (its.drop (i + 1)) acc w2).wp (fun q => EPost g π2 G2 F Q (.lst q.1, q.2)) (fun _ => False), fun H' q => ⟨its.length - (i + 1), by omega, rfl, hlt, q⟩, fun x H' hy => ?_⟩
    obtain ⟨G3, s3, r3, d3⟩ := g2 x H' hy
    rw [List.drop_eq_getElem_cons hlt] at h2
    unfold lcM at h2
    split at h2
    · exact h2.elim
    · rename_i ds3 z
      refine ⟨π2, w2, G3, _, wipeD ds vs, its[i], r3, s1.mono (s2.trans s3) p2, d3, ds3, z, fun σ3 o3 e3 => ⟨(o3.mono hu).wipe, ?_⟩⟩
      refine ⟨π2, w2, G3, _, ds3, r3, e3, M.wp_mono (M.wp_bind h2) (fun q hq b H4 π4 G4 s4 p4 r4 eb => ?_) fun _ x => x.elim⟩
      obtain ⟨b', w4⟩ := q
      have eb : b' = b := eb
      subst eb
      have e4 := e3.mono s4 p4
      cases b' with
      | true =>
        rw [if_pos rfl] at hq ⊢
        refine ⟨π4, w4, G4, _, ds3, r4, e4, M.wp_mono (M.wp_bind hq) (fun q5 hq5 y H5 π5 G5 s5 p5 r5 dy => ?_) fun _ x => x.elim⟩
        obtain ⟨y', w5⟩ := q5
        dsimp only at hq5
        split at hq5
        · rename_i hz
          have da5 : DenL g π5 G5 acc xs := da.mono (s3.trans (s4.trans s5)) (p4.trans p5)
          refine ⟨xs, r5.fr _ _ upd_same, by rw [da.length]; exact lenOk_lt hz, π5, w5, G5, acc ++ [y'], xs ++ [y], s2.trans (s3.trans (s4.trans s5)), p2.trans (p4.trans p5), ?_, da5.append (DenL.one dy), M.wp_mono hq5 (fun _ x => Post.mono (s3.trans (s4.trans s5)) (p4.trans p5) x) fun _ x => x⟩
          have q := r5.putF (o' := .lst (xs ++ [y])) upd_same
          rw [upd_upd] at q
          exact q
        · exact hq5.elim
      | false =>
        rw [if_neg Bool.false_ne_true] at hq ⊢
        exact ⟨π4, w4, G4, acc, xs, s2.trans (s3.trans s4), p2.trans p4, r4, da.mono (s3.trans s4) p4, M.wp_mono hq (fun _ x => Post.mono (s3.trans s4) p4 x) fun _ x => x⟩
  · refine .inl ⟨o1 (by show its.length ≤ i; omega), ?_⟩
    rw [List.drop_eq_nil_of_le (by omega)] at h2
    obtain ⟨r5, s5⟩ := r2.dropF nF
    exact h2 (.ref Dd) H π2 _ s5 (Sub.refl _) r5 (.lst upd_same (da.mono s5 (Sub.refl _)))
theorem de_lc {elt tg iter : Expr} {ifs : List Expr} {scope : Scope} {own : List (Str × Nat)} {pos : Pos} {fi : II} {t : GD} {ft : TT2} {fe : EE} {us : List Nat} (hc : X.calm = true) (hN : X.N.Nodup) (hi : PI X tg iter (LI g E fi)) (ok : BlkOk X.N X.env.scope scope own)
    (hg : ∀ (s : Shared) (H : Hp) (C : Addr) (cl : List (Str × Addr)) (fp : List Addr), PG (X.blk s H scope (compEnvC scope cl C X.env) fp) tg (LG g us t)) (ht : ∀ (s : Shared) (H : Hp) (C : Addr) (cl : List (Str × Addr)) (fp : List Addr), PTs (X.blk s H scope (compEnvC scope cl C X.env) fp) ifs (LT g E0 ft))
    (he : ∀ (s : Shared) (H : Hp) (C : Addr) (cl : List (Str × Addr)) (fp : List Addr), PE (X.blk s H scope (compEnvC scope cl C X.env) fp) elt (LE g E0 fe)) (hu : ∀ k ∈ us, k ∈ own.map (·.2)) (hs : ∀ x, foldedSetIterable iter X.env x = pure x := by intro _; rfl) :
    PE X (.ListComp elt [⟨tg, iter, ifs, 0⟩] scope pos) (LE g E (eLc (own.map (·.2)) fi t ft fe)) :=
  (pe_lc hc hN hi ok hg ht he hs).imp fun σ H Q h => lc_turns hu h
theorem ds_setLc {i : Nat} {y : Str} {py : Pos} {elt tg iter : Expr} {ifs : List Expr} {scope : Scope} {own : List (Str × Nat)} {pos spos : Pos} {fi : II} {t : GD} {ft : TT2} {fe : EE} {us : List Nat} (hc : X.calm = true) (hN : X.N.Nodup) (hy : X.N[i]? = some y) (hyl : X.env.scope.names.lookup y = some .local)
    (hsw : swapsWith (.ListComp elt [⟨tg, iter, ifs, 0⟩] scope pos) (some (.Name y py)) spos.line X.env = pure true) (hi : PI X tg iter (LI g E fi)) (ok : BlkOk X.N X.env.scope scope own)
    (hg : ∀ (s : Shared) (H : Hp) (C : Addr) (cl : List (Str × Addr)) (fp : List Addr), PG (X.blk s H scope (compEnvC scope cl C X.env) fp) tg (LG g us t)) (ht : ∀ (s : Shared) (H : Hp) (C : Addr) (cl : List (Str × Addr)) (fp : List Addr), PTs (X.blk s H scope (compEnvC scope cl C X.env) fp) ifs (LT g E0 ft))
    (he : ∀ (s : Shared) (H : Hp) (C : Addr) (cl : List (Str × Addr)) (fp : List Addr), PE (X.blk s H scope (compEnvC scope cl C X.env) fp) elt (LE g E0 fe)) (hu : ∀ k ∈ us, k ∈ own.map (·.2)) (hs : ∀ x, foldedSetIterable iter X.env x = pure x := by intro _; rfl) :
    PS X (.Assign [.Name y py] (.ListComp elt [⟨tg, iter, ifs, 0⟩] scope pos) spos) (LS g E (sSet i (eLc (own.map (·.2)) fi t ft fe))) := by
  refine (ps_setLc hc hN hy hyl hsw hi ok hg ht he hs).imp fun D σ H h => ?_
  obtain ⟨π, w, G, F, ds, r, s, h⟩ := h
  refine lc_turns (g := g) (E := E) hu ?_
  exact lift_thenS (k := fun x w1 => .ret (.nx (ds.set i (some x)), w1)) r s h fun x w1 v H1 π1 G1 r1 s1 d1 _ _ h1 => h1 _ H1 π1 G1 (Same.refl G1) (Sub.refl π1) r1 (s1.put i d1)
end
/-! ### a def -/
def fnM (n : Nat) (body : SS) : List D → W → M (D × W) := fun ds w => (body (ds.map some ++ List.replicate (n - ds.length) none) w).bind fun p => match p.1 with | .nx _ => .ret (.non, p.2) | .rt d => .ret (d, p.2) | _ => .bad
section
variable {P : Program} {w : World} {K : PySem.W.Frag} {mg : Str → Option Value} {base : Heap} {g : Gm}
theorem passX {N : List Str} {qual : Str} {sc : Scope} {f : Addr} {cdv : Value} {A : Around} {outer : List Env} {s : Shared} {H : Hp} {E : XK} : Passes (L2.CX P w) (cxOf (L2.CX P w) P w K mg base N qual sc f cdv A outer s H E) E :=
  fun pins σ H s e s' I c => passes_call (W := fun cls d _ H => E cls d H) (takes_of rfl rfl rfl rfl) (fun _ _ _ _ h => h) pins σ H s e s' I c
theorem ownX {N : List Str} {qual : Str} {sc : Scope} {f : Addr} {cdv : Value} {A : Around} {outer : List Env} {s : Shared} {H : Hp} {E : XK} : PassesOwn (model P w) (cxOf (L2.CX P w) P w K mg base N qual sc f cdv A outer s H E).A (cxOf (L2.CX P w) P w K mg base N qual sc f cdv A outer s H E).env (cxOf (L2.CX P w) P w K mg base N qual sc f cdv A outer s H E).xe :=
  passes_of (X := cxOf (L2.CX P w) P w K mg base N qual sc f cdv A outer s H E) rfl
theorem body_M {X : Cx} {E : XK} {sts : List Stmt} {body : SS} {N : List Str} {n : Nat} {vs : List V} {H : Hp} {Q : VK} (hb : PSs X sts (LS g E body)) (h : spM g n (fnM N.length body) vs H Q E) :
    ∃ t, PSs X sts t ∧ t { nx := fun _ H' => Q .non H', rt := Q } (start N vs) H := by
  obtain ⟨π, w, G, F, ds, r, s, hl, h⟩ := h
  refine ⟨_, hb, π, w, G, F, _, r, DenS.start s N, M.wp_mono (M.wp_bind h) (fun p hp => ?_) fun _ x => x⟩
  obtain ⟨f, w1⟩ := p
  cases f with
  | nx ds1 => exact fun σ' H' π' G' sg sp r' s' => hp .non H' π' G' sg sp r' .non
  | rt d => exact fun v H' π' G' sg sp r' s' => hp v H' π' G' sg sp r' s'
  | bk ds1 => exact hp.elim
  | ct ds1 => exact hp.elim
theorem fn_M {x qual : Str} {st : Stmt} {f : Addr} {fd : FuncData} {N ps : List Str} {k : Nat} {body : SS} (F : Fun K x qual st f fd) (S : FnScope N ps (defScope st))
    (hb : ∀ (cdv : Value) (A : Around) (outer : List Env) (s : Shared) (H : Hp) (E : XK), Room k (A.deeper (PyProof.Rows.envOfC qual (defScope st) s.heap.objs.size f cdv)) → PSs (cxOf (L2.CX P w) P w K mg base N qual (defScope st) f cdv A outer s H E) (defBody st) (LS g E body)) :
    FnOk P w K mg base (L2.CX P w) (k + 1) f fd ps (spM g ps.length (fnM N.length body)) :=
  F.okX S (fun vs H Q E h => by obtain ⟨π, w, G, F, ds, r, s, hl, h⟩ := h; rw [s.length]; exact hl) fun cdv A outer s H vs Q E hr h => body_M (hb cdv A outer s H E hr) h
end
end Gd

set_option Elab.async false
set_option linter.all false
set_option maxRecDepth 100000
set_option maxHeartbeats 4000000
namespace Gd
open PySem L2
/-! ### operators over data -/
def oI (c : Int → Int → Bool) (k : Int → Int → D) (x y : D) (w : W) : M (D × W) := match x, y with
  | .int i, .int j => if c i j = true then .ret (k i j, w) else .bad
  | _, _ => .bad
/-- a box's list, seen as a list -/
def peek (w : W) : D → D
  | .box i => match w[i]? with
    | some (some (.lst ds)) => .lst ds
    | some (some (.dic ks ds)) => .dic ks ds
    | _ => .box i
  | d => d
def PeekOk (g : Gm) (π : Pi) (G H : Hp) (v : V) : D → Prop
  | .lst ds => ∃ a xs, v = .ref a ∧ H a = some (.lst xs) ∧ DenL g π G ds xs
  | .dic ks ds => ∃ a kvs, v = .ref a ∧ H a = some (.dK kvs) ∧ kvs.map (·.1) = ks ∧ DenL g π G ds (kvs.map (·.2))
  | d => Den g π G d v
theorem peek_ok {g : Gm} {π : Pi} {w : W} {G F H : Hp} {d : D} {v : V} (r : RW g π w G F H) (h : Den g π G d v) : PeekOk g π G H v (peek w d) := by
  cases h with
  | lst e l => exact ⟨_, _, rfl, r.sub _ _ e, l⟩
  | dic e e2 e3 l => subst e3; exact ⟨_, _, rfl, r.sub _ _ e, e2, l⟩
  | @box i a e =>
    unfold peek
    dsimp only
    split
    · rename_i ds q
      obtain ⟨a', h1, _, _, xs, h3, h4⟩ := r.live _ _ q
      have : a' = a := Option.some.inj (h1.symm.trans e)
      subst this
      exact ⟨_, _, rfl, h3, h4⟩
    · rename_i ks ds q
      obtain ⟨a', h1, _, _, xs, h3, h4, h5⟩ := r.live _ _ q
      have : a' = a := Option.some.inj (h1.symm.trans e)
      subst this
      exact ⟨_, _, rfl, h3, h4, h5⟩
    · exact .box e
  | non => exact .non
  | bl b => exact .bl b
  | int b => exact .int b
  | str b => exact .str b
  | tup e l => exact .tup e l
  | ins e e2 e3 l => exact .ins e e2 e3 l
  | scr e l => exact .scr e l
def c64 (i : Int) : Bool := decide (-18446744073709551616 < i) && decide (i < 18446744073709551616)
theorem c64_ok {i : Int} (h : c64 i = true) : -(2 ^ 64) < i ∧ i < 2 ^ 64 := by
  unfold c64 at h
  rw [Bool.and_eq_true, decide_eq_true_eq, decide_eq_true_eq] at h
  omega
def cMul (i j : Int) : Bool := c64 i || c64 j
theorem cMul_ok {i j : Int} (h : cMul i j = true) : (-(2 ^ 64) < i ∧ i < 2 ^ 64) ∨ (-(2 ^ 64) < j ∧ j < 2 ^ 64) := by
  unfold cMul at h
  rw [Bool.or_eq_true] at h
  rcases h with h | h
  · exact .inl (c64_ok h)
  · exact .inr (c64_ok h)
def cDiv (_ j : Int) : Bool := decide (0 < j) && c64 j
def cMod (_ j : Int) : Bool := decide (0 < j)
def cPow (i j : Int) : Bool := decide (0 ≤ j) && decide (j ≤ 1000000) && c64 i
def cYes (_ _ : Int) : Bool := true
def addD (x y : D) (w : W) : M (D × W) := match peek w x, peek w y with
  | .int i, .int j => .ret (.int (i + j), w)
  | .str a, .str b => if lenOk (a.length + b.length) = true then .ret (.str (a ++ b), w) else .bad
  | .lst a, .lst b => if lenOk (a.length + b.length) = true then .ret (.lst (a ++ b), w) else .bad
  | .tup (a :: r), .tup (b :: s) => if lenOk ((a :: r).length + (b :: s).length) = true then .ret (.tup ((a :: r) ++ (b :: s)), w) else .bad
  | _, _ => .bad
def subD (x y : D) (w : W) : M (D × W) := match x, y with | .int i, .int j => .ret (.int (i - j), w) | _, _ => .bad
theorem subD_eq : subD = oI cYes fun i j => .int (i - j) := by funext x y w; unfold subD oI; cases x <;> cases y <;> rfl
def mulD (x y : D) (w : W) : M (D × W) := match peek w x, y with
  | .int i, .int j => if cMul i j = true then .ret (.int (i * j), w) else .bad
  | .lst a, .int k => if (decide (0 ≤ k) && cR k && lenOk (a.length * k.toNat)) = true then .ret (.lst (List.replicate k.toNat a).flatten, w) else .bad
  | _, _ => .bad
def fdivD (x y : D) (w : W) : M (D × W) := match x, y with | .int i, .int j => if cDiv i j = true then .ret (.int (i / j), w) else .bad | _, _ => .bad
theorem fdivD_eq : fdivD = oI cDiv fun i j => .int (i / j) := by funext x y w; unfold fdivD oI; cases x <;> cases y <;> rfl
def modD (x y : D) (w : W) : M (D × W) := match x, y with | .int i, .int j => if cMod i j = true then .ret (.int (i % j), w) else .bad | _, _ => .bad
theorem modD_eq : modD = oI cMod fun i j => .int (i % j) := by funext x y w; unfold modD oI; cases x <;> cases y <;> rfl
def powD (x y : D) (w : W) : M (D × W) := match x, y with | .int i, .int j => if cPow i j = true then .ret (.int (i ^ j.toNat), w) else .bad | _, _ => .bad
theorem powD_eq : powD = oI cPow fun i j => .int (i ^ j.toNat) := by funext x y w; unfold powD oI; cases x <;> cases y <;> rfl
def negD (x : D) (w : W) : M (D × W) := match x with | .int i => .ret (.int (-i), w) | _ => .bad
/-- a list of ints -/
def intsOf : List D → Option (List Int)
  | [] => some []
  | .int i :: r => (intsOf r).map (i :: ·)
  | _ => none
theorem ints_den {g : Gm} {π : Pi} {G : Hp} : ∀ {l : List D} {xs : List V} {ns : List Int}, DenL g π G l xs → intsOf l = some ns → xs = ns.map V.int
  | _, _, _, .nil, e => by cases e; rfl
  | _, _, ns, .cons (d := d) (ds := ds) h t, e => by
    cases h with
    | int i =>
      unfold intsOf at e
      cases q : intsOf ds with
      | none => rw [q] at e; cases e
      | some ms =>
        rw [q] at e
        cases e
        rw [ints_den t q]
        rfl
    | _ => cases e
def ltD (x y : D) (w : W) : M (D × W) := match x, y with
  | .int i, .int j => .ret (.bl (decide (i < j)), w)
  | .str a, .str b => .ret (.bl (decide (a.cps.toList < b.cps.toList)), w)
  | .tup a, .tup b => match intsOf a, intsOf b with | some ns, some ms => .ret (.bl (HT.lexLt ns ms), w) | _, _ => .bad
  | _, _ => .bad
def leD (x y : D) (w : W) : M (D × W) := match x, y with | .int i, .int j => .ret (.bl (decide (i ≤ j)), w) | _, _ => .bad
theorem leD_eq : leD = oI cYes fun i j => .bl (decide (i ≤ j)) := by funext x y w; unfold leD oI; cases x <;> cases y <;> rfl
def gtD (x y : D) (w : W) : M (D × W) := match x, y with | .int i, .int j => .ret (.bl (decide (j < i)), w) | _, _ => .bad
theorem gtD_eq : gtD = oI cYes fun i j => .bl (decide (j < i)) := by funext x y w; unfold gtD oI; cases x <;> cases y <;> rfl
def geD (x y : D) (w : W) : M (D × W) := match x, y with | .int i, .int j => .ret (.bl (decide (j ≤ i)), w) | _, _ => .bad
theorem geD_eq : geD = oI cYes fun i j => .bl (decide (j ≤ i)) := by funext x y w; unfold geD oI; cases x <;> cases y <;> rfl
mutual
def toPy : D → Option PyData
  | .non => some .none
  | .bl b => some (.bool b)
  | .int i => some (.int i)
  | .str x => some (.str x)
  | .lst l => (toPyL l).map .list
  | .tup l => (toPyL l).map .tuple
  | _ => none
def toPyL : List D → Option (List PyData)
  | [] => some []
  | d :: r => match toPy d, toPyL r with | some x, some xs => some (x :: xs) | _, _ => none
end
mutual
theorem toPy_dp {g : Gm} {π : Pi} {G H : Hp} (s : Same G H) : ∀ {d : D} {v : V} {p : PyData}, Den g π G d v → toPy d = some p → Dp g.K H v p
  | _, _, _, .non, e => by unfold toPy at e; cases e; exact .non
  | _, _, _, .bl b, e => by unfold toPy at e; cases e; exact .bl b
  | _, _, _, .int b, e => by unfold toPy at e; cases e; exact .int b
  | _, _, _, .str b, e => by unfold toPy at e; cases e; exact .str b
  | _, _, _, .lst (ds := ds) h l, e => by
    unfold toPy at e
    cases q : toPyL ds with
    | none => rw [q] at e; cases e
    | some ps => rw [q] at e; cases e; exact .lst (.inl (.inl (s _ _ h))) (toPy_dpL s l q)
  | _, _, _, .tup (ds := ds) h l, e => by
    unfold toPy at e
    cases q : toPyL ds with
    | none => rw [q] at e; cases e
    | some ps => rw [q] at e; cases e; exact .tup (seqT s h) (toPy_dpL s l q)
  | _, _, _, .dic _ _ _ _, e => by unfold toPy at e; cases e
  | _, _, _, .ins _ _ _ _, e => by unfold toPy at e; cases e
  | _, _, _, .box _, e => by unfold toPy at e; cases e
  | _, _, _, .scr _ _, e => by unfold toPy at e; cases e
theorem toPy_dpL {g : Gm} {π : Pi} {G H : Hp} (s : Same G H) : ∀ {d : List D} {v : List V} {p : List PyData}, DenL g π G d v → toPyL d = some p → DpAll g.K H v p
  | _, _, _, .nil, e => by unfold toPyL at e; cases e; exact .nil
  | _, _, _, .cons (d := d) (ds := ds) h t, e => by
    unfold toPyL at e
    cases q : toPy d with
    | none => rw [q] at e; cases e
    | some x =>
      cases q2 : toPyL ds with
      | none => rw [q, q2] at e; cases e
      | some xs => rw [q, q2] at e; cases e; exact .cons (toPy_dp s h q) (toPy_dpL s t q2)
end
/-- == of plain values of the same kind, and of None with them -/
def scalD : D → D → Option Bool
  | .non, .non => some true
  | .non, .int _ => some false
  | .int _, .non => some false
  | .non, .bl _ => some false
  | .bl _, .non => some false
  | .non, .str _ => some false
  | .str _, .non => some false
  | .int i, .int j => some (decide (i = j))
  | .bl i, .bl j => some (decide (i = j))
  | .str i, .str j => some (decide (i = j))
  | .int _, .str _ => some false
  | .str _, .int _ => some false
  | .bl _, .str _ => some false
  | .str _, .bl _ => some false
  | _, _ => none
def eqD? (w : W) (x y : D) : Option Bool := match scalD x y with
  | some b => some b
  | none => match toPy (peek w x), toPy (peek w y) with
    | some p, some q => if (SeqAt.shaped p && SeqAt.shaped q) = true then some (PyData.eqv p q) else none
    | _, _ => none
def eqD (x y : D) (w : W) : M (D × W) := match eqD? w x y with | some b => .ret (.bl b, w) | none => .bad
def neD (x y : D) (w : W) : M (D × W) := match eqD? w x y with | some b => .ret (.bl (!b), w) | none => .bad
def flatD : D → Bool
  | .non => true | .bl _ => true | .int _ => true | .str _ => true
  | _ => false
/-- == of flat values -/
def eqF : D → D → Bool
  | .non, .non => true
  | .bl a, .bl b => a == b
  | .bl a, .int b => (if a then 1 else 0) == b
  | .int a, .bl b => a == (if b then 1 else 0)
  | .int a, .int b => a == b
  | .str a, .str b => a == b
  | _, _ => false
def inF (x : D) (l : List D) : Bool := l.any fun y => eqF y x
def inD? (w : W) (x y : D) : Option Bool := match peek w y with
  | .lst l => if (flatD x && l.all flatD) = true then some (inF x l) else none
  | .tup l => if (flatD x && l.all flatD) = true then some (inF x l) else none
  | .str b => match x with | .str a => some (!(Builtin.Str.occurrences b a 0 b.length 1).isEmpty) | _ => none
  | _ => none
def inD (x y : D) (w : W) : M (D × W) := match inD? w x y with | some b => .ret (.bl b, w) | none => .bad
def notInD (x y : D) (w : W) : M (D × W) := match inD? w x y with | some b => .ret (.bl (!b), w) | none => .bad
def isNon : D → Bool
  | .non => true
  | _ => false
def isD? (x y : D) : Option Bool := match y with
  | .non => some (isNon x)
  | .bl b => match x with | .bl a => some (decide (a = b)) | _ => none
  | _ => none
def isD (x y : D) (w : W) : M (D × W) := match isD? x y with | some b => .ret (.bl b, w) | none => .bad
def isNotD (x y : D) (w : W) : M (D × W) := match isD? x y with | some b => .ret (.bl (!b), w) | none => .bad
def ixD (x y : D) (w : W) : M (D × W) := match peek w x, y with
  | .lst l, .int i => match atI l i with | some d => .ret (d, w) | none => .bad
  | .tup l, .int i => match atI l i with | some d => .ret (d, w) | none => .bad
  | .str z, .int i => if lenOk z.length = true then (match atI z.cps.toList i with | some c => .ret (.str ⟨#[c]⟩, w) | none => .bad) else .bad
  | _, _ => .bad
section
variable {X : Cx} {g : Gm} {E : XK}
theorem od_I {fn : Value → Value → Sem Value} {C : Int → Int → Prop} {c : Int → Int → Bool} {k : Int → Int → D} {kv : Int → Int → V} (hc : ∀ i j, c i j = true → C i j) (hk : ∀ π G i j, Den g π G (k i j) (kv i j)) (ho : OpR X fn (rI C kv)) : OpD X g E fn (oI c k) := by
  refine ⟨_, ho, fun π w G F H x y v u Q r dx dy h => ?_⟩
  unfold oI at h
  cases dx with
  | int i =>
    cases dy with
    | int j =>
      dsimp only at h
      split at h
      · rename_i z
        exact ⟨i, j, rfl, rfl, hc i j z, EPost.here h r (hk π G i j)⟩
      · exact h.elim
    | _ => exact h.elim
  | _ => exact h.elim
theorem od_I0 {fn : Value → Value → Sem Value} {k : Int → Int → D} {kv : Int → Int → V} (hk : ∀ π G i j, Den g π G (k i j) (kv i j)) (ho : OpR X fn (rI0 kv)) : OpD X g E fn (oI cYes k) := by
  refine ⟨_, ho, fun π w G F H x y v u Q r dx dy h => ?_⟩
  unfold oI at h
  cases dx with
  | int i =>
    cases dy with
    | int j =>
      dsimp only at h
      rw [show cYes i j = true from rfl, if_pos rfl] at h
      exact ⟨i, j, rfl, rfl, EPost.here h r (hk π G i j)⟩
    | _ => exact h.elim
  | _ => exact h.elim
theorem od_sub : OpD X g E (binaryOp .Sub) subD := by rw [subD_eq]; exact od_I0 (fun _ _ _ _ => .int _) op_sub
theorem od_fdiv : OpD X g E (binaryOp .FloorDiv) fdivD := fdivD_eq ▸ od_I (C := CDivW) (fun i j h => by
  unfold cDiv at h
  rw [Bool.and_eq_true, decide_eq_true_eq] at h
  have h2 := c64_ok h.2
  exact wide_div (b := 64) h.1 (by omega) (by decide) (by decide)) (fun _ _ _ _ => .int _) op_fdivW
theorem od_mod : OpD X g E (binaryOp .Mod) modD := modD_eq ▸ od_I (C := fun _ j => 0 < j) (fun i j h => of_decide_eq_true h) (fun _ _ _ _ => .int _) op_mod
theorem od_pow : OpD X g E (binaryOp .Pow) powD := powD_eq ▸ od_I (C := CPow) (fun i j h => by
  unfold cPow at h
  rw [Bool.and_eq_true, Bool.and_eq_true, decide_eq_true_eq, decide_eq_true_eq] at h
  have h2 := c64_ok h.2
  exact ⟨h.1.1, h.1.2, by omega⟩) (fun _ _ _ _ => .int _) op_pow
theorem od_le : OpD X g E (compareOp .LtE) leD := by rw [leD_eq]; exact od_I0 (fun _ _ _ _ => .bl _) op_le
theorem od_gt : OpD X g E (compareOp .Gt) gtD := by rw [gtD_eq]; exact od_I0 (fun _ _ _ _ => .bl _) op_gt
theorem od_ge : OpD X g E (compareOp .GtE) geD := by rw [geD_eq]; exact od_I0 (fun _ _ _ _ => .bl _) op_ge
theorem de_neg {a : Expr} {fa : EE} {pos : Pos} (ha : PE X a (LE g E fa)) : PE X (.UnaryOp .USub a pos) (LE g E (eUn negD fa)) := de_un un_neg (fun π w G F H x v Q r dx h => by
  unfold negD at h
  cases dx with
  | int i => exact ⟨i, rfl, EPost.here h r (.int _)⟩
  | _ => exact h.elim) ha
theorem od_add (hK : X.K = g.K := by rfl) : OpD X g E (binaryOp .Add) addD := by
  refine ⟨_, (op_add.or op_add_str).or (op_cat.or op_catT), fun π w G F H x y v u Q r dx dy h => ?_⟩
  unfold addD at h
  have px := peek_ok r dx
  have py := peek_ok r dy
  split at h
  · rename_i i j ex ey
    rw [ex] at px; rw [ey] at py
    cases px; cases py
    exact .inl (.inl ⟨i, j, rfl, rfl, EPost.here h r (.int _)⟩)
  · rename_i i j ex ey
    rw [ex] at px; rw [ey] at py
    cases px; cases py
    split at h
    · rename_i z
      exact .inl (.inr ⟨i, j, rfl, rfl, lenOk_le z, EPost.here h r (.str _)⟩)
    · exact h.elim
  · rename_i i j ex ey
    rw [ex] at px; rw [ey] at py
    obtain ⟨a, xs, rfl, ha, la⟩ := px
    obtain ⟨b, ys, rfl, hb, lb⟩ := py
    split at h
    · rename_i z
      exact .inr (.inl ⟨a, b, xs, ys, rfl, rfl, ha, hb, by rw [la.length, lb.length]; exact lenOk_le z, fun p hp => EPost.lay h r hp (Den.newL (r.free hp) (la.append lb))⟩)
    · exact h.elim
  · rename_i a0 r0 b0 s0 ex ey
    rw [ex] at px; rw [ey] at py
    cases px with
    | tup ha la =>
      cases py with
      | tup hb lb =>
        split at h
        · rename_i z
          refine .inr (.inr ⟨_, _, _, _, rfl, rfl, by rw [hK]; exact seqT r.sub ha, by rw [hK]; exact seqT r.sub hb, ?_, by rw [la.length, lb.length]; exact lenOk_le z, ?_, fun _ p hp => EPost.lay h r hp (Den.newT (r.free hp) (la.append lb))⟩)
          · intro q
            have := la.length
            rw [q] at this
            cases this
          · intro q
            have := lb.length
            rw [q] at this
            cases this
        · exact h.elim
  · exact h.elim
theorem od_mul : OpD X g E (binaryOp .Mult) mulD := by
  refine ⟨_, op_mul.or op_rep, fun π w G F H x y v u Q r dx dy h => ?_⟩
  unfold mulD at h
  have px := peek_ok r dx
  split at h
  · rename_i i j ex
    rw [ex] at px
    cases px; cases dy
    split at h
    · rename_i z
      exact .inl ⟨i, j, rfl, rfl, cMul_ok z, EPost.here h r (.int _)⟩
    · exact h.elim
  · rename_i i j ex
    rw [ex] at px
    cases dy
    obtain ⟨a, xs, rfl, ha, la⟩ := px
    split at h
    · rename_i z
      rw [Bool.and_eq_true, Bool.and_eq_true, decide_eq_true_eq] at z
      obtain ⟨⟨z0, z3⟩, z2⟩ := z
      have z3 := cR_ok z3
      have z2 := lenOk_le z2
      refine .inr ⟨a, j, xs, rfl, rfl, ha, by omega, by omega, by rw [la.length]; exact z2, fun p hp => EPost.lay h r hp (Den.newL (r.free hp) ?_)⟩
      have : ∀ n : Nat, DenL g π G (List.replicate n i).flatten (List.replicate n xs).flatten := fun n => by
        induction n with
        | zero => exact .nil
        | succ n ih =>
          rw [List.replicate_succ, List.replicate_succ, List.flatten_cons, List.flatten_cons]
          exact la.append ih
      exact this _
    · exact h.elim
  · exact h.elim
theorem od_lt (hu : X.A.units < cLine) (hK : X.K = g.K := by rfl) : OpD X g E (compareOp .Lt) ltD := by
  refine ⟨_, (op_lt.or op_lt_str).or (op_ltT hu), fun π w G F H x y v u Q r dx dy h => ?_⟩
  unfold ltD at h
  split at h
  · cases dx; cases dy
    exact .inl (.inl ⟨_, _, rfl, rfl, EPost.here h r (.bl _)⟩)
  · cases dx; cases dy
    exact .inl (.inr ⟨_, _, rfl, rfl, EPost.here h r (.bl _)⟩)
  · cases dx with
    | tup ha la =>
      cases dy with
      | tup hb lb =>
        split at h
        · rename_i ns ms e1 e2
          have q1 := ints_den la e1
          have q2 := ints_den lb e2
          subst q1 q2
          exact .inr ⟨_, _, ns, ms, rfl, rfl, by rw [hK]; exact seqT r.sub ha, by rw [hK]; exact seqT r.sub hb, EPost.here h r (.bl _)⟩
        · exact h.elim
  · exact h.elim
theorem scal_ok {π : Pi} {G : Hp} {x y : D} {v u : V} {b : Bool} (dx : Den g π G x v) (dy : Den g π G y u) (h : scalD x y = some b) : scal v u = true ∧ decide (v = u) = b := by
  unfold scalD at h
  split at h <;> first | (cases h; done) | (cases dx; cases dy; cases h; exact ⟨rfl, by simp⟩)
theorem eq_cases {π : Pi} {w : W} {G F H : Hp} {x y : D} {v u : V} {b : Bool} (r : RW g π w G F H) (dx : Den g π G x v) (dy : Den g π G y u) (h : eqD? w x y = some b) :
    (scal v u = true ∧ decide (v = u) = b) ∨ ∃ p q, Dp g.K H v p ∧ Dp g.K H u q ∧ SeqAt.shaped p = true ∧ SeqAt.shaped q = true ∧ PyData.eqv p q = b := by
  unfold eqD? at h
  split at h
  · rename_i c e
    cases h
    exact .inl (scal_ok dx dy e)
  · split at h
    · rename_i p q e1 e2
      split at h
      · rename_i z
        rw [Bool.and_eq_true] at z
        cases h
        have f : ∀ {d : D} {v : V} {p : PyData}, Den g π G d v → toPy (peek w d) = some p → Dp g.K H v p := fun {d v p} hd he => by
          have px := peek_ok r hd
          cases z : peek w d with
          | lst l =>
            rw [z] at px he
            obtain ⟨a, xs, rfl, ha, la⟩ := px
            unfold toPy at he
            cases q : toPyL l with
            | none => rw [q] at he; cases he
            | some ps => rw [q] at he; cases he; exact .lst (.inl (.inl ha)) (toPy_dpL r.sub la q)
          | dic _ _ => rw [z] at he; unfold toPy at he; cases he
          | _ => rw [z] at px he; exact toPy_dp r.sub px he
        exact .inr ⟨p, q, f dx e1, f dy e2, z.1, z.2, rfl⟩
      · cases h
    · cases h
theorem od_eq (hu : X.A.units + 64 < cLine) (hK : X.K = g.K := by rfl) : OpD X g E (compareOp .Eq) eqD := by
  refine ⟨_, op_eq.or (op_eqD hu), fun π w G F H x y v u Q r dx dy h => ?_⟩
  unfold eqD at h
  split at h
  · rename_i b e
    rcases eq_cases r dx dy e with ⟨h1, h2⟩ | ⟨p, q, h1, h2, h3, h4, h5⟩
    · exact .inl ⟨h1, by rw [h2]; exact EPost.here h r (.bl _)⟩
    · exact .inr ⟨p, q, by rw [hK]; exact h1, by rw [hK]; exact h2, h3, h4, by rw [h5]; exact EPost.here h r (.bl _)⟩
  · exact h.elim
theorem od_ne (hu : X.A.units + 64 < cLine) (hK : X.K = g.K := by rfl) : OpD X g E (compareOp .NotEq) neD := by
  refine ⟨_, op_ne.or (op_neD hu), fun π w G F H x y v u Q r dx dy h => ?_⟩
  unfold neD at h
  split at h
  · rename_i b e
    rcases eq_cases r dx dy e with ⟨h1, h2⟩ | ⟨p, q, h1, h2, h3, h4, h5⟩
    · exact .inl ⟨h1, by rw [h2]; exact EPost.here h r (.bl _)⟩
    · exact .inr ⟨p, q, by rw [hK]; exact h1, by rw [hK]; exact h2, h3, h4, by rw [h5]; exact EPost.here h r (.bl _)⟩
  · exact h.elim
theorem flat_ok {π : Pi} {G : Hp} {x : D} {v : V} (dx : Den g π G x v) (h : flatD x = true) : flatV v = true := by
  cases dx <;> first | rfl | cases h
theorem eqF_ok {π : Pi} {G : Hp} {x y : D} {v u : V} (dx : Den g π G x v) (dy : Den g π G y u) (h : flatD x = true) (k : flatD y = true) : eqV v u = eqF x y := by
  cases dx <;> first | (cases h; done) | (cases dy <;> first | rfl | (cases k; done))
theorem flats_ok {π : Pi} {G : Hp} : ∀ {l : List D} {xs : List V}, DenL g π G l xs → l.all flatD = true → xs.all flatV = true
  | _, _, .nil, _ => rfl
  | _, _, .cons h t, e => by
    rw [List.all_cons, Bool.and_eq_true] at e ⊢
    exact ⟨flat_ok h e.1, flats_ok t e.2⟩
theorem inF_ok {π : Pi} {G : Hp} {x : D} {v : V} (dx : Den g π G x v) (h : flatD x = true) : ∀ {l : List D} {xs : List V}, DenL g π G l xs → l.all flatD = true → inV v xs = inF x l
  | _, _, .nil, _ => rfl
  | _, _, .cons (d := d) (ds := ds) (v := u) (vs := us) k t, e => by
    rw [List.all_cons, Bool.and_eq_true] at e
    have ih := inF_ok dx h t e.2
    unfold inV inF at ih ⊢
    rw [List.any_cons, List.any_cons, eqF_ok k dx e.1 h, ih]
theorem in_cases {π : Pi} {w : W} {G F H : Hp} {x y : D} {v u : V} {b : Bool} (r : RW g π w G F H) (dx : Den g π G x v) (dy : Den g π G y u) (h : inD? w x y = some b) :
    (∃ p xs, u = .ref p ∧ (SqL g.K H p xs ∨ SqT g.K H p xs) ∧ flatV v = true ∧ xs.all flatV = true ∧ inV v xs = b) ∨ ∃ i j, v = .str i ∧ u = .str j ∧ (!(Builtin.Str.occurrences j i 0 j.length 1).isEmpty) = b := by
  unfold inD? at h
  have py := peek_ok r dy
  split at h
  · rename_i l e
    rw [e] at py
    obtain ⟨a, xs, rfl, ha, la⟩ := py
    split at h
    · rename_i z
      rw [Bool.and_eq_true] at z
      cases h
      exact .inl ⟨a, xs, rfl, .inl (.inl (.inl ha)), flat_ok dx z.1, flats_ok la z.2, inF_ok dx z.1 la z.2⟩
    · cases h
  · rename_i l e
    rw [e] at py
    cases py with
    | tup ha la =>
      split at h
      · rename_i z
        rw [Bool.and_eq_true] at z
        cases h
        exact .inl ⟨_, _, rfl, .inr (seqT r.sub ha), flat_ok dx z.1, flats_ok la z.2, inF_ok dx z.1 la z.2⟩
      · cases h
  · rename_i l e
    rw [e] at py
    cases py
    split at h
    · cases h
      cases dx
      exact .inr ⟨_, _, rfl, rfl, rfl⟩
    · cases h
  · cases h
theorem od_in (hK : X.K = g.K := by rfl) : OpD X g E (compareOp .In) inD := by
  refine ⟨_, op_in_seq.or op_in_str, fun π w G F H x y v u Q r dx dy h => ?_⟩
  unfold inD at h
  split at h
  · rename_i b e
    rcases in_cases r dx dy e with ⟨p, xs, h1, h2, h3, h4, h5⟩ | ⟨i, j, h1, h2, h3⟩
    · exact .inl ⟨p, xs, h1, by rw [hK]; exact h2, h3, h4, by rw [h5]; exact EPost.here h r (.bl _)⟩
    · exact .inr ⟨i, j, h1, h2, by rw [h3]; exact EPost.here h r (.bl _)⟩
  · exact h.elim
theorem od_notIn (hK : X.K = g.K := by rfl) : OpD X g E (compareOp .NotIn) notInD := by
  refine ⟨_, op_notIn_seq.or op_notin_str, fun π w G F H x y v u Q r dx dy h => ?_⟩
  unfold notInD at h
  split at h
  · rename_i b e
    rcases in_cases r dx dy e with ⟨p, xs, h1, h2, h3, h4, h5⟩ | ⟨i, j, h1, h2, h3⟩
    · exact .inl ⟨p, xs, h1, by rw [hK]; exact h2, h3, h4, by rw [h5]; exact EPost.here h r (.bl _)⟩
    · exact .inr ⟨i, j, h1, h2, by rw [h3]; exact EPost.here h r (.bl _)⟩
  · exact h.elim
theorem is_cases {π : Pi} {G : Hp} {x y : D} {v u : V} {b : Bool} (dx : Den g π G x v) (dy : Den g π G y u) (h : isD? x y = some b) : (u = .non ∧ decide (v = .non) = b) ∨ ∃ i j : Bool, v = .bl i ∧ u = .bl j ∧ decide (i = j) = b := by
  unfold isD? at h
  split at h
  · cases dy
    cases h
    refine .inl ⟨rfl, ?_⟩
    cases dx <;> rfl
  · cases dy
    split at h
    · cases dx
      cases h
      exact .inr ⟨_, _, rfl, rfl, rfl⟩
    · cases h
  · cases h
theorem od_is : OpD X g E (compareOp .Is) isD := by
  refine ⟨_, op_isN.or op_is_bl, fun π w G F H x y v u Q r dx dy h => ?_⟩
  unfold isD at h
  split at h
  · rename_i b e
    rcases is_cases dx dy e with ⟨h1, h2⟩ | ⟨i, j, h1, h2, h3⟩
    · exact .inl ⟨h1, by rw [h2]; exact EPost.here h r (.bl _)⟩
    · exact .inr ⟨i, j, h1, h2, by rw [h3]; exact EPost.here h r (.bl _)⟩
  · exact h.elim
theorem od_isNot : OpD X g E (compareOp .IsNot) isNotD := by
  refine ⟨_, op_notN.or op_isnot_bl, fun π w G F H x y v u Q r dx dy h => ?_⟩
  unfold isNotD at h
  split at h
  · rename_i b e
    rcases is_cases dx dy e with ⟨h1, h2⟩ | ⟨i, j, h1, h2, h3⟩
    · exact .inl ⟨h1, by rw [h2]; exact EPost.here h r (.bl _)⟩
    · exact .inr ⟨i, j, h1, h2, by rw [h3]; exact EPost.here h r (.bl _)⟩
  · exact h.elim
theorem atI_den {π : Pi} {G : Hp} {l : List D} {xs : List V} {i : Int} {d : D} (h : DenL g π G l xs) (e : atI l i = some d) : ∃ v, atI xs i = some v ∧ Den g π G d v := by
  unfold atI at e ⊢
  rw [h.length]
  cases q : ixN l.length i with
  | none => rw [q] at e; cases e
  | some j =>
    rw [q] at e
    exact h.get e
theorem de_ix {a b : Expr} {fa fb : EE} {pos : Pos} (ha : PE X a (LE g E fa)) (hb : PE X b (LE g E fb)) (hs : PlainIx b := by exact fun _ _ => rfl) (hK : X.K = g.K := by rfl) : PE X (.Subscript a b pos) (LE g E (eBin ixD fa fb)) := by
  refine (pe_ix ix_seq ha hb hs).imp fun σ H Q h => ?_
  obtain ⟨π, w, G, F, ds, r, s, h⟩ := h
  refine lift_then (k := fun x w1 => (fb ds w1).bind fun q => ixD x q.1 q.2) r s h fun x w1 v H1 π1 G1 r1 s1 d1 _ _ h1 => ?_
  refine lift_then (k := fun y w2 => ixD x y w2) r1 s1 h1 fun y w2 u H2 π2 G2 r2 s2 d2 sg sp h => ?_
  have px := peek_ok r2 (d1.mono sg sp)
  unfold ixD at h
  rw [hK]
  split at h
  · rename_i l i e
    rw [e] at px
    obtain ⟨a, xs, rfl, ha, la⟩ := px
    cases d2
    split at h
    · rename_i d z
      obtain ⟨v, h1, h2⟩ := atI_den la z
      exact .inl ⟨a, xs, i, v, rfl, rfl, .inl (.inl ha), h1, EPost.here h r2 h2⟩
    · exact h.elim
  · rename_i l i e
    rw [e] at px
    cases d2
    cases px with
    | tup ha la =>
      split at h
      · rename_i d z
        obtain ⟨v, h1, h2⟩ := atI_den la z
        exact .inr (.inl ⟨_, _, i, v, rfl, rfl, seqT r2.sub ha, h1, EPost.here h r2 h2⟩)
      · exact h.elim
  · rename_i l i e
    rw [e] at px
    cases d2
    cases px
    split at h
    · rename_i hz
      split at h
      · rename_i c z
        exact .inr (.inr ⟨l, i, c, rfl, rfl, lenOk_le hz, z, EPost.here h r2 (.str _)⟩)
      · exact h.elim
    · exact h.elim
  · exact h.elim
end
end Gd

set_option Elab.async false
set_option linter.all false
set_option maxRecDepth 100000
set_option maxHeartbeats 4000000
namespace Gd
open PySem L2
/-! ### built-in calls over data -/
def boolsOf : List D → Option (List Bool)
  | [] => some []
  | .bl b :: r => (boolsOf r).map (b :: ·)
  | _ => none
theorem bools_den {g : Gm} {π : Pi} {G : Hp} : ∀ {l : List D} {xs : List V} {ns : List Bool}, DenL g π G l xs → boolsOf l = some ns → xs = ns.map V.bl
  | _, _, _, .nil, e => by cases e; rfl
  | _, _, ns, .cons (d := d) (ds := ds) h t, e => by
    cases h with
    | bl i =>
      unfold boolsOf at e
      cases q : boolsOf ds with
      | none => rw [q] at e; cases e
      | some ms =>
        rw [q] at e
        cases e
        rw [bools_den t q]
        rfl
    | _ => cases e
def lenD (l : List D) (w : W) : M (D × W) := match l with
  | [d] => match peek w d with
    | .str x => if lenOk x.length = true then .ret (.int x.length, w) else .bad
    | .lst l => .ret (.int l.length, w)
    | .tup l => .ret (.int l.length, w)
    | .dic ks _ => .ret (.int ks.length, w)
    | _ => .bad
  | _ => .bad
def allD (l : List D) (w : W) : M (D × W) := match l with
  | [.lst l] => match boolsOf l with | some bs => .ret (.bl (bs.all id), w) | none => .bad
  | _ => .bad
def anyD (l : List D) (w : W) : M (D × W) := match l with
  | [.lst l] => match boolsOf l with | some bs => .ret (.bl (bs.any id), w) | none => .bad
  | _ => .bad
def listD (l : List D) (w : W) : M (D × W) := match l with
  | [d] => match peek w d with
    | .lst l => .ret (.lst l, w)
    | .tup l => .ret (.lst l, w)
    | _ => .bad
  | _ => .bad
def tupleD (l : List D) (w : W) : M (D × W) := match l with
  | [d] => match peek w d with
    | .lst l => .ret (.tup l, w)
    | .tup l => .ret (.tup l, w)
    | _ => .bad
  | _ => .bad
def intD (l : List D) (w : W) : M (D × W) := match l with
  | [.int i] => .ret (.int i, w)
  | [.bl b] => .ret (.int (if b then 1 else 0), w)
  | _ => .bad
def smallI (i : Int) : Bool := decide (i.natAbs.log2 < 1920)
def strD (l : List D) (w : W) : M (D × W) := match l with
  | [.int i] => if smallI i = true then .ret (.str (toString i), w) else .bad
  | [.str x] => .ret (.str x, w)
  | _ => .bad
section
variable {X : Cx} {g : Gm} {E : XK}
theorem DenL.un {π : Pi} {G : Hp} {d : D} {vs : List V} (h : DenL g π G [d] vs) : ∃ v, vs = [v] ∧ Den g π G d v := by
  cases h with
  | cons h t => cases t; exact ⟨_, rfl, h⟩
theorem DenL.two {π : Pi} {G : Hp} {d e : D} {vs : List V} (h : DenL g π G [d, e] vs) : ∃ v u, vs = [v, u] ∧ Den g π G d v ∧ Den g π G e u := by
  cases h with
  | cons h t =>
    obtain ⟨u, rfl, k⟩ := t.un
    exact ⟨_, _, rfl, h, k⟩
theorem cd_len (hK : X.K = g.K := by rfl) : CallD X g E (.builtin "len") lenD := by
  refine ⟨_, call_len.or call_lenD, fun π w G F H xs vs Q r dl h => ?_⟩
  unfold lenD at h
  split at h
  · obtain ⟨v, rfl, hd⟩ := dl.un
    have px := peek_ok r hd
    split at h
    · rename_i x e
      rw [e] at px
      cases px
      split at h
      · rename_i z
        exact .inl ⟨_, _, rfl, ⟨lenOk_le z, rfl⟩, EPost.here h r (.int _)⟩
      · exact h.elim
    · rename_i x e
      rw [e] at px
      obtain ⟨a, ys, rfl, ha, la⟩ := px
      exact .inl ⟨_, x.length, rfl, .inl ⟨ys, .inl (.inl ha), la.length.symm⟩, EPost.here h r (.int _)⟩
    · rename_i x e
      rw [e] at px
      cases px with
      | tup ha la => exact .inl ⟨_, x.length, rfl, .inr ⟨_, by rw [hK]; exact seqT r.sub ha, la.length.symm⟩, EPost.here h r (.int _)⟩
    · rename_i ks dd e
      rw [e] at px
      obtain ⟨a, kvs, rfl, ha, e2, la⟩ := px
      refine .inr ⟨a, kvs, rfl, ha, ?_⟩
      have : ks.length = kvs.length := by rw [← e2, List.length_map]
      rw [this] at h
      exact EPost.here h r (.int _)
    · exact h.elim
  · exact h.elim
theorem cd_all (hc : X.calm = true) (hK : X.K = g.K := by rfl) : CallD X g E (.builtin "all") allD := by
  refine ⟨_, cr_all hc, fun π w G F H xs vs Q r dl h => ?_⟩
  unfold allD at h
  split at h
  · obtain ⟨v, rfl, hd⟩ := dl.un
    cases hd with
    | lst ha la =>
      split at h
      · rename_i bs e
        have q := bools_den la e
        subst q
        exact ⟨_, bs, rfl, .inl (.inl (r.sub _ _ ha)), EPost.here h r (.bl _)⟩
      · exact h.elim
  · exact h.elim
theorem cd_any (hc : X.calm = true) (hK : X.K = g.K := by rfl) : CallD X g E (.builtin "any") anyD := by
  refine ⟨_, cr_any hc, fun π w G F H xs vs Q r dl h => ?_⟩
  unfold anyD at h
  split at h
  · obtain ⟨v, rfl, hd⟩ := dl.un
    cases hd with
    | lst ha la =>
      split at h
      · rename_i bs e
        have q := bools_den la e
        subst q
        exact ⟨_, bs, rfl, .inl (.inl (r.sub _ _ ha)), EPost.here h r (.bl _)⟩
      · exact h.elim
  · exact h.elim
theorem cd_list (hK : X.K = g.K := by rfl) : CallD X g E (.type "list") listD := by
  refine ⟨_, call_list_of, fun π w G F H xs vs Q r dl h => ?_⟩
  unfold listD at h
  split at h
  · obtain ⟨v, rfl, hd⟩ := dl.un
    have px := peek_ok r hd
    split at h
    · rename_i x e
      rw [e] at px
      obtain ⟨a, ys, rfl, ha, la⟩ := px
      exact ⟨a, ys, rfl, .inl (.inl (.inl ha)), fun p hp => EPost.lay h r hp (Den.newL (r.free hp) la)⟩
    · rename_i x e
      rw [e] at px
      cases px with
      | tup ha la => exact ⟨_, _, rfl, .inr (by rw [hK]; exact seqT r.sub ha), fun p hp => EPost.lay h r hp (Den.newL (r.free hp) la)⟩
    · exact h.elim
  · exact h.elim
theorem cd_tuple (hK : X.K = g.K := by rfl) : CallD X g E (.type "tuple") tupleD := by
  refine ⟨_, call_tuple_of, fun π w G F H xs vs Q r dl h => ?_⟩
  unfold tupleD at h
  split at h
  · obtain ⟨v, rfl, hd⟩ := dl.un
    have px := peek_ok r hd
    split at h
    · rename_i x e
      rw [e] at px
      obtain ⟨a, ys, rfl, ha, la⟩ := px
      exact ⟨a, ys, rfl, .inl ⟨.inl (.inl ha), fun p hp => EPost.lay h r hp (Den.newT (r.free hp) la)⟩⟩
    · rename_i x e
      rw [e] at px
      cases px with
      | tup ha la => exact ⟨_, _, rfl, .inr ⟨by rw [hK]; exact seqT r.sub ha, EPost.here h r (.tup ha la)⟩⟩
    · exact h.elim
  · exact h.elim
theorem cd_int : CallD X g E (.type "int") intD := by
  refine ⟨_, call_int1, fun π w G F H xs vs Q r dl h => ?_⟩
  unfold intD at h
  split at h
  · obtain ⟨v, rfl, hd⟩ := dl.un
    cases hd
    exact .inl ⟨_, rfl, EPost.here h r (.int _)⟩
  · obtain ⟨v, rfl, hd⟩ := dl.un
    cases hd
    exact .inr ⟨_, rfl, EPost.here h r (.int _)⟩
  · exact h.elim
theorem cd_str : CallD X g E (.type "str") strD := by
  refine ⟨_, call_str_int.or SkE.call_str_str, fun π w G F H xs vs Q r dl h => ?_⟩
  unfold strD at h
  split at h
  · obtain ⟨v, rfl, hd⟩ := dl.un
    cases hd
    split at h
    · rename_i z
      exact .inl ⟨_, rfl, of_decide_eq_true z, EPost.here h r (.str _)⟩
    · exact h.elim
  · obtain ⟨v, rfl, hd⟩ := dl.un
    cases hd
    exact .inr ⟨_, rfl, EPost.here h r (.str _)⟩
  · exact h.elim
end
/-! ### isinstance -/
inductive TyK where
  | non | bl | int | str | lst | tup | dic | own (c : Nat)
/-- built-in classes that are asked for -/
inductive Tg where
  | int | bool | str | list | tuple | dict
def Tg.nm : Tg → String
  | .int => "int" | .bool => "bool" | .str => "str" | .list => "list" | .tuple => "tuple" | .dict => "dict"
def TyK.nm : TyK → String
  | .non => "NoneType" | .bl => "bool" | .int => "int" | .str => "str" | .lst => "list" | .tup => "tuple" | .dic => "dict" | .own _ => ""
def tyV (g : Gm) : TyK → Value
  | .own c => .ref (g.cl c)
  | k => .type k.nm
def tyD (w : W) : D → Option TyK
  | .non => some .non
  | .bl _ => some .bl
  | .int _ => some .int
  | .str _ => some .str
  | .lst _ => some .lst
  | .tup _ => some .tup
  | .dic _ _ => some .dic
  | .ins c _ _ => some (.own c)
  | .box i => match w[i]? with
    | some (some (.lst _)) => some .lst
    | some (some (.dic _ _)) => some .dic
    | some (some (.ins c _ _)) => some (.own c)
    | _ => none
  | .scr _ => none
structure InsOk (K : PySem.W.Frag) (C : Addr) : Prop where
  cl : Cls K C
  h1 : PySem.W.findIn K (.ref C) "__class__" = some (some (.builtin "object.__class__"))
  h2 : PySem.W.specialIn K (.builtin "object.__class__") "__get__" = some (some (.builtin "getset_descriptor.__get__"))
  h3 : PySem.W.takesIn K (.builtin "object.__class__") = some true
  h4 : PySem.W.mroIn K C (.type "object") = some true
def isiD (tab : TyK → Option Bool) (d : D) (w : W) : M (D × W) := match tyD w d with
  | some k => match tab k with | some b => .ret (.bl b, w) | none => .bad
  | none => .bad
/-- a built-in class: instances of own classes are none of them -/
def tabB (T : Tg) : TyK → Option Bool
  | .own _ => none
  | .bl => match T with | .bool => some true | .int => some true | _ => some false
  | .int => match T with | .int => some true | _ => some false
  | .str => match T with | .str => some true | _ => some false
  | .lst => match T with | .list => some true | _ => some false
  | .tup => match T with | .tuple => some true | _ => some false
  | .dic => match T with | .dict => some true | _ => some false
  | .non => some false
theorem tabB_kit {T : Tg} {k : TyK} {b : Bool} (h : tabB T k = some b) : kitB k.nm T.nm = some b ∧ ∀ c, k ≠ .own c := by
  cases k <;> first | (cases h; done) | (cases T <;> (cases h; exact ⟨by decide +kernel, fun c z => nomatch z⟩))
section
variable {X : Cx} {g : Gm} {E : XK}
theorem tyX_of {π : Pi} {w : W} {G F H : Hp} {d : D} {v : V} {k : TyK} (r : RW g π w G F H) (hd : Den g π G d v) (h : tyD w d = some k) (ho : ∀ c, k = .own c → InsOk g.K (g.cl c)) : TyX g.K H v (tyV g k) := by
  unfold tyD at h
  cases hd with
  | non => cases h; exact .base .non
  | bl b => cases h; exact .base (.bl b)
  | int b => cases h; exact .base (.int b)
  | str b => cases h; exact .base (.str b)
  | lst e l => cases h; exact .base (.lst (r.sub _ _ e))
  | tup e l =>
    cases h
    rcases e with (e | ⟨o, e⟩) | ⟨o, its, n, e1, e2, e3⟩
    · exact .base (.tup (r.sub _ _ e))
    · exact .fTuple (r.sub _ _ e)
    · exact .kTuple e1 e2
  | dic e e2 e3 l => cases h; exact .base (.dK (r.sub _ _ e))
  | ins e e2 e3 l =>
    cases h
    have q := ho _ rfl
    exact .base (.ins (r.sub _ _ e) q.cl q.h1 q.h2 q.h3 q.h4)
  | @box i a e =>
    dsimp only at h
    split at h
    · rename_i ds q
      cases h
      obtain ⟨a', h1, _, _, xs, h3, h4⟩ := r.live _ _ q
      have : a' = a := Option.some.inj (h1.symm.trans e)
      subst this
      exact .base (.lst h3)
    · rename_i ks ds q
      cases h
      obtain ⟨a', h1, _, _, xs, h3, h4, h5⟩ := r.live _ _ q
      have : a' = a := Option.some.inj (h1.symm.trans e)
      subst this
      exact .base (.dK h3)
    · rename_i c ns ds q
      cases h
      obtain ⟨a', h1, _, _, dx, fs, h3, h4, h5⟩ := r.live _ _ q
      have : a' = a := Option.some.inj (h1.symm.trans e)
      subst this
      have q := ho _ rfl
      exact .base (.ins h3 q.cl q.h1 q.h2 q.h3 q.h4)
    · cases h
  | scr e l => cases h
theorem de_isi {e e2 : Expr} {fa : EE} {p pos : Pos} {cv : V} {u : Value} {tab : TyK → Option Bool} (hm : X.mg "isinstance" = none) (hg : Gl X "isinstance") (hc : ClsV cv u) (h2 : PE X e2 (tC cv)) (ht : ∀ k b, tab k = some b → PySem.W.kitOne g.K (tyV g k) u = some b ∧ ∀ c, k = .own c → InsOk g.K (g.cl c)) (ha : PE X e (LE g E fa)) (hK : X.K = g.K := by rfl)
    (hs : noStar e = true := by rfl) (hs2 : noStar e2 = true := by rfl) :
    PE X (.Call (.Name "isinstance" p) [e, e2] [] pos) (LE g E (eUn (isiD tab) fa)) := by
  refine (pe_callB call_isi hg hm (by decide +kernel) (pa_cons ha (pa_cons h2 pa_nil (starE hs2)) (starE hs)) (by decide) (by decide) (starE hs) (anyStar (by rw [List.all_cons, hs2]; rfl))).imp fun σ H Q h => ?_
  obtain ⟨π, w, G, F, ds, r, s, h⟩ := h
  refine lift_then (k := isiD tab) r s h fun x w1 v H1 π1 G1 r1 s1 d1 _ _ h => ?_
  unfold isiD at h
  split at h
  · rename_i k e
    split at h
    · rename_i b e'
      obtain ⟨q1, q2⟩ := ht k b e'
      exact ⟨v, cv, _, u, b, rfl, hc, by rw [hK]; exact tyX_of r1 d1 e q2, by rw [hK]; exact q1, EPost.here h r1 (.bl _)⟩
    · exact h.elim
  · exact h.elim
theorem tyV_b {k : TyK} (h : ∀ c, k ≠ .own c) : tyV g k = .type k.nm := by
  cases k <;> first | rfl | exact absurd rfl (h _)
theorem tabB_ok {T : Tg} : ∀ k b, tabB T k = some b → PySem.W.kitOne g.K (tyV g k) (.type T.nm) = some b ∧ ∀ c, k = .own c → InsOk g.K (g.cl c) := fun k b h => by
  obtain ⟨h1, h2⟩ := tabB_kit h
  rw [tyV_b h2]
  exact ⟨kit_ty h1, fun c z => absurd z (h2 c)⟩
theorem de_isiB {e : Expr} {fa : EE} {p p2 pos : Pos} {T : Str} {n : Tg} (hm : X.mg "isinstance" = none) (hg : Gl X "isinstance") (hmT : X.mg T = none) (hgT : Gl X T) (hvT : bootBuiltins T = some (.type n.nm)) (ha : PE X e (LE g E fa)) (hK : X.K = g.K := by rfl) (hn : T ≠ "__name__" := by decide) (hd : (T == ("__debug__" : Str)) = false := by decide)
    (hs : noStar e = true := by rfl) :
    PE X (.Call (.Name "isinstance" p) [e, .Name T p2] [] pos) (LE g E (eUn (isiD (tabB n)) fa)) :=
  de_isi hm hg (.ty n.nm) (pe_bltn hgT hmT hvT rfl hn hd) tabB_ok ha hK hs rfl
def tabB2 (S T : Tg) (k : TyK) : Option Bool := match tabB S k with | some true => some true | some false => tabB T k | none => none
theorem de_isiT2 {e : Expr} {fa : EE} {p p1 p2 p3 pos : Pos} {k1} {S T : Str} {m n : Tg} (hm : X.mg "isinstance" = none) (hg : Gl X "isinstance") (hmS : X.mg S = none) (hgS : Gl X S) (hvS : bootBuiltins S = some (.type m.nm)) (hmT : X.mg T = none) (hgT : Gl X T) (hvT : bootBuiltins T = some (.type n.nm)) (ha : PE X e (LE g E fa)) (hK : X.K = g.K := by rfl)
    (hn : S ≠ "__name__" := by decide) (hd : (S == ("__debug__" : Str)) = false := by decide) (hn2 : T ≠ "__name__" := by decide) (hd2 : (T == ("__debug__" : Str)) = false := by decide)
    (hs : noStar e = true := by rfl) :
    PE X (.Call (.Name "isinstance" p) [e, .Tuple [.Name S p1, .Name T p2] k1 p3] [] pos) (LE g E (eUn (isiD (tabB2 m n)) fa)) := by
  refine (pe_callB call_isiT hg hm (by decide +kernel) (pa_cons ha (pa_cons (pe_tup (pa_cons (pe_bltn (v := .ty m.nm) hgS hmS hvS rfl hn hd) (pa_cons (pe_bltn (v := .ty n.nm) hgT hmT hvT rfl hn2 hd2) pa_nil (starE rfl)) (starE rfl))) pa_nil (starE rfl)) (starE hs)) (by decide) (by decide) (starE hs) (anyStar rfl)).imp fun σ H Q h => ?_
  obtain ⟨π, w, G, F, ds, r, s, h⟩ := h
  refine lift_then (k := isiD (tabB2 m n)) r s h fun x w1 v H1 π1 G1 r1 s1 d1 _ _ h => ?_
  unfold isiD at h
  split at h
  · rename_i k e
    split at h
    · rename_i b e'
      refine ⟨by show 2 ≤ sizeLine; decide, fun q hq => ?_⟩
      have r2 := r1.aside hq (.tup [.ty m.nm, .ty n.nm])
      have nk : ∀ c, k ≠ .own c := fun c z => by subst z; cases e'
      refine ⟨v, q, [.ty m.nm, .ty n.nm], _, [.type m.nm, .type n.nm], b, rfl, upd_same, .cons (.ty m.nm) (.cons (.ty n.nm) .nil), by rw [hK]; exact tyX_of r2 d1 e (fun c z => absurd z (nk c)), ?_, EPost.here h r2 (.bl _)⟩
      rw [tyV_b nk]
      unfold tabB2 at e'
      cases q1 : tabB m k with
      | none => rw [q1] at e'; cases e'
      | some b1 =>
        rw [q1] at e'
        cases b1 with
        | true =>
          cases e'
          exact kitAny_cons (b := true) (kit_ty (tabB_kit q1).1) (fun z => nomatch z) fun _ => rfl
        | false =>
          dsimp only at e'
          refine kitAny_cons (b := false) (kit_ty (tabB_kit q1).1) (fun _ => ?_) fun z => nomatch z
          cases b with
          | true => exact kitAny_cons (b := true) (kit_ty (tabB_kit e').1) (fun z => nomatch z) fun _ => rfl
          | false => exact kitAny_cons (b := false) (kit_ty (tabB_kit e').1) (fun _ => kitAny_nil) fun z => nomatch z
    · exact h.elim
  · exact h.elim
end
end Gd

set_option Elab.async false
set_option linter.all false
set_option maxRecDepth 100000
set_option maxHeartbeats 4000000
namespace Gd
open PySem L2
def sPar (i j : Nat) (a : AA) : SS := fun ds w => (a ds w).bind fun p => match p.1 with | [x, y] => .ret (.nx ((ds.set i (some x)).set j (some y)), p.2) | _ => .bad
def sPar3 (i j k : Nat) (a : AA) : SS := fun ds w => (a ds w).bind fun p => match p.1 with | [x, y, z] => .ret (.nx (((ds.set i (some x)).set j (some y)).set k (some z)), p.2) | _ => .bad
def parK (i j : Nat) (ds : Sl) (l : List D) (w : W) : M (Fl × W) := match l with | [x, y] => .ret (.nx ((ds.set i (some x)).set j (some y)), w) | _ => .bad
def parK3 (i j k : Nat) (ds : Sl) (l : List D) (w : W) : M (Fl × W) := match l with | [x, y, z] => .ret (.nx (((ds.set i (some x)).set j (some y)).set k (some z)), w) | _ => .bad
def sAsg (t : GD) (a : EE) : SS := fun ds w => (a ds w).bind fun p => match t p.1 ds with | some ds' => .ret (.nx ds', p.2) | none => .bad
def asgK (t : GD) (ds : Sl) (d : D) (w : W) : M (Fl × W) := match t d ds with | some ds' => .ret (.nx ds', w) | none => .bad
section
variable {X : Cx} {g : Gm} {E : XK}
theorem ds_par {i j : Nat} {x y : Str} {a b : Expr} {fa : AA} {px py pt pos : Pos} {kt k2 pt2} (hc : X.calm = true) (hN : X.N.Nodup) (hi : X.N[i]? = some x) (hj : X.N[j]? = some y) (hij : i ≠ j)
    (hx : X.env.scope.names.lookup x = some .local) (hy : X.env.scope.names.lookup y = some .local) (ha : PA X [a, b] (LA g E fa))
    (hw : swappedStores [.Tuple [.Name x px, .Name y py] kt pt] (.Tuple [a, b] k2 pt2) X.env = pure (some [x, y]))
    (hs : swapsWithSole [.Tuple [.Name x px, .Name y py] kt pt] (.Tuple [a, b] k2 pt2) pos.line X.env = pure false := by rfl) :
    PS X (.Assign [.Tuple [.Name x px, .Name y py] kt pt] (.Tuple [a, b] k2 pt2) pos) (LS g E (sPar i j fa)) := by
  refine (ps_par hc hN hi hj hij hx hy ha hw hs).imp fun D σ H h => ?_
  obtain ⟨π, w, G, F, ds, r, s, h⟩ := h
  have h' : ((fa ds w).bind fun p => parK i j ds p.1 p.2).wp (SPost g π G F D) (PostE g π G F E) := h
  refine lift_thenS (k := parK i j ds) r s h' fun x w1 v H1 π1 G1 r1 s1 d1 _ _ h1 => ?_
  unfold parK at h1
  split at h1
  · obtain ⟨v, u, rfl, hd, hn⟩ := d1.two
    exact ⟨v, u, rfl, h1 _ H1 π1 G1 (Same.refl _) (Sub.refl _) r1 ((s1.put i hd).put j hn)⟩
  · exact h1.elim
theorem DenL.three {π : Pi} {G : Hp} {d e f : D} {vs : List V} (h : DenL g π G [d, e, f] vs) : ∃ v u z, vs = [v, u, z] ∧ Den g π G d v ∧ Den g π G e u ∧ Den g π G f z := by
  cases h with
  | cons h t =>
    obtain ⟨u, z, rfl, k, l⟩ := t.two
    exact ⟨_, _, _, rfl, h, k, l⟩
theorem ds_par3 {i j l : Nat} {x y z : Str} {a b c : Expr} {fa : AA} {px py pz pt pos : Pos} {kt k2 pt2} (hc : X.calm = true) (hN : X.N.Nodup) (hi : X.N[i]? = some x) (hj : X.N[j]? = some y) (hl : X.N[l]? = some z) (hij : i ≠ j) (hil : i ≠ l) (hjl : j ≠ l)
    (hx : X.env.scope.names.lookup x = some .local) (hy : X.env.scope.names.lookup y = some .local) (hz : X.env.scope.names.lookup z = some .local) (ha : PA X [a, b, c] (LA g E fa))
    (hw : swappedStores [.Tuple [.Name x px, .Name y py, .Name z pz] kt pt] (.Tuple [a, b, c] k2 pt2) X.env = pure (some [x, y, z]))
    (hs : swapsWithSole [.Tuple [.Name x px, .Name y py, .Name z pz] kt pt] (.Tuple [a, b, c] k2 pt2) pos.line X.env = pure false := by rfl) :
    PS X (.Assign [.Tuple [.Name x px, .Name y py, .Name z pz] kt pt] (.Tuple [a, b, c] k2 pt2) pos) (LS g E (sPar3 i j l fa)) := by
  refine (ps_par3 hc hN hi hj hl hij hil hjl hx hy hz ha hw hs).imp fun D σ H h => ?_
  obtain ⟨π, w, G, F, ds, r, s, h⟩ := h
  have h' : ((fa ds w).bind fun p => parK3 i j l ds p.1 p.2).wp (SPost g π G F D) (PostE g π G F E) := h
  refine lift_thenS (k := parK3 i j l ds) r s h' fun x w1 v H1 π1 G1 r1 s1 d1 _ _ h1 => ?_
  unfold parK3 at h1
  split at h1
  · obtain ⟨v, u, z, rfl, hd, hn, hz⟩ := d1.three
    exact ⟨v, u, z, rfl, h1 _ H1 π1 G1 (Same.refl _) (Sub.refl _) r1 (((s1.put i hd).put j hn).put l hz)⟩
  · exact h1.elim
theorem ds_asg {tg e : Expr} {fa : EE} {t : GD} {vs : List Nat} {pos : Pos} (ha : PE X e (LE g E fa)) (hg : PG X tg (LG g vs t)) (hs : swapsWithSole [tg] e pos.line X.env = pure false := by rfl) (hw : swappedStores [tg] e X.env = pure none := by rfl)
    (h1 : (assignEach [tg] X.env).map (·.2) = [assign tg X.env] := by rfl) : PS X (.Assign [tg] e pos) (LS g E (sAsg t fa)) := by
  refine (ps_asg ha hg hs hw h1).imp fun D σ H h => ?_
  obtain ⟨π, w, G, F, ds, r, s, h⟩ := h
  have h' : ((fa ds w).bind fun p => asgK t ds p.1 p.2).wp (SPost g π G F D) (PostE g π G F E) := h
  refine lift_thenS (k := asgK t ds) r s h' fun x w1 v H1 π1 G1 r1 s1 d1 _ _ h1 => ?_
  unfold asgK at h1
  split at h1
  · rename_i ds' e
    exact ⟨π1, w1, G1, F, ds, x, r1, s1, d1, ds', e, fun σ' _ s' => h1 σ' H1 π1 G1 (Same.refl _) (Sub.refl _) r1 s'⟩
  · exact h1.elim
end
/-! ### a def of the text -/
structure FnAt (K : PySem.W.Frag) (mg : Str → Option Value) (x : Str) (st : Stmt) (ps : List Str) (f : Addr) (fd : FuncData) : Prop where
  fn : Fun K x x st f fd
  b : Binds K fd ps []
  m : mg x = some (.ref f)
theorem no_M {P : Program} {w : World} {K : PySem.W.Frag} {mg : Str → Option Value} {base : Heap} {g : Gm} {CX : CXT} {f : Addr} {fd : FuncData} {ps : List Str} {n : Nat} : FnOk P w K mg base CX 0 f fd ps (spM g n fun _ _ => .bad) := by
  have no : ∀ vs H Q E, ¬ spM g n (fun _ _ => .bad) vs H Q E := fun vs H Q E h => by
    obtain ⟨π, w, G, F, ds, r, s, hl, h⟩ := h
    exact h
  exact ⟨fun vs H Q E h => absurd h (no vs H Q E), fun A outer s H args us vs Q E _ _ _ _ h => absurd h (no vs H Q E)⟩
/-! ### the law's bag -/
def mBag (ds : List D) (w : W) : M (D × W) := match ds with | [.scr _] => .ret (.box w.length, w ++ [some .bag]) | _ => .bad
def mDraw (ds : List D) (w : W) : M (D × W) := match ds with
  | [.box i, .int n] => match w[i]? with | some (some .bag) => .draw n fun d => .ret (.int d, w) | _ => .bad
  | _ => .bad
theorem cut63 {ns : List Int} (h : ns.length ≤ 63) : cutV (ns.map V.int) none (some 63) = ns.map V.int := by
  unfold cutV
  rw [HT.sIx_none, show HT.sIx (ns.map V.int).length (ns.map V.int).length (some 63) = min 63 (ns.map V.int).length from HT.sIx_nat _ _ 63, List.drop_zero]
  exact List.take_of_length_le (by rw [List.length_map]; omega)
theorem emod_in (a : Int) {n : Int} (h : 0 < n) : 0 ≤ a % n ∧ a % n < n := ⟨Int.emod_nonneg _ (by omega), Int.emod_lt_of_pos _ h⟩
/-- the law's own promise -/
def spLaw (K : PySem.W.Frag) : Sp := fun vs H Q _ => ∃ (a : Addr) (ns : List Int), vs = [.ref a] ∧ SqL K H a (ns.map V.int) ∧ ns.length ≤ 63 ∧ ∀ H', Q (.bl true) H'
theorem law_M {P : Program} {w : World} {K : PySem.W.Frag} {mg : Str → Option Value} {base : Heap} {cl : Nat → Addr} {CX : CXT} {k : Nat} {f : Addr} {fd : FuncData} {ps : List Str} {m : List D → W → M (D × W)}
    (F : FnOk P w K mg base CX k f fd ps (spM ⟨K, cl⟩ 1 m)) (h : ∀ ns : List Int, ns.length ≤ 63 → (m [.scr ns] []).wp (fun p => p.1 = .bl true) fun _ => False) : FnOk P w K mg base CX k f fd ps (spLaw K) :=
  F.imp fun vs H Q E q => by
    obtain ⟨a, ns, rfl, hq, hl, q⟩ := q
    refine ⟨fun _ => none, [], H, fun _ => none, [.scr ns], ⟨Same.refl H, (fun _ _ e => nomatch e), (fun _ _ e => nomatch e), (fun i b e => by simp at e), (fun i j a b b' e => by simp at e), fun _ _ => rfl⟩, .cons (.scr hq hl) .nil, rfl, M.wp_mono (h ns hl) (fun p hp v H' π' G' _ _ r' hd => ?_) fun _ x => x.elim⟩
    obtain ⟨d, w'⟩ := p
    have hp : d = .bl true := hp
    subst hp
    cases hd
    exact q H'
end Gd

set_option Elab.async false
set_option linter.all false
set_option maxRecDepth 100000
set_option maxHeartbeats 4000000
namespace Gd
open PySem L2
/-! ### runs over data, reckoned -/
structure M.wp2 {α : Type} (m : M (α × W)) (Q : α → W → Prop) (E : Er → Prop) : Prop where
  out : m.wp (fun p => Q p.1 p.2) E
section
variable {α : Type} {Q : α → W → Prop} {E : Er → Prop} {ds : Sl} {w w1 w2 w3 : W} {x y z : D}
theorem p_ev {m : M (α × W)} {a : α} (h : m = .ret (a, w1)) (k : Q a w1) : m.wp2 Q E := ⟨by rw [h]; exact k⟩
theorem p_draw {n : Int} {k : Int → M (α × W)} (h0 : 0 < n) (h1 : n ≤ 2 ^ 64) (h : ∀ d, 0 ≤ d → d < n → (k d).wp2 Q E) : (M.draw n k).wp2 Q E := ⟨⟨h0, h1, fun d a b => (h d a b).out⟩⟩
theorem p_bind {β : Type} {m : M (β × W)} {f : β → W → M (α × W)} (h : m.wp2 (fun b w => (f b w).wp2 Q E) E) : (m.bind fun p => f p.1 p.2).wp2 Q E := ⟨M.wp_of_bind (M.wp_mono h.out (fun p x => x.out) fun _ x => x)⟩
theorem p_ret {a : α} (h : Q a w) : (M.ret (a, w)).wp2 Q E := ⟨h⟩
theorem p_mono {m : M (α × W)} {Q' : α → W → Prop} (h : m.wp2 Q E) (k : ∀ a w, Q a w → Q' a w) : m.wp2 Q' E := ⟨M.wp_mono h.out (fun p => k p.1 p.2) fun _ x => x⟩
end
section
variable {Q : D → W → Prop} {E : Er → Prop} {ds : Sl} {w w1 w2 w3 : W} {x y z : D}
/-! an expression's value -/
theorem v_V {i : Nat} (h : ds[i]? = some (some x)) : eV i ds w = .ret (x, w) := by unfold eV; rw [h]
theorem v_C : eC x ds w = .ret (x, w) := rfl
theorem v_bin {o : D → D → W → M (D × W)} {a b : EE} {r : M (D × W)} (ha : a ds w = .ret (x, w1)) (hb : b ds w1 = .ret (y, w2)) (ho : o x y w2 = r) : eBin o a b ds w = r := by
  unfold eBin; rw [ha]; show (M.bind (b ds w1) _) = _; rw [hb]; exact ho
theorem v_un {o : D → W → M (D × W)} {a : EE} {r : M (D × W)} (ha : a ds w = .ret (x, w1)) (ho : o x w1 = r) : eUn o a ds w = r := by
  unfold eUn; rw [ha]; exact ho
theorem v_nil : aNil ds w = .ret ([], w) := rfl
theorem v_cons {a : EE} {b : AA} {l : List D} (ha : a ds w = .ret (x, w1)) (hb : b ds w1 = .ret (l, w2)) : aCons a b ds w = .ret (x :: l, w2) := by
  unfold aCons; rw [ha]; show (M.bind (b ds w1) _) = _; rw [hb]; rfl
theorem v_args {o : List D → W → M (D × W)} {a : AA} {l : List D} {r : M (D × W)} (ha : a ds w = .ret (l, w1)) (ho : o l w1 = r) : eArgs o a ds w = r := by
  unfold eArgs; rw [ha]; exact ho
theorem v_chk {n : Nat} {m : List D → W → M (D × W)} {l : List D} {r : M (D × W)} (h : l.length = n) (ho : m l w = r) : chk n m l w = r := by
  unfold chk; rw [if_pos h]; exact ho
theorem v_and1 {a b : EE} {r : M (D × W)} (ha : a ds w = .ret (x, w1)) (ht : truD w1 x = some true) (hb : b ds w1 = r) : eAnd a b ds w = r := by
  unfold eAnd; rw [ha]; simp only [M.bind, ht]; exact hb
theorem v_and0 {a b : EE} (ha : a ds w = .ret (x, w1)) (ht : truD w1 x = some false) : eAnd a b ds w = .ret (x, w1) := by
  unfold eAnd; rw [ha]; simp only [M.bind, ht]
theorem v_or0 {a b : EE} {r : M (D × W)} (ha : a ds w = .ret (x, w1)) (ht : truD w1 x = some false) (hb : b ds w1 = r) : eOr a b ds w = r := by
  unfold eOr; rw [ha]; simp only [M.bind, ht]; exact hb
theorem v_or1 {a b : EE} (ha : a ds w = .ret (x, w1)) (ht : truD w1 x = some true) : eOr a b ds w = .ret (x, w1) := by
  unfold eOr; rw [ha]; simp only [M.bind, ht]
theorem v_not {a : EE} {b : Bool} (ha : a ds w = .ret (x, w1)) (ht : truD w1 x = some b) : eNot a ds w = .ret (.bl (!b), w1) := by
  unfold eNot; rw [ha]; simp only [M.bind, ht]
theorem v_if1 {t : TT2} {a b : EE} {r : M (D × W)} (ht : t ds w = .ret (true, w1)) (ha : a ds w1 = r) : eIf t a b ds w = r := by
  unfold eIf; rw [ht]; exact ha
theorem v_if0 {t : TT2} {a b : EE} {r : M (D × W)} (ht : t ds w = .ret (false, w1)) (ha : b ds w1 = r) : eIf t a b ds w = r := by
  unfold eIf; rw [ht]; exact ha
/-! a test's value -/
theorem t_of {o : W → D → Option Bool} {a : EE} {b : Bool} (ha : a ds w = .ret (x, w1)) (ht : o w1 x = some b) : tOf o a ds w = .ret (b, w1) := by
  unfold tOf; rw [ha]; simp only [M.bind, ht]
theorem t_and1 {a b : TT2} {r : M (Bool × W)} (ha : a ds w = .ret (true, w1)) (hb : b ds w1 = r) : tAnd2 a b ds w = r := by unfold tAnd2; rw [ha]; exact hb
theorem t_and0 {a b : TT2} (ha : a ds w = .ret (false, w1)) : tAnd2 a b ds w = .ret (false, w1) := by unfold tAnd2; rw [ha]; rfl
theorem t_or0 {a b : TT2} {r : M (Bool × W)} (ha : a ds w = .ret (false, w1)) (hb : b ds w1 = r) : tOr2 a b ds w = r := by unfold tOr2; rw [ha]; exact hb
theorem t_or1 {a b : TT2} (ha : a ds w = .ret (true, w1)) : tOr2 a b ds w = .ret (true, w1) := by unfold tOr2; rw [ha]; rfl
theorem t_not {a : TT2} {b c : Bool} (ha : a ds w = .ret (b, w1)) (hc : (!b) = c) : tNot2 a ds w = .ret (c, w1) := by subst hc; unfold tNot2; rw [ha]; rfl
/-! an expression that may draw -/
theorem q_bin {o : D → D → W → M (D × W)} {a b : EE} (h : (a ds w).wp2 (fun x w1 => (b ds w1).wp2 (fun y w2 => (o x y w2).wp2 Q E) E) E) : (eBin o a b ds w).wp2 Q E := by
  unfold eBin
  exact p_bind (f := fun x w1 => (b ds w1).bind fun q => o x q.1 q.2) (p_mono h fun x w1 h => p_bind (f := fun y w2 => o x y w2) h)
theorem q_un {o : D → W → M (D × W)} {a : EE} (h : (a ds w).wp2 (fun x w1 => (o x w1).wp2 Q E) E) : (eUn o a ds w).wp2 Q E := p_bind (f := o) h
theorem q_args {o : List D → W → M (D × W)} {a : AA} (h : (a ds w).wp2 (fun l w1 => (o l w1).wp2 Q E) E) : (eArgs o a ds w).wp2 Q E := p_bind (f := o) h
theorem q_chk {n : Nat} {m : List D → W → M (D × W)} {l : List D} (h : l.length = n) (ho : (m l w).wp2 Q E) : (chk n m l w).wp2 Q E := by
  unfold chk; rw [if_pos h]; exact ho
theorem q_cons {R : List D → W → Prop} {a : EE} {b : AA} (h : (a ds w).wp2 (fun x w1 => (b ds w1).wp2 (fun l w2 => R (x :: l) w2) E) E) : (aCons a b ds w).wp2 R E := by
  unfold aCons
  exact p_bind (f := fun x w1 => (b ds w1).bind fun q => .ret (x :: q.1, q.2)) (p_mono h fun x w1 h => p_bind (f := fun l w2 => .ret (x :: l, w2)) (p_mono h fun l w2 h => p_ret h))
theorem q_if1 {t : TT2} {a b : EE} (ht : t ds w = .ret (true, w1)) (ha : (a ds w1).wp2 Q E) : (eIf t a b ds w).wp2 Q E := by rw [v_if1 ht rfl]; exact ha
theorem q_if0 {t : TT2} {a b : EE} (ht : t ds w = .ret (false, w1)) (ha : (b ds w1).wp2 Q E) : (eIf t a b ds w).wp2 Q E := by rw [v_if0 ht rfl]; exact ha
end
/-! an operation whose operands are known -/
section
variable {Q : D → W → Prop} {E : Er → Prop} {w w1 : W} {x y z : D} {l : List D}
theorem p_addD (h : addD x y w = .ret (z, w1)) (k : Q z w1) : (addD x y w).wp2 Q E := p_ev h k
theorem p_subD (h : subD x y w = .ret (z, w1)) (k : Q z w1) : (subD x y w).wp2 Q E := p_ev h k
theorem p_mulD (h : mulD x y w = .ret (z, w1)) (k : Q z w1) : (mulD x y w).wp2 Q E := p_ev h k
theorem p_fdivD (h : fdivD x y w = .ret (z, w1)) (k : Q z w1) : (fdivD x y w).wp2 Q E := p_ev h k
theorem p_modD (h : modD x y w = .ret (z, w1)) (k : Q z w1) : (modD x y w).wp2 Q E := p_ev h k
theorem p_powD (h : powD x y w = .ret (z, w1)) (k : Q z w1) : (powD x y w).wp2 Q E := p_ev h k
theorem p_eqD (h : eqD x y w = .ret (z, w1)) (k : Q z w1) : (eqD x y w).wp2 Q E := p_ev h k
theorem p_neD (h : neD x y w = .ret (z, w1)) (k : Q z w1) : (neD x y w).wp2 Q E := p_ev h k
theorem p_ltD (h : ltD x y w = .ret (z, w1)) (k : Q z w1) : (ltD x y w).wp2 Q E := p_ev h k
theorem p_leD (h : leD x y w = .ret (z, w1)) (k : Q z w1) : (leD x y w).wp2 Q E := p_ev h k
theorem p_gtD (h : gtD x y w = .ret (z, w1)) (k : Q z w1) : (gtD x y w).wp2 Q E := p_ev h k
theorem p_geD (h : geD x y w = .ret (z, w1)) (k : Q z w1) : (geD x y w).wp2 Q E := p_ev h k
theorem p_inD (h : inD x y w = .ret (z, w1)) (k : Q z w1) : (inD x y w).wp2 Q E := p_ev h k
theorem p_notInD (h : notInD x y w = .ret (z, w1)) (k : Q z w1) : (notInD x y w).wp2 Q E := p_ev h k
theorem p_isD (h : isD x y w = .ret (z, w1)) (k : Q z w1) : (isD x y w).wp2 Q E := p_ev h k
theorem p_isNotD (h : isNotD x y w = .ret (z, w1)) (k : Q z w1) : (isNotD x y w).wp2 Q E := p_ev h k
theorem p_ixD (h : ixD x y w = .ret (z, w1)) (k : Q z w1) : (ixD x y w).wp2 Q E := p_ev h k
theorem p_lenD (h : lenD l w = .ret (z, w1)) (k : Q z w1) : (lenD l w).wp2 Q E := p_ev h k
theorem p_allD (h : allD l w = .ret (z, w1)) (k : Q z w1) : (allD l w).wp2 Q E := p_ev h k
theorem p_anyD (h : anyD l w = .ret (z, w1)) (k : Q z w1) : (anyD l w).wp2 Q E := p_ev h k
theorem p_listD (h : listD l w = .ret (z, w1)) (k : Q z w1) : (listD l w).wp2 Q E := p_ev h k
theorem p_tupleD (h : tupleD l w = .ret (z, w1)) (k : Q z w1) : (tupleD l w).wp2 Q E := p_ev h k
theorem p_intD (h : intD l w = .ret (z, w1)) (k : Q z w1) : (intD l w).wp2 Q E := p_ev h k
theorem p_strD (h : strD l w = .ret (z, w1)) (k : Q z w1) : (strD l w).wp2 Q E := p_ev h k
theorem p_oTup (h : oTup l w = .ret (z, w1)) (k : Q z w1) : (oTup l w).wp2 Q E := p_ev h k
theorem p_oLst (h : oLst l w = .ret (z, w1)) (k : Q z w1) : (oLst l w).wp2 Q E := p_ev h k
theorem p_isiD {tab : TyK → Option Bool} (h : isiD tab x w = .ret (z, w1)) (k : Q z w1) : (isiD tab x w).wp2 Q E := p_ev h k
theorem p_negD (h : negD x w = .ret (z, w1)) (k : Q z w1) : (negD x w).wp2 Q E := p_ev h k
end
/-! tests that may draw -/
section
variable {E : Er → Prop} {ds : Sl} {w w1 : W} {x : D}
def tofQ (o : W → D → Option Bool) (R : Bool → W → Prop) (x : D) (w : W) : Prop := ∃ b, o w x = some b ∧ R b w
theorem k_tof {o : W → D → Option Bool} {R : Bool → W → Prop} {b : Bool} (e : o w x = some b) (h : R b w) : tofQ o R x w := ⟨b, e, h⟩
theorem q_tof {o : W → D → Option Bool} {R : Bool → W → Prop} {a : EE} (h : (a ds w).wp2 (tofQ o R) E) : (tOf o a ds w).wp2 R E := by
  unfold tOf
  refine p_bind (f := fun x w1 => match o w1 x with | some b => M.ret (b, w1) | none => M.bad) (p_mono h fun x w1 h => ?_)
  obtain ⟨b, e, h⟩ := h
  simp only [e]
  exact p_ret h
def ifQ (c : Bool) (A B : Prop) : Prop := if c = true then A else B
theorem k_if1 {c : Bool} {A B : Prop} (e : c = true) (h : A) : ifQ c A B := by subst e; exact h
theorem k_if0 {c : Bool} {A B : Prop} (e : c = false) (h : B) : ifQ c A B := by subst e; exact h
theorem q_tnot {R : Bool → W → Prop} {a : TT2} (h : (a ds w).wp2 (fun b w1 => R (!b) w1) E) : (tNot2 a ds w).wp2 R E := p_bind (f := fun b w1 => M.ret (!b, w1)) (p_mono h fun _ _ h => p_ret h)
theorem q_tor {R : Bool → W → Prop} {a b : TT2} (h : (a ds w).wp2 (fun c w1 => ifQ c (R true w1) ((b ds w1).wp2 R E)) E) : (tOr2 a b ds w).wp2 R E :=
  p_bind (f := fun c w1 => if c = true then M.ret (true, w1) else b ds w1) (p_mono h fun c w1 h => by cases c; exact h; exact p_ret h)
theorem q_tand {R : Bool → W → Prop} {a b : TT2} (h : (a ds w).wp2 (fun c w1 => ifQ c ((b ds w1).wp2 R E) (R false w1)) E) : (tAnd2 a b ds w).wp2 R E :=
  p_bind (f := fun c w1 => if c = true then b ds w1 else M.ret (false, w1)) (p_mono h fun c w1 h => by cases c; exact p_ret h; exact h)
end
/-! statements -/
section
variable {Q : Fl → W → Prop} {E : Er → Prop} {ds : Sl} {w w1 w2 w3 : W} {x y z : D}
def seqK (b : SS) (Q : Fl → W → Prop) (E : Er → Prop) : Fl → W → Prop
  | .nx ds1, w1 => (b ds1 w1).wp2 Q E
  | f, w1 => Q f w1
theorem q_seq {a b : SS} (h : (a ds w).wp2 (seqK b Q E) E) : (sSeq a b ds w).wp2 Q E := by
  refine ⟨M.wp_of_bind (M.wp_mono h.out (fun p hp => ?_) fun _ x => x)⟩
  obtain ⟨f, w1⟩ := p
  cases f with
  | nx ds1 => exact hp.out
  | rt d => exact hp
  | bk d => exact hp
  | ct d => exact hp
theorem k_nx {b : SS} (h : (b ds w).wp2 Q E) : seqK b Q E (.nx ds) w := h
theorem k_rt {b : SS} (h : Q (.rt x) w) : seqK b Q E (.rt x) w := h
theorem q_set {i : Nat} {a : EE} (h : (a ds w).wp2 (fun x w1 => Q (.nx (ds.set i (some x))) w1) E) : (sSet i a ds w).wp2 Q E := p_bind (f := fun x w1 => M.ret (Fl.nx (ds.set i (some x)), w1)) (p_mono h fun _ _ h => p_ret h)
theorem q_ret {a : EE} (h : (a ds w).wp2 (fun x w1 => Q (.rt x) w1) E) : (sRet a ds w).wp2 Q E := p_bind (f := fun x w1 => M.ret (Fl.rt x, w1)) (p_mono h fun _ _ h => p_ret h)
theorem q_drop {a : EE} (h : (a ds w).wp2 (fun _ w1 => Q (.nx ds) w1) E) : (sDrop a ds w).wp2 Q E := p_bind (f := fun x w1 => M.ret (Fl.nx ds, w1)) (p_mono h fun _ _ h => p_ret h)
theorem q_nil (h : Q (.nx ds) w) : (sNil ds w).wp2 Q E := ⟨h⟩
def parQ (i j : Nat) (ds : Sl) (Q : Fl → W → Prop) (l : List D) (w : W) : Prop := match l with | [x, y] => Q (.nx ((ds.set i (some x)).set j (some y))) w | _ => False
def parQ3 (i j k : Nat) (ds : Sl) (Q : Fl → W → Prop) (l : List D) (w : W) : Prop := match l with | [x, y, z] => Q (.nx (((ds.set i (some x)).set j (some y)).set k (some z))) w | _ => False
theorem k_par {i j : Nat} (h : Q (.nx ((ds.set i (some x)).set j (some y))) w) : parQ i j ds Q [x, y] w := h
theorem k_par3 {i j k : Nat} (h : Q (.nx (((ds.set i (some x)).set j (some y)).set k (some z))) w) : parQ3 i j k ds Q [x, y, z] w := h
theorem q_par {i j : Nat} {a : AA} (h : (a ds w).wp2 (parQ i j ds Q) E) : (sPar i j a ds w).wp2 Q E :=
  p_bind (f := parK i j ds) (p_mono h fun l w1 h => by unfold parQ at h; unfold parK; split at h; exact ⟨h⟩; exact h.elim)
theorem q_par3 {i j k : Nat} {a : AA} (h : (a ds w).wp2 (parQ3 i j k ds Q) E) : (sPar3 i j k a ds w).wp2 Q E :=
  p_bind (f := parK3 i j k ds) (p_mono h fun l w1 h => by unfold parQ3 at h; unfold parK3; split at h; exact ⟨h⟩; exact h.elim)
def asgQ (t : GD) (ds : Sl) (Q : Fl → W → Prop) (x : D) (w : W) : Prop := ∃ ds', t x ds = some ds' ∧ Q (.nx ds') w
theorem k_asg {t : GD} {ds' : Sl} (e : t x ds = some ds') (h : Q (.nx ds') w) : asgQ t ds Q x w := ⟨ds', e, h⟩
theorem q_asg {t : GD} {a : EE} (h : (a ds w).wp2 (asgQ t ds Q) E) : (sAsg t a ds w).wp2 Q E :=
  p_bind (f := asgK t ds) (p_mono h fun x w1 h => by obtain ⟨ds', e, h⟩ := h; unfold asgK; rw [e]; exact ⟨h⟩)
theorem q_sif {t : TT2} {a b : SS} (h : (t ds w).wp2 (fun c w1 => ifQ c ((a ds w1).wp2 Q E) ((b ds w1).wp2 Q E)) E) : (sIf t a b ds w).wp2 Q E :=
  p_bind (f := fun c w1 => if c = true then a ds w1 else b ds w1) (p_mono h fun c w1 h => by cases c <;> exact h)
theorem q_sif1 {t : TT2} {a b : SS} (ht : t ds w = .ret (true, w1)) (h : (a ds w1).wp2 Q E) : (sIf t a b ds w).wp2 Q E := q_sif (p_ev ht h)
theorem q_sif0 {t : TT2} {a b : SS} (ht : t ds w = .ret (false, w1)) (h : (b ds w1).wp2 Q E) : (sIf t a b ds w).wp2 Q E := q_sif (p_ev ht h)
def forQ (I : Sl → W → Prop) (Q : Fl → W → Prop) : Fl → W → Prop
  | .nx ds2, w1 => I ds2 w1
  | .ct ds2, w1 => I ds2 w1
  | .bk ds2, w1 => Q (.nx ds2) w1
  | .rt v, w1 => Q (.rt v) w1
theorem k_fnx {I : Sl → W → Prop} (h : I ds w) : forQ I Q (.nx ds) w := h
theorem k_fct {I : Sl → W → Prop} (h : I ds w) : forQ I Q (.ct ds) w := h
theorem k_frt {I : Sl → W → Prop} (h : Q (.rt x) w) : forQ I Q (.rt x) w := h
/-- a loop by what holds between its turns -/
theorem forM_wp {t : GD} {body : SS} (I : Sl → W → Prop) : ∀ (its : List D),
    (∀ d ∈ its, ∀ ds w, I ds w → ∃ ds1, t d ds = some ds1 ∧ (body ds1 w).wp2 (forQ I Q) E) →
    (∀ ds w, I ds w → Q (.nx ds) w) → ∀ ds w, I ds w → (forM t body its ds w).wp2 Q E
  | [], _, hq, ds, w, hi => ⟨hq ds w hi⟩
  | d :: r, h, hq, ds, w, hi => by
    obtain ⟨ds1, e, hb⟩ := h d List.mem_cons_self ds w hi
    unfold forM
    rw [e]
    refine ⟨M.wp_of_bind (M.wp_mono hb.out (fun p hp => ?_) fun _ x => x)⟩
    obtain ⟨f, w1⟩ := p
    have ih := fun ds w hi => forM_wp I r (fun d hd => h d (List.mem_cons_of_mem _ hd)) hq ds w hi
    cases f with
    | nx ds2 => exact (ih ds2 w1 hp).out
    | ct ds2 => exact (ih ds2 w1 hp).out
    | bk ds2 => exact hp
    | rt v => exact hp
theorem q_for {t : GD} {body : SS} {fi : II} {its : List D} (I : Sl → W → Prop) (hf : fi ds w = .ret (its, w1)) (h0 : I ds w1)
    (h : ∀ d ∈ its, ∀ ds w, I ds w → ∃ ds1, t d ds = some ds1 ∧ (body ds1 w).wp2 (forQ I Q) E)
    (hq : ∀ ds w, I ds w → Q (.nx ds) w) : (sFor fi t body ds w).wp2 Q E := by
  unfold sFor
  rw [hf]
  exact forM_wp I its h hq ds w1 h0
def fnQ (R : D → W → Prop) : Fl → W → Prop
  | .nx _, w1 => R .non w1
  | .rt d, w1 => R d w1
  | _, _ => False
theorem k_gnx {R : D → W → Prop} (h : R .non w) : fnQ R (.nx ds) w := h
theorem k_grt {R : D → W → Prop} (h : R x w) : fnQ R (.rt x) w := h
theorem q_fn {n : Nat} {b : SS} {l : List D} {R : D → W → Prop} (h : (b (l.map some ++ List.replicate (n - l.length) none) w).wp2 (fnQ R) E) : (fnM n b l w).wp2 R E := by
  refine ⟨M.wp_of_bind (M.wp_mono h.out (fun p hp => ?_) fun _ x => x)⟩
  obtain ⟨f, w1⟩ := p
  cases f with
  | nx ds1 => exact hp
  | rt d => exact hp
  | bk d => exact hp.elim
  | ct d => exact hp.elim
end
/-! a statement's end, without a draw -/
section
variable {ds : Sl} {w w1 w2 : W} {x : D} {f : Fl}
theorem u_seq {a b : SS} {ds1 : Sl} {r : M (Fl × W)} (ha : a ds w = .ret (.nx ds1, w1)) (hb : b ds1 w1 = r) : sSeq a b ds w = r := by
  unfold sSeq; rw [ha]; exact hb
theorem u_seqR {a b : SS} (ha : a ds w = .ret (.rt x, w1)) : sSeq a b ds w = .ret (.rt x, w1) := by
  unfold sSeq; rw [ha]; rfl
theorem u_nil : sNil ds w = .ret (.nx ds, w) := rfl
theorem u_set {i : Nat} {a : EE} (ha : a ds w = .ret (x, w1)) : sSet i a ds w = .ret (.nx (ds.set i (some x)), w1) := by
  unfold sSet; rw [ha]; rfl
theorem u_ret {a : EE} (ha : a ds w = .ret (x, w1)) : sRet a ds w = .ret (.rt x, w1) := by
  unfold sRet; rw [ha]; rfl
theorem u_if1 {t : TT2} {a b : SS} {r : M (Fl × W)} (ht : t ds w = .ret (true, w1)) (ha : a ds w1 = r) : sIf t a b ds w = r := by
  unfold sIf; rw [ht]; exact ha
theorem u_if0 {t : TT2} {a b : SS} {r : M (Fl × W)} (ht : t ds w = .ret (false, w1)) (ha : b ds w1 = r) : sIf t a b ds w = r := by
  unfold sIf; rw [ht]; exact ha
theorem u_fn {n : Nat} {b : SS} {l : List D} (h : b (l.map some ++ List.replicate (n - l.length) none) w = .ret (.rt x, w1)) : fnM n b l w = .ret (x, w1) := by
  unfold fnM; rw [h]; rfl
theorem u_lc {vs : List Nat} {fi : II} {t : GD} {test : TT2} {elt : EE} {its acc : List D} (hf : fi ds w = .ret (its, w1)) (h : lcM t test elt (wipeD ds vs) its [] w1 = .ret (acc, w2)) : eLc vs fi t test elt ds w = .ret (.lst acc, w2) := by
  unfold eLc; rw [hf]; show (M.bind (M.calm _) _) = _; rw [h]; rfl
theorem u_itE {a : EE} {its : List D} (ha : a ds w = .ret (x, w1)) (h : itD x w1 = .ret (its, w2)) : itE a ds w = .ret (its, w2) := by unfold itE; rw [ha]; exact h
theorem u_itR1 {a : EE} {its : List D} (ha : a ds w = .ret (x, w1)) (h : r1D x w1 = .ret (its, w2)) : itR1 a ds w = .ret (its, w2) := by unfold itR1; rw [ha]; exact h
end
theorem lcM_map {t : GD} {elt : EE} {ds : Sl} {w : W} {f : D → D} : ∀ (its acc : List D), (∀ d ∈ its, ∃ ds1, t d ds = some ds1 ∧ elt ds1 w = .ret (f d, w)) → acc.length + its.length ≤ 100000 → lcM t tYes2 elt ds its acc w = .ret (acc ++ its.map f, w)
  | [], acc, _, _ => by simp [lcM]
  | d :: r, acc, h, hl => by
    obtain ⟨ds1, e1, e2⟩ := h d List.mem_cons_self
    have hlt : lenOk acc.length = true := Nat.ble_eq_true_of_le (by rw [List.length_cons] at hl; omega)
    unfold lcM
    rw [e1]
    simp only [tYes2, M.bind, if_true, e2, hlt]
    rw [lcM_map r (acc ++ [f d]) (fun x hx => h x (List.mem_cons_of_mem _ hx)) (by rw [List.length_append, List.length_singleton]; rw [List.length_cons] at hl; omega)]
    simp
theorem bools_rep : ∀ n : Nat, boolsOf (List.replicate n (D.bl true)) = some (List.replicate n true)
  | 0 => rfl
  | n + 1 => by rw [List.replicate_succ, List.replicate_succ]; unfold boolsOf; rw [bools_rep n]; rfl
/-- plain data, n deep -/
inductive Pl : Nat → D → Prop
  | non {n} : Pl n .non
  | bl {n} (b : Bool) : Pl n (.bl b)
  | int {n} (i : Int) : Pl n (.int i)
  | str {n} (x : Str) : Pl n (.str x)
  | lst {n} {l : List D} : (∀ d ∈ l, Pl n d) → l.length ≤ 1000 → Pl (n + 1) (.lst l)
  | tup {n} {l : List D} : (∀ d ∈ l, Pl n d) → l.length ≤ 1000 → Pl (n + 1) (.tup l)
theorem atI_in {α : Type} {l : List α} {k : Nat} (h : k < l.length) : atI l (k : Int) = some l[k] := atI_nat (List.getElem?_eq_getElem h)
theorem rng_mem {n : Nat} {d : D} (h : d ∈ rngD 0 n) : ∃ k : Nat, k < n ∧ d = .int (k : Int) := by
  unfold rngD at h
  obtain ⟨k, hk, rfl⟩ := List.mem_map.mp h
  exact ⟨k, List.mem_range.mp hk, by simp⟩
theorem alike_all {f : List D → W → M (D × W)} {l : List D} {x : D} {w : W} (hx : peek w x = .lst l ∨ peek w x = .tup l) (hl : l.length ≤ 1000) (h : ∀ d ∈ l, f [d, d] w = .ret (.bl true, w)) :
    lcM (gN 2) tYes2 (eArgs (chk 2 f) (aCons (eBin ixD (eV 0) (eV 2)) (aCons (eBin ixD (eV 1) (eV 2)) aNil))) [some x, some x, none] (rngD 0 l.length) [] w = .ret (List.replicate l.length (.bl true), w) := by
  rw [lcM_map (f := fun _ => .bl true)]
  · rw [List.nil_append, List.map_const']
    unfold rngD
    rw [List.length_map, List.length_range]
  · intro d hd
    obtain ⟨k, hk, rfl⟩ := rng_mem hd
    refine ⟨_, rfl, ?_⟩
    have e := h l[k] (List.getElem_mem hk)
    have q : ixD x (.int (k : Int)) w = .ret (l[k], w) := by
      unfold ixD
      rcases hx with hx | hx <;> simp only [hx, atI_in hk]
    exact v_args (v_cons (v_bin (v_V rfl) (v_V rfl) q) (v_cons (v_bin (v_V rfl) (v_V rfl) q) v_nil)) (v_chk rfl e)
  · unfold rngD
    rw [List.length_map, List.length_range, List.length_nil]
    omega
theorem atI_mem {α : Type} {l : List α} {d : Int} (h0 : 0 ≤ d) (h1 : d < (l.length : Int)) : ∃ x, x ∈ l ∧ atI l d = some x := by
  have hk : d.toNat < l.length := by omega
  refine ⟨l[d.toNat], List.getElem_mem hk, ?_⟩
  have q := atI_in hk
  rw [show ((d.toNat : Nat) : Int) = d by omega] at q
  exact q
theorem draw_wp {Q : D → W → Prop} {E : Er → Prop} {i : Nat} {n : Int} {w : W} (hw : w[i]? = some (some .bag)) (h0 : 0 < n) (h1 : n ≤ 2 ^ 64) (h : ∀ d, 0 ≤ d → d < n → Q (.int d) w) : (mDraw [.box i, .int n] w).wp2 Q E := by
  unfold mDraw
  simp only [hw]
  exact p_draw h0 h1 fun d a b => p_ret (h d a b)
theorem eq_int {i : Int} {w : W} : eqD (.int i) (.int i) w = .ret (.bl true, w) := by unfold eqD eqD? scalD; simp
theorem eq_str {i : Str} {w : W} : eqD (.str i) (.str i) w = .ret (.bl true, w) := by unfold eqD eqD? scalD; simp
theorem eq_bl {i : Bool} {w : W} : eqD (.bl i) (.bl i) w = .ret (.bl true, w) := by unfold eqD eqD? scalD; simp
theorem bind_ret {α β : Type} {a : α} {f : α → M β} : (M.ret a).bind f = f a := rfl
theorem rep_all {n : Nat} {w : W} : allD [.lst (List.replicate n (.bl true))] w = .ret (.bl true, w) := by unfold allD; simp [bools_rep]
theorem cR_nat {n : Nat} (h : n ≤ 100000) : cR (n : Int) = true := by unfold cR; rw [Bool.and_eq_true, decide_eq_true_eq, decide_eq_true_eq]; omega
theorem r1_len {n : Nat} {w : W} (h : n ≤ 100000) : r1D (.int n) w = .ret (rngD 0 n, w) := by unfold r1D; simp only [cR_nat h]; rfl
theorem law_wp {m : List D → W → M (D × W)} {ns : List Int} (h : (m [.scr ns] []).wp2 (fun d _ => d = .bl true) fun _ => False) : (m [.scr ns] []).wp (fun p => p.1 = .bl true) fun _ => False := h.out
end Gd

set_option Elab.async false
set_option linter.all false
set_option maxRecDepth 100000
set_option maxHeartbeats 4000000
namespace Lw
open PySem L2 Gd
def topS (i : Nat) : Stmt := PySem.Challenge.pw_pagefates_k02_rows_and_integers.main.body.getD i (.Pass ⟨0, 0, 0, 0⟩)
abbrev s_law_bag : Stmt := topS 5
abbrev s_law_draw : Stmt := topS 6
abbrev s_law_pick : Stmt := topS 7
abbrev s_law_alike : Stmt := topS 8
abbrev s_is_integer : Stmt := topS 1
abbrev s_is_row : Stmt := topS 2
abbrev s_place_of : Stmt := topS 3
abbrev s_law_odds : Stmt := topS 9
abbrev s_law : Stmt := topS 10
structure Tx (K : PySem.W.Frag) (mg : Str → Option Value) (a : Nat → Addr) (d : Nat → FuncData) : Prop where
  f_law_bag : FnAt K mg "_law_bag" s_law_bag ["_law_script"] (a 0) (d 0)
  f_law_draw : FnAt K mg "_law_draw" s_law_draw ["_law_bag_here", "_law_many"] (a 1) (d 1)
  f_law_pick : FnAt K mg "_law_pick" s_law_pick ["_law_bag_here", "_law_some"] (a 2) (d 2)
  f_law_alike : FnAt K mg "_law_alike" s_law_alike ["_law_found", "_law_due"] (a 3) (d 3)
  f_is_integer : FnAt K mg "is_integer" s_is_integer ["value"] (a 4) (d 4)
  f_is_row : FnAt K mg "is_row" s_is_row ["value"] (a 5) (d 5)
  f_place_of : FnAt K mg "place_of" s_place_of ["row"] (a 6) (d 6)
  f_law_odds : FnAt K mg "_law_odds" s_law_odds [] (a 7) (d 7)
  f_law : FnAt K mg "law" s_law ["_law_script"] (a 8) (d 8)
  b_all : mg "all" = none
  b_bool : mg "bool" = none
  b_int : mg "int" = none
  b_isinstance : mg "isinstance" = none
  b_len : mg "len" = none
  b_list : mg "list" = none
  b_range : mg "range" = none
  b_str : mg "str" = none
  b_tuple : mg "tuple" = none
section
variable {P : Program} {w : World} {K : PySem.W.Frag} {mg : Str → Option Value} {base : Heap} {cl : Nat → Addr} {a : Nat → Addr} {d : Nat → FuncData}
theorem sc_law_bag : FnScope ["_law_script", "_law_seed", "_law_cell"] ["_law_script"] (defScope s_law_bag) := ⟨rfl, rfl, rfl, by decide +kernel, rfl, by decide +kernel, by decide +kernel⟩
theorem ok_law_bag (T : Tx K mg a d) : FnOk P w K mg base (L2.CX P w) 1 (a 0) (d 0) ["_law_script"] (spM (Gm.mk K cl) 1 mBag) := by
  have mi := T.b_int
  have ml := T.b_list
  refine T.f_law_bag.fn.okX sc_law_bag (fun vs H Q E h => ?_) (fun cdv A outer s H vs Q E hr h => ?_)
  · obtain ⟨π, w, G, F, ds, r, s, hl, h⟩ := h
    rw [s.length, hl]; rfl
  obtain ⟨π, w, G, F, ds, r, dl, hl, h⟩ := h
  unfold mBag at h
  split at h
  · rename_i ns
    obtain ⟨v, rfl, hd⟩ := dl.un
    cases hd with
    | @scr b0 _ hq h63 =>
    refine ⟨_, pss_cons (ps_set (i := 1) sc_law_bag.nd rfl (.inl rfl) pe_int)
      (pss_cons (ps_for ownX rfl (pi_list (pe_slice sl_list (pv 0) po_none (po_some pe_int))) (pg_name (i := 2) sc_law_bag.nd rfl (.inl rfl))
        (pss_one (ps_set (i := 1) sc_law_bag.nd rfl (.inl rfl) (pe_op op_mod (pe_callTy call_int1 rfl mi (by decide +kernel) (pa_cons (pe_op op_add (pe_op op_add (pe_op op_mul (pv 1) pe_int) (pe_op op_mod (pe_callTy call_int1 rfl mi (by decide +kernel) (pa_cons (pv 2) pa_nil)) pe_int)) pe_int) pa_nil)) pe_int))))
      (pss_one (ps_ret (pe_lst (pa_cons (pe_callTy call_list_of rfl ml (by decide +kernel) (pa_cons (pe_slice sl_list (pv 0) po_none (po_some pe_int)) pa_nil)) (pa_cons pe_int (pa_cons pe_int (pa_cons (pv 1) (pa_cons pe_int pa_nil))))))))), ?_⟩
    have hq' : SqL K H b0 (ns.map V.int) := r.sub.seq hq
    refine ⟨_, rfl, 63, rfl, b0, _, rfl, hq', fun p np => ?_⟩
    rw [cut63 h63]
    have r1 := r.aside np (.lst (ns.map V.int))
    refine ⟨p, rfl, ⟨_, .inl (.inl upd_same)⟩, for_list (K := K) (a := p) (xs := ns.map V.int) (fun i σ H2 => ∃ (z : Int) (v : Option V), σ = [some (.ref b0), some (.int z), v] ∧ 0 ≤ z ∧ z < 2147483587 ∧ H2 = upd H p (.lst (ns.map V.int)))
      ⟨5783, none, rfl, by decide, by decide, rfl⟩ (fun i σ H2 _ ⟨_, _, _, _, _, e⟩ => by subst e; exact .inl (.inl upd_same)) ?_ ?_⟩
    · rintro i y σ H2 hi ⟨z, v, rfl, h0, h1, rfl⟩
      obtain ⟨n, rfl⟩ : ∃ n, y = V.int n := by
        rw [List.getElem?_map] at hi
        cases e : ns[i]? with
        | none => rw [e] at hi; cases hi
        | some n => rw [e] at hi; exact ⟨n, (Option.some.inj hi).symm⟩
      refine ⟨_, rfl, z, 45007, rfl, rfl, .inr ⟨by decide, by decide⟩, _, rfl, .inl ⟨n, rfl, n, 2147483579, rfl, rfl, by show (0 : Int) < 2147483579; decide, _, _, rfl, rfl, _, _, rfl, rfl, .inl ⟨_, rfl, _, 2147483587, rfl, rfl, by show (0 : Int) < 2147483587; decide, ?_⟩⟩⟩
      exact ⟨_, _, rfl, Int.emod_nonneg _ (by decide), Int.emod_lt_of_pos _ (by decide), rfl⟩
    · rintro σ H2 ⟨z, v, rfl, h0, h1, rfl⟩
      refine ⟨_, rfl, 63, rfl, b0, _, rfl, r1.sub.seq hq, fun p2 np2 => ?_⟩
      rw [cut63 h63]
      have r2 := r1.aside np2 (.lst (ns.map V.int))
      refine ⟨p2, _, rfl, .inl (.inl (.inl upd_same)), fun l nl => ?_⟩
      have r3 := r2.lay nl (.lst (ns.map V.int))
      refine ⟨_, rfl, (by show 5 ≤ sizeLine; decide), fun b nb => ?_⟩
      have r4 := r3.new (b := .bag) nb ⟨l, ns, 0, 0, z, 0, upd_same, upd_same, h63, by decide, by decide, h0, h1⟩
      exact h (.ref b) _ _ _ (same_new (r2.free nl) _) (r3.subAdd b) r4 (.box Pi.add_self)
  · exact h.elim

theorem sc_law_draw : FnScope ["_law_bag_here", "_law_many", "_law_cell", "_law_digit", "_law_seed"] ["_law_bag_here", "_law_many"] (defScope s_law_draw) := ⟨rfl, rfl, rfl, by decide +kernel, rfl, by decide +kernel, by decide +kernel⟩
theorem ok_law_draw (T : Tx K mg a d) : FnOk P w K mg base (L2.CX P w) 1 (a 1) (d 1) ["_law_bag_here", "_law_many"] (spM (Gm.mk K cl) 2 mDraw) := by
  have mi := T.b_int
  have ml := T.b_len
  refine T.f_law_draw.fn.okX sc_law_draw (fun vs H Q E h => ?_) (fun cdv A outer s H vs Q E hr h => ?_)
  · obtain ⟨π, w, G, F, ds, r, s, hl, h⟩ := h
    rw [s.length, hl]; rfl
  obtain ⟨π, w', G, F', ds, r, dl, hl, h⟩ := h
  unfold mDraw at h
  split at h
  · rename_i i n
    obtain ⟨v, u, rfl, hd, hn⟩ := dl.two
    cases hd with
    | @box _ b hp =>
    cases hn
    split at h
    · rename_i hw
      obtain ⟨n0, n1, h⟩ := h
      obtain ⟨b', e1, hGb, hFb, l, ns, ix, z, sd, c, hb, hll, h63, hi0, hz0, hs0, hs1⟩ := r.live _ _ hw
      have : b' = b := Option.some.inj (e1.symm.trans hp)
      subst this
      have hl : H l = some (.lst (ns.map V.int)) := r.sub _ _ hll
      have nlb : l ≠ b' := fun q => by subst q; rw [hGb] at hll; cases hll
      have fin : ∀ i' z' s' c' d : Int, 0 ≤ i' → 0 ≤ z' → 0 ≤ s' → s' < 2147483587 → 0 ≤ d → d < n → Q (.int d) (upd H b' (.lst [.ref l, .int i', .int z', .int s', .int c'])) := fun i' z' s' c' d0 a1 a2 a3 a4 a5 a6 => by
        have r2 := r.put (b' := .bag) hw hp ⟨l, ns, i', z', s', c', upd_same, hll, h63, a1, a2, a3, a4⟩
        have ew : w'.set i (some .bag) = w' := by
          apply List.ext_getElem?
          intro j
          by_cases q : j = i
          · subst q
            rw [List.getElem?_set_self (List.getElem?_eq_some_iff.mp hw).1, hw]
          · rw [List.getElem?_set_ne (Ne.symm q)]
        rw [ew] at r2
        exact EPost.here (h d0 a5 a6) r2 (.int d0)
      obtain ⟨t3, d3, h3⟩ : ∃ t3, PSs (cxOf (L2.CX P w) P w K mg base ["_law_bag_here", "_law_many", "_law_cell", "_law_digit", "_law_seed"] "_law_draw" (defScope s_law_draw) (a 1) cdv A outer s H E) ((defBody s_law_draw).drop 2) t3 ∧ ∀ (i' z' s' c' : Int) (y2 : Option V), 0 ≤ i' → 0 ≤ z' → 0 ≤ s' → s' < 2147483587 →
          t3 { nx := fun _ H' => Q .non H', rt := Q } [some (.ref b'), some (.int n), y2, none, none] (upd H b' (.lst [.ref l, .int i', .int z', .int s', .int c'])) := by
        refine ⟨_, pss_cons (ps_if (pt_cmpR op_gt (pe_ix ix_list (pv 0) pe_int (fun _ _ => rfl)) pe_int (nomark _))
            (pss_cons (ps_set (i := 3) sc_law_draw.nd rfl (.inl rfl) (pe_op op_mod (pe_callTy call_int1 rfl mi (by decide +kernel) (pa_cons (pe_ix ix_list (pv 0) pe_int (fun _ _ => rfl)) pa_nil)) (pv 1)))
            (pss_cons (ps_asg (pe_op op_fdivW (pe_ix ix_list (pv 0) pe_int (fun _ _ => rfl)) (pv 1)) (pg_sub (pv 0) pe_int set_list))
            (pss_one (ps_ret (pv 3))))) pss_nil)
          (pss_cons (ps_set (i := 4) sc_law_draw.nd rfl (.inl rfl) (pe_ix ix_list (pv 0) pe_int (fun _ _ => rfl)))
          (pss_cons (ps_asg (pe_op op_mod (pe_callTy call_int1 rfl mi (by decide +kernel) (pa_cons (pe_op op_add (pe_op op_add (pe_op op_add (pe_op op_pow (pv 4) pe_int) (pe_op op_mul (pv 4) pe_int)) (pe_op op_mul (pe_ix ix_list (pv 0) pe_int (fun _ _ => rfl)) pe_int)) pe_int) pa_nil)) pe_int) (pg_sub (pv 0) pe_int set_list))
          (pss_one (ps_ret (pe_op op_mod (pe_callTy call_int1 rfl mi (by decide +kernel) (pa_cons (pe_op op_add (pe_op op_fdivW (pe_ix ix_list (pv 0) pe_int (fun _ _ => rfl)) pe_int) (pe_op op_mul (pe_op op_mod (pe_callTy call_int1 rfl mi (by decide +kernel) (pa_cons (pe_ix ix_list (pv 0) pe_int (fun _ _ => rfl)) pa_nil)) pe_int) pe_int)) pa_nil)) (pv 1)))))), ?_⟩
        intro i' z' s' c' y2 a1 a2 a3 a4
        have q1 : SqL K (upd H b' (.lst [.ref l, .int i', .int z', .int s', .int c'])) b' [.ref l, .int i', .int z', .int s', .int c'] := .inl (.inl upd_same)
        refine ⟨_, rfl, b', _, 2, _, rfl, rfl, q1, rfl, _, _, rfl, rfl, _, rfl, ite2 (fun e => ?_) (fun e => ?_)⟩
        · refine ⟨_, rfl, b', _, 2, _, rfl, rfl, q1, rfl, .inl ⟨_, rfl, _, rfl, _, _, rfl, rfl, n0, ?_⟩⟩
          refine ⟨_, rfl, b', _, 2, _, rfl, rfl, q1, rfl, _, rfl, _, _, rfl, rfl, wide_div (b := 65) n0 (by omega) (by decide) (by decide), ?_⟩
          refine ⟨_, rfl, b', _, 2, 2, rfl, rfl, upd_same, rfl, ?_⟩
          refine ⟨_, rfl, ?_⟩
          rw [upd_upd]
          exact fin i' (z' / n) s' c' _ a1 (Int.ediv_nonneg a2 (by omega)) a3 a4 (emod_in _ n0).1 (emod_in _ n0).2
        · refine ⟨_, rfl, b', _, 3, _, rfl, rfl, q1, rfl, ?_⟩
          refine ⟨_, rfl, _, _, rfl, rfl, ⟨by decide, by decide, by omega⟩, _, rfl, _, _, rfl, rfl, .inr ⟨by decide, by decide⟩, _, _, rfl, rfl, _, rfl, b', _, 4, _, rfl, rfl, q1, rfl, _, _, rfl, rfl, .inr ⟨by decide, by decide⟩, _, _, rfl, rfl, _, _, rfl, rfl, .inl ⟨_, rfl, _, _, rfl, rfl, by show (0 : Int) < 2147483587; decide, ?_⟩⟩
          refine ⟨_, rfl, b', _, 3, 3, rfl, rfl, upd_same, rfl, ?_⟩
          rw [upd_upd]
          have m3 : ∀ s', SqL K (upd H b' (.lst ([.ref l, .int i', .int z', .int s', .int c'] : List V))) b' [.ref l, .int i', .int z', .int s', .int c'] := fun _ => .inl (.inl upd_same)
          refine ⟨_, rfl, b', _, 3, _, rfl, rfl, m3 _, rfl, _, _, rfl, rfl, wide_div (b := 65) (by decide) (by decide) (by decide) (by decide), _, rfl, b', _, 3, _, rfl, rfl, m3 _, rfl, .inl ⟨_, rfl, _, _, rfl, rfl, by show (0 : Int) < 7907; decide, _, _, rfl, rfl, .inr ⟨by decide, by decide⟩, _, _, rfl, rfl, .inl ⟨_, rfl, _, rfl, _, _, rfl, rfl, n0, ?_⟩⟩⟩
          exact fin i' z' _ c' _ a1 a2 (emod_in _ (by decide)).1 (emod_in _ (by decide)).2 (emod_in _ n0).1 (emod_in _ n0).2
      refine ⟨_, pss_cons (ps_asg (pe_op op_add (pe_ix ix_list (pv 0) pe_int (fun _ _ => rfl)) pe_int) (pg_sub (pv 0) pe_int set_list))
        (pss_cons (ps_if (PW.pt (pw_and (pt_cmpR op_eq (pe_ix ix_list (pv 0) pe_int (fun _ _ => rfl)) pe_int (nomark _)) (pw_and1 (pt_cmpR op_lt (pe_ix ix_list (pv 0) pe_int (fun _ _ => rfl)) (pe_callB call_len_seq rfl ml PySem.boot_len (pa_cons (pe_ix ix_list (pv 0) pe_int (fun _ _ => rfl)) pa_nil)) (nomark _)))))
          (pss_cons (ps_set (i := 2) sc_law_draw.nd rfl (.inl rfl) (pe_ix ix_list (pe_ix ix_list (pv 0) pe_int (fun _ _ => rfl)) (pe_ix ix_list (pv 0) pe_int (fun _ _ => rfl)) (fun _ _ => rfl)))
          (pss_cons (ps_asg (pe_op op_add (pe_ix ix_list (pv 0) pe_int (fun _ _ => rfl)) pe_int) (pg_sub (pv 0) pe_int set_list))
          (pss_cons (ps_if (pt_cmpR op_ge (pv 2) (pe_op op_pow pe_int pe_int) (nomark _)) (pss_one (ps_asg (pv 2) (pg_sub (pv 0) pe_int set_list))) pss_nil)
          (pss_one (ps_asg (pe_op op_mod (pe_callTy call_int1 rfl mi (by decide +kernel) (pa_cons (pe_op op_add (pe_op op_add (pe_op op_mul (pe_ix ix_list (pv 0) pe_int (fun _ _ => rfl)) pe_int) (pe_op op_mod (pe_callTy call_int1 rfl mi (by decide +kernel) (pa_cons (pv 2) pa_nil)) pe_int)) pe_int) pa_nil)) pe_int) (pg_sub (pv 0) pe_int set_list)))))) pss_nil) d3), ?_⟩
      have q0 : SqL K H b' [.ref l, .int ix, .int z, .int sd, .int c] := .inl (.inl hb)
      refine ⟨_, rfl, b', _, 4, _, rfl, rfl, q0, rfl, _, _, rfl, rfl, _, rfl, b', _, 4, 4, rfl, rfl, hb, rfl, ?_⟩
      have m1 : ∀ i' z' s' c', SqL K (upd H b' (.lst ([.ref l, .int i', .int z', .int s', .int c'] : List V))) b' [.ref l, .int i', .int z', .int s', .int c'] := fun _ _ _ _ => .inl (.inl upd_same)
      have ml1 : ∀ o, SqL K (upd H b' o) l (ns.map V.int) := fun o => .inl (.inl (by rw [upd_ne nlb]; exact hl))
      refine ⟨_, rfl, b', _, 2, _, rfl, rfl, m1 _ _ _ _, rfl, rfl, _, rfl, ite2 (fun e => ?_) (fun e => ?_)⟩
      · refine ⟨_, rfl, b', _, 1, _, rfl, rfl, m1 _ _ _ _, rfl, _, rfl, b', _, 0, _, rfl, rfl, m1 _ _ _ _, rfl, l, _, rfl, .inl (ml1 _), _, _, rfl, rfl, _, rfl, ite2 (fun e2 => ?_) (fun e2 => ?_)⟩
        · have e3 : ix < ((ns.map V.int).length : Int) := of_decide_eq_true e2
          rw [List.length_map] at e3
          have hlt : ix.toNat < ns.length := by omega
          have hat : atI (ns.map V.int) ix = some (.int ns[ix.toNat]) := by
            have q : atI (ns.map V.int) ((ix.toNat : Nat) : Int) = some (.int ns[ix.toNat]) := atI_nat (by rw [List.getElem?_map, List.getElem?_eq_getElem hlt]; rfl)
            rw [show ((ix.toNat : Nat) : Int) = ix by omega] at q
            exact q
          refine ⟨_, rfl, b', _, 0, _, rfl, rfl, m1 _ _ _ _, rfl, _, rfl, b', _, 1, _, rfl, rfl, m1 _ _ _ _, rfl, l, _, ix, _, rfl, rfl, ml1 _, hat, ?_⟩
          refine ⟨_, rfl, b', _, 1, _, rfl, rfl, m1 _ _ _ _, rfl, _, _, rfl, rfl, _, rfl, b', _, 1, 1, rfl, rfl, upd_same, rfl, ?_⟩
          rw [upd_upd]
          refine ⟨_, rfl, _, _, rfl, rfl, ⟨by decide, by decide, by decide⟩, _, _, rfl, rfl, _, rfl, ite2 (fun e4 => ?_) (fun e4 => ?_)⟩
          · have e5 : ((10 : Int) ^ (18 : Int).toNat) ≤ ns[ix.toNat] := of_decide_eq_true e4
            have e6 : ((10 : Int) ^ (18 : Int).toNat) = 1000000000000000000 := by decide
            rw [e6] at e5
            refine ⟨_, rfl, _, rfl, b', _, 2, 2, rfl, rfl, upd_same, rfl, ?_⟩
            rw [upd_upd]
            refine ⟨_, rfl, b', _, 3, _, rfl, rfl, m1 _ _ _ _, rfl, _, _, rfl, rfl, .inr ⟨by decide, by decide⟩, _, rfl, .inl ⟨_, rfl, _, _, rfl, rfl, by show (0 : Int) < 2147483563; decide, _, _, rfl, rfl, _, _, rfl, rfl, .inl ⟨_, rfl, _, _, rfl, rfl, by show (0 : Int) < 2147483587; decide, ?_⟩⟩⟩
            refine ⟨_, rfl, b', _, 3, 3, rfl, rfl, upd_same, rfl, ?_⟩
            rw [upd_upd]
            exact h3 _ _ _ _ _ (by omega) (by omega) (emod_in _ (by decide)).1 (emod_in _ (by decide)).2
          · refine ⟨_, rfl, b', _, 3, _, rfl, rfl, m1 _ _ _ _, rfl, _, _, rfl, rfl, .inr ⟨by decide, by decide⟩, _, rfl, .inl ⟨_, rfl, _, _, rfl, rfl, by show (0 : Int) < 2147483563; decide, _, _, rfl, rfl, _, _, rfl, rfl, .inl ⟨_, rfl, _, _, rfl, rfl, by show (0 : Int) < 2147483587; decide, ?_⟩⟩⟩
            refine ⟨_, rfl, b', _, 3, 3, rfl, rfl, upd_same, rfl, ?_⟩
            rw [upd_upd]
            exact h3 _ _ _ _ _ (by omega) hz0 (emod_in _ (by decide)).1 (emod_in _ (by decide)).2
        · exact h3 _ _ _ _ _ hi0 hz0 hs0 hs1
      · exact h3 _ _ _ _ _ hi0 hz0 hs0 hs1
    · exact h.elim
  · exact h.elim

theorem sc_law_pick : FnScope ["_law_bag_here", "_law_some"] ["_law_bag_here", "_law_some"] (defScope s_law_pick) := ⟨rfl, rfl, rfl, by decide +kernel, rfl, by decide +kernel, by decide +kernel⟩
def b_law_pick : SS := sRet (eBin ixD (eV 1) (eArgs (chk 2 mDraw) (aCons (eV 0) (aCons (eArgs lenD (aCons (eV 1) (aNil))) (aNil)))))
def m_law_pick : List D → W → M (D × W) := fnM 2 b_law_pick
theorem ok_law_pick (T : Tx K mg a d) : FnOk P w K mg base (L2.CX P w) 2 (a 2) (d 2) ["_law_bag_here", "_law_some"] (spM (Gm.mk K cl) 2 m_law_pick) :=
  fn_M (N := ["_law_bag_here", "_law_some"]) (ps := ["_law_bag_here", "_law_some"]) (body := b_law_pick) T.f_law_pick.fn sc_law_pick fun cdv A outer s H E hr => ds_one (ds_ret (de_ix (de_v 1) (de_call ((ok_law_draw T).mono (by decide)) hr (by rfl) T.f_law_draw.m T.f_law_draw.fn.kp T.f_law_draw.b passX (da_cons (de_v 0) (da_cons (de_callB cd_len (by rfl) T.b_len (by decide +kernel) (da_cons (de_v 1) (da_nil))) (da_nil))))))
theorem sc_law_alike : FnScope ["_law_found", "_law_due", "_law_k"] ["_law_found", "_law_due"] (defScope s_law_alike) := ⟨rfl, rfl, rfl, by decide +kernel, rfl, by decide +kernel, by decide +kernel⟩
def b_law_alike (self : List D → W → M (D × W)) : SS := sSeq (sIf (tOr2 (tOf boolD (eBin isD (eV 0) (eC .non))) (tOf boolD (eBin isD (eV 1) (eC .non)))) (sRet (eAnd (eBin isD (eV 0) (eC .non)) (eBin isD (eV 1) (eC .non)))) (sNil))
        (sSeq (sIf (tOf truD (eUn (isiD (tabB2 .list .tuple)) (eV 1))) (sSeq (sIf (tOr2 (tOf boolD (eBin neD (eUn (isiD (tabB .list)) (eV 0)) (eUn (isiD (tabB .list)) (eV 1)))) (tOf boolD (eBin neD (eUn (isiD (tabB .tuple)) (eV 0)) (eUn (isiD (tabB .tuple)) (eV 1))))) (sRet (eC (.bl false))) (sNil))
        (sRet (eAnd (eBin eqD (eArgs lenD (aCons (eV 0) (aNil))) (eArgs lenD (aCons (eV 1) (aNil)))) (eArgs allD (aCons (eLc [2] (itR1 (eArgs lenD (aCons (eV 1) (aNil)))) (gN 2) (tYes2) (eArgs (chk 2 self) (aCons (eBin ixD (eV 0) (eV 2)) (aCons (eBin ixD (eV 1) (eV 2)) (aNil))))) (aNil)))))) (sNil))
        (sSeq (sIf (tOr2 (tOf boolD (eBin neD (eUn (isiD (tabB .bool)) (eV 0)) (eUn (isiD (tabB .bool)) (eV 1)))) (tOf boolD (eBin neD (eUn (isiD (tabB .int)) (eV 0)) (eUn (isiD (tabB .int)) (eV 1))))) (sRet (eC (.bl false))) (sNil))
        (sRet (eAnd (eBin eqD (eUn (isiD (tabB .str)) (eV 0)) (eUn (isiD (tabB .str)) (eV 1))) (eBin eqD (eV 0) (eV 1))))))
def m_law_alike : Nat → List D → W → M (D × W)
  | 0 => fun _ _ => .bad
  | n + 1 => fnM 3 (b_law_alike (m_law_alike n))
theorem ok_law_alike (T : Tx K mg a d) : ∀ n : Nat, FnOk P w K mg base (L2.CX P w) n (a 3) (d 3) ["_law_found", "_law_due"] (spM (Gm.mk K cl) 2 (m_law_alike n))
  | 0 => no_M
  | n + 1 => by
    have ih := ok_law_alike T n
    exact fn_M (N := ["_law_found", "_law_due", "_law_k"]) (ps := ["_law_found", "_law_due"]) (body := b_law_alike (m_law_alike n)) T.f_law_alike.fn sc_law_alike fun cdv A outer s H E hr => ds_cons (ds_if (PW.pt (dw_or (dt_cmp od_is (de_v 0) (de_non)) (dw_or1 (dt_cmp od_is (de_v 1) (de_non))))) (ds_one (ds_ret (de_and (de_cmp od_is (de_v 0) (de_non)) (de_one (de_cmp od_is (de_v 1) (de_non)))))) (ds_nil))
        (ds_cons (ds_if (dt_truth (de_isiT2 T.b_isinstance (by rfl) T.b_list (by rfl) (by decide +kernel) T.b_tuple (by rfl) (by decide +kernel) (de_v 1))) (ds_cons (ds_if (PW.pt (dw_or (dt_cmp (od_ne hr.units) (de_isiB T.b_isinstance (by rfl) T.b_list (by rfl) (by decide +kernel) (de_v 0)) (de_isiB T.b_isinstance (by rfl) T.b_list (by rfl) (by decide +kernel) (de_v 1))) (dw_or1 (dt_cmp (od_ne hr.units) (de_isiB T.b_isinstance (by rfl) T.b_tuple (by rfl) (by decide +kernel) (de_v 0)) (de_isiB T.b_isinstance (by rfl) T.b_tuple (by rfl) (by decide +kernel) (de_v 1)))))) (ds_one (ds_ret (de_bl))) (ds_nil))
        (ds_one (ds_ret (de_and (de_cmp (od_eq hr.units) (de_callB cd_len (by rfl) T.b_len (by decide +kernel) (da_cons (de_v 0) (da_nil))) (de_callB cd_len (by rfl) T.b_len (by decide +kernel) (da_cons (de_v 1) (da_nil)))) (de_one (de_callB (cd_all rfl) (by rfl) T.b_all (by decide +kernel) (da_cons (de_lc (own := [("_law_k", 2)]) rfl sc_law_alike.nd (di_range1 (by rfl) T.b_range (de_callB cd_len (by rfl) T.b_len (by decide +kernel) (da_cons (de_v 1) (da_nil)))) (blkOk_by (N := ["_law_found", "_law_due", "_law_k"]) (sc := defScope s_law_alike) (own := [("_law_k", 2)]) (by decide +kernel)) (fun _ _ _ _ _ => dg_name (i := 2) sc_law_alike.nd rfl (.inl rfl)) (fun _ _ _ _ _ => dts_nil) (fun _ _ _ _ _ => de_call ih hr (by rfl) T.f_law_alike.m T.f_law_alike.fn.kp T.f_law_alike.b passL (da_cons (de_ix (de_v 0) (de_v 2)) (da_cons (de_ix (de_v 1) (de_v 2)) (da_nil)))) (by decide)) (da_nil)))))))) (ds_nil))
        (ds_cons (ds_if (PW.pt (dw_or (dt_cmp (od_ne hr.units) (de_isiB T.b_isinstance (by rfl) T.b_bool (by rfl) (by decide +kernel) (de_v 0)) (de_isiB T.b_isinstance (by rfl) T.b_bool (by rfl) (by decide +kernel) (de_v 1))) (dw_or1 (dt_cmp (od_ne hr.units) (de_isiB T.b_isinstance (by rfl) T.b_int (by rfl) (by decide +kernel) (de_v 0)) (de_isiB T.b_isinstance (by rfl) T.b_int (by rfl) (by decide +kernel) (de_v 1)))))) (ds_one (ds_ret (de_bl))) (ds_nil))
        (ds_one (ds_ret (de_and (de_cmp (od_eq hr.units) (de_isiB T.b_isinstance (by rfl) T.b_str (by rfl) (by decide +kernel) (de_v 0)) (de_isiB T.b_isinstance (by rfl) T.b_str (by rfl) (by decide +kernel) (de_v 1))) (de_one (de_cmp (od_eq hr.units) (de_v 0) (de_v 1))))))))
theorem sc_is_integer : FnScope ["value"] ["value"] (defScope s_is_integer) := ⟨rfl, rfl, rfl, by decide +kernel, rfl, by decide +kernel, by decide +kernel⟩
def b_is_integer : SS := sRet (eAnd (eUn (isiD (tabB .int)) (eV 0)) (eNot (eUn (isiD (tabB .bool)) (eV 0))))
def m_is_integer : List D → W → M (D × W) := fnM 1 b_is_integer
theorem ok_is_integer (T : Tx K mg a d) : FnOk P w K mg base (L2.CX P w) 1 (a 4) (d 4) ["value"] (spM (Gm.mk K cl) 1 m_is_integer) :=
  fn_M (N := ["value"]) (ps := ["value"]) (body := b_is_integer) T.f_is_integer.fn sc_is_integer fun cdv A outer s H E hr => ds_one (ds_ret (de_and (de_isiB T.b_isinstance (by rfl) T.b_int (by rfl) (by decide +kernel) (de_v 0)) (de_one (de_not (de_isiB T.b_isinstance (by rfl) T.b_bool (by rfl) (by decide +kernel) (de_v 0))))))
theorem sc_is_row : FnScope ["value"] ["value"] (defScope s_is_row) := ⟨rfl, rfl, rfl, by decide +kernel, rfl, by decide +kernel, by decide +kernel⟩
def b_is_row : SS := sRet (eAnd (eUn (isiD (tabB .tuple)) (eV 0)) (eAnd (eBin eqD (eArgs lenD (aCons (eV 0) (aNil))) (eC (.int 2))) (eAnd (eArgs (chk 1 m_is_integer) (aCons (eBin ixD (eV 0) (eC (.int 0))) (aNil))) (eArgs (chk 1 m_is_integer) (aCons (eBin ixD (eV 0) (eC (.int 1))) (aNil))))))
def m_is_row : List D → W → M (D × W) := fnM 1 b_is_row
theorem ok_is_row (T : Tx K mg a d) : FnOk P w K mg base (L2.CX P w) 2 (a 5) (d 5) ["value"] (spM (Gm.mk K cl) 1 m_is_row) :=
  fn_M (N := ["value"]) (ps := ["value"]) (body := b_is_row) T.f_is_row.fn sc_is_row fun cdv A outer s H E hr => ds_one (ds_ret (de_and (de_isiB T.b_isinstance (by rfl) T.b_tuple (by rfl) (by decide +kernel) (de_v 0)) (de_and (de_cmp (od_eq hr.units) (de_callB cd_len (by rfl) T.b_len (by decide +kernel) (da_cons (de_v 0) (da_nil))) (de_int)) (de_and (de_call ((ok_is_integer T).mono (by decide)) hr (by rfl) T.f_is_integer.m T.f_is_integer.fn.kp T.f_is_integer.b passX (da_cons (de_ix (de_v 0) (de_int)) (da_nil))) (de_one (de_call ((ok_is_integer T).mono (by decide)) hr (by rfl) T.f_is_integer.m T.f_is_integer.fn.kp T.f_is_integer.b passX (da_cons (de_ix (de_v 0) (de_int)) (da_nil))))))))
theorem sc_place_of : FnScope ["row"] ["row"] (defScope s_place_of) := ⟨rfl, rfl, rfl, by decide +kernel, rfl, by decide +kernel, by decide +kernel⟩
def b_place_of : SS := sRet (eArgs oTup (aCons (eBin ixD (eV 0) (eC (.int 1))) (aCons (eBin ixD (eV 0) (eC (.int 0))) (aNil))))
def m_place_of : List D → W → M (D × W) := fnM 1 b_place_of
theorem ok_place_of (T : Tx K mg a d) : FnOk P w K mg base (L2.CX P w) 1 (a 6) (d 6) ["row"] (spM (Gm.mk K cl) 1 m_place_of) :=
  fn_M (N := ["row"]) (ps := ["row"]) (body := b_place_of) T.f_place_of.fn sc_place_of fun cdv A outer s H E hr => ds_one (ds_ret (de_tup (da_cons (de_ix (de_v 0) (de_int)) (da_cons (de_ix (de_v 0) (de_int)) (da_nil)))))
theorem sc_law_odds : FnScope [] [] (defScope s_law_odds) := ⟨rfl, rfl, rfl, by decide +kernel, rfl, by decide +kernel, by decide +kernel⟩
def b_law_odds : SS := sRet (eArgs oLst (aCons (eC .non) (aCons (eC (.int 3)) (aCons (eC (.str "")) (aCons (eArgs oTup (aNil)) (aCons (eArgs oTup (aCons (eC (.int 1)) (aNil))) (aCons (eArgs oTup (aCons (eC (.int 1)) (aCons (eC (.int 2)) (aCons (eC (.int 3)) (aNil))))) (aCons (eArgs oTup (aCons (eC (.bl true)) (aCons (eC (.int 2)) (aNil)))) (aCons (eArgs oTup (aCons (eC (.int 1)) (aCons (eC (.str "2")) (aNil)))) (aCons (eArgs oLst (aCons (eC (.int 1)) (aCons (eC (.int 2)) (aNil)))) (aCons (eArgs oTup (aCons (eC (.str "1")) (aCons (eC (.int 2)) (aNil)))) (aCons (eArgs oTup (aCons (eC .non) (aCons (eC (.int 1)) (aNil)))) (aCons (eArgs oTup (aCons (eArgs oTup (aCons (eC (.int 1)) (aCons (eC (.int 2)) (aNil)))) (aNil))) (aNil))))))))))))))
def m_law_odds : List D → W → M (D × W) := fnM 0 b_law_odds
theorem ok_law_odds (T : Tx K mg a d) : FnOk P w K mg base (L2.CX P w) 1 (a 7) (d 7) [] (spM (Gm.mk K cl) 0 m_law_odds) :=
  fn_M (N := []) (ps := []) (body := b_law_odds) T.f_law_odds.fn sc_law_odds fun cdv A outer s H E hr => ds_one (ds_ret (de_lst (by (refine da_cons (de_non) ?_; refine da_cons (de_int) ?_; refine da_cons (de_str) ?_; refine da_cons (de_tup (da_nil)) ?_; refine da_cons (de_tup (da_cons (de_int) (da_nil))) ?_; refine da_cons (de_tup (da_cons (de_int) (da_cons (de_int) (da_cons (de_int) (da_nil))))) ?_; refine da_cons (de_tup (da_cons (de_bl) (da_cons (de_int) (da_nil)))) ?_; refine da_cons (de_tup (da_cons (de_int) (da_cons (de_str) (da_nil)))) ?_; refine da_cons (de_lst (da_cons (de_int) (da_cons (de_int) (da_nil)))) ?_; refine da_cons (de_tup (da_cons (de_str) (da_cons (de_int) (da_nil)))) ?_; refine da_cons (de_tup (da_cons (de_non) (da_cons (de_int) (da_nil)))) ?_; refine da_cons (de_tup (da_cons (de_tup (da_cons (de_int) (da_cons (de_int) (da_nil)))) (da_nil))) ?_; exact da_nil))))
theorem sc_law : FnScope ["_law_script", "_law_bag_here", "_law_turn", "_law_odd", "_law_number", "_law_key"] ["_law_script"] (defScope s_law) := ⟨rfl, rfl, rfl, by decide +kernel, rfl, by decide +kernel, by decide +kernel⟩
def b_law : SS := sSeq (sSet 1 (eArgs (chk 1 mBag) (aCons (eV 0) (aNil))))
        (sSeq (sFor (itR1 (eC (.int 8))) (gN 2) (sSeq (sPar 4 5 (aCons (eBin subD (eArgs (chk 2 mDraw) (aCons (eV 1) (aCons (eBin powD (eC (.int 10)) (eC (.int 18))) (aNil)))) (eBin powD (eC (.int 10)) (eC (.int 17)))) (aCons (eArgs (chk 2 m_law_pick) (aCons (eV 1) (aCons (eArgs oLst (aCons (eC (.int 0)) (aCons (eC (.int 1)) (aCons (eBin subD (eC (.int 0)) (eC (.int 1))) (aCons (eBin powD (eC (.int 10)) (eC (.int 17))) (aCons (eArgs (chk 2 mDraw) (aCons (eV 1) (aCons (eC (.int 99)) (aNil)))) (aNil))))))) (aNil)))) (aNil))))
        (sSeq (sIf (tNot2 (tOf truD (eArgs (chk 2 (m_law_alike 4)) (aCons (eArgs oLst (aCons (eArgs (chk 1 m_is_integer) (aCons (eV 4) (aNil))) (aCons (eArgs (chk 1 m_is_row) (aCons (eArgs oTup (aCons (eV 4) (aCons (eV 5) (aNil)))) (aNil))) (aCons (eArgs (chk 1 m_place_of) (aCons (eArgs oTup (aCons (eV 4) (aCons (eV 5) (aNil)))) (aNil))) (aNil))))) (aCons (eArgs oLst (aCons (eC (.bl true)) (aCons (eC (.bl true)) (aCons (eArgs oTup (aCons (eV 5) (aCons (eV 4) (aNil)))) (aNil))))) (aNil)))))) (sRet (eC (.bl false))) (sNil))
        (sSeq (sSet 3 (eArgs (chk 2 m_law_pick) (aCons (eV 1) (aCons (eArgs (chk 0 m_law_odds) aNil) (aNil)))))
        (sSeq (sIf (tOr2 (tOf boolD (eBin isNotD (eArgs (chk 1 m_is_row) (aCons (eV 3) (aNil))) (eC (.bl false)))) (tOf boolD (eBin isNotD (eArgs (chk 1 m_is_row) (aCons (eArgs oLst (aCons (eV 4) (aCons (eV 5) (aNil)))) (aNil))) (eC (.bl false))))) (sRet (eC (.bl false))) (sNil))
        (sIf (tOf boolD (eBin isNotD (eArgs (chk 1 m_is_integer) (aCons (eArgs (chk 2 m_law_pick) (aCons (eV 1) (aCons (eArgs oLst (aCons (eC .non) (aCons (eC (.bl true)) (aCons (eC (.bl false)) (aCons (eC (.str "1")) (aCons (eArgs oTup (aCons (eC (.int 1)) (aNil))) (aCons (eArgs oLst (aCons (eC (.int 1)) (aNil))) (aCons (eArgs oTup (aNil)) (aNil))))))))) (aNil)))) (aNil))) (eC (.bl false)))) (sRet (eC (.bl false))) (sNil)))))))
        (sRet (eAnd (eArgs (chk 1 m_is_integer) (aCons (eC (.int 0)) (aNil))) (eAnd (eArgs (chk 1 m_is_row) (aCons (eArgs oTup (aCons (eC (.int 0)) (aCons (eC (.int 0)) (aNil)))) (aNil))) (eNot (eArgs (chk 1 m_is_row) (aCons (eArgs oTup (aCons (eArgs oTup (aCons (eC (.int 0)) (aCons (eC (.int 0)) (aNil)))) (aNil))) (aNil))))))))
def m_law : List D → W → M (D × W) := fnM 6 b_law
theorem ok_law (T : Tx K mg a d) : FnOk P w K mg base (L2.CX P w) 5 (a 8) (d 8) ["_law_script"] (spM (Gm.mk K cl) 1 m_law) :=
  fn_M (N := ["_law_script", "_law_bag_here", "_law_turn", "_law_odd", "_law_number", "_law_key"]) (ps := ["_law_script"]) (body := b_law) T.f_law.fn sc_law fun cdv A outer s H E hr => ds_cons (ds_set (i := 1) sc_law.nd rfl (.inl rfl) (de_call ((ok_law_bag T).mono (by decide)) hr (by rfl) T.f_law_bag.m T.f_law_bag.fn.kp T.f_law_bag.b passX (da_cons (de_v 0) (da_nil))))
        (ds_cons (ds_for ownX rfl (di_range1 (by rfl) T.b_range (de_int)) (dg_name (i := 2) sc_law.nd rfl (.inl rfl)) (ds_cons (ds_par (i := 4) (j := 5) rfl sc_law.nd rfl rfl (by decide) rfl rfl (da_cons (de_bin od_sub (de_call ((ok_law_draw T).mono (by decide)) hr (by rfl) T.f_law_draw.m T.f_law_draw.fn.kp T.f_law_draw.b passX (da_cons (de_v 1) (da_cons (de_bin od_pow (de_int) (de_int)) (da_nil)))) (de_bin od_pow (de_int) (de_int))) (da_cons (de_call ((ok_law_pick T).mono (by decide)) hr (by rfl) T.f_law_pick.m T.f_law_pick.fn.kp T.f_law_pick.b passX (da_cons (de_v 1) (da_cons (de_lst (by (refine da_cons (de_int) ?_; refine da_cons (de_int) ?_; refine da_cons (de_bin od_sub (de_int) (de_int)) ?_; refine da_cons (de_bin od_pow (de_int) (de_int)) ?_; refine da_cons (de_call ((ok_law_draw T).mono (by decide)) hr (by rfl) T.f_law_draw.m T.f_law_draw.fn.kp T.f_law_draw.b passX (da_cons (de_v 1) (da_cons (de_int) (da_nil)))) ?_; exact da_nil))) (da_nil)))) (da_nil))) (by rfl))
        (ds_cons (ds_if (dt_not (dt_truth (de_call ((ok_law_alike T 4).mono (by decide)) hr (by rfl) T.f_law_alike.m T.f_law_alike.fn.kp T.f_law_alike.b passX (da_cons (de_lst (da_cons (de_call ((ok_is_integer T).mono (by decide)) hr (by rfl) T.f_is_integer.m T.f_is_integer.fn.kp T.f_is_integer.b passX (da_cons (de_v 4) (da_nil))) (da_cons (de_call ((ok_is_row T).mono (by decide)) hr (by rfl) T.f_is_row.m T.f_is_row.fn.kp T.f_is_row.b passX (da_cons (de_tup (da_cons (de_v 4) (da_cons (de_v 5) (da_nil)))) (da_nil))) (da_cons (de_call ((ok_place_of T).mono (by decide)) hr (by rfl) T.f_place_of.m T.f_place_of.fn.kp T.f_place_of.b passX (da_cons (de_tup (da_cons (de_v 4) (da_cons (de_v 5) (da_nil)))) (da_nil))) (da_nil))))) (da_cons (de_lst (da_cons (de_bl) (da_cons (de_bl) (da_cons (de_tup (da_cons (de_v 5) (da_cons (de_v 4) (da_nil)))) (da_nil))))) (da_nil)))))) (ds_one (ds_ret (de_bl))) (ds_nil))
        (ds_cons (ds_set (i := 3) sc_law.nd rfl (.inl rfl) (de_call ((ok_law_pick T).mono (by decide)) hr (by rfl) T.f_law_pick.m T.f_law_pick.fn.kp T.f_law_pick.b passX (da_cons (de_v 1) (da_cons (de_call0 ((ok_law_odds T).mono (by decide)) hr (by rfl) T.f_law_odds.m T.f_law_odds.fn.kp T.f_law_odds.b passX) (da_nil)))))
        (ds_cons (ds_if (PW.pt (dw_or (dt_cmp od_isNot (de_call ((ok_is_row T).mono (by decide)) hr (by rfl) T.f_is_row.m T.f_is_row.fn.kp T.f_is_row.b passX (da_cons (de_v 3) (da_nil))) (de_bl)) (dw_or1 (dt_cmp od_isNot (de_call ((ok_is_row T).mono (by decide)) hr (by rfl) T.f_is_row.m T.f_is_row.fn.kp T.f_is_row.b passX (da_cons (de_lst (da_cons (de_v 4) (da_cons (de_v 5) (da_nil)))) (da_nil))) (de_bl))))) (ds_one (ds_ret (de_bl))) (ds_nil))
        (ds_one (ds_if (dt_cmp od_isNot (de_call ((ok_is_integer T).mono (by decide)) hr (by rfl) T.f_is_integer.m T.f_is_integer.fn.kp T.f_is_integer.b passX (da_cons (de_call ((ok_law_pick T).mono (by decide)) hr (by rfl) T.f_law_pick.m T.f_law_pick.fn.kp T.f_law_pick.b passX (da_cons (de_v 1) (da_cons (de_lst (by (refine da_cons (de_non) ?_; refine da_cons (de_bl) ?_; refine da_cons (de_bl) ?_; refine da_cons (de_str) ?_; refine da_cons (de_tup (da_cons (de_int) (da_nil))) ?_; refine da_cons (de_lst (da_cons (de_int) (da_nil))) ?_; refine da_cons (de_tup (da_nil)) ?_; exact da_nil))) (da_nil)))) (da_nil))) (de_bl)) (ds_one (ds_ret (de_bl))) (ds_nil))))))))
        (ds_one (ds_ret (de_and (de_call ((ok_is_integer T).mono (by decide)) hr (by rfl) T.f_is_integer.m T.f_is_integer.fn.kp T.f_is_integer.b passX (da_cons (de_int) (da_nil))) (de_and (de_call ((ok_is_row T).mono (by decide)) hr (by rfl) T.f_is_row.m T.f_is_row.fn.kp T.f_is_row.b passX (da_cons (de_tup (da_cons (de_int) (da_cons (de_int) (da_nil)))) (da_nil))) (de_one (de_not (de_call ((ok_is_row T).mono (by decide)) hr (by rfl) T.f_is_row.m T.f_is_row.fn.kp T.f_is_row.b passX (da_cons (de_tup (da_cons (de_tup (da_cons (de_int) (da_cons (de_int) (da_nil)))) (da_nil))) (da_nil))))))))))
end
end Lw

set_option Elab.async false
set_option linter.all false
set_option maxRecDepth 100000
set_option maxHeartbeats 400000
namespace Lw
open PySem L2 Gd
local macro_rules | `(tactic| walk_at "c") => `(tactic| fail)
local macro_rules | `(tactic| walk_at "o") => `(tactic| first | ((with_reducible apply v_chk); rfl; walk_at "c") | with_reducible exact eq_int | with_reducible exact eq_str | with_reducible exact eq_bl | ((fail_if_success (with_reducible apply v_chk)); rfl))
local macro_rules | `(tactic| walk_at "e") => `(tactic| first
  | with_reducible exact v_C | ((with_reducible apply v_V); rfl) | with_reducible exact v_nil
  | ((with_reducible apply v_cons); walk_at "e"; walk_at "e")
  | ((with_reducible apply v_bin); walk_at "e"; walk_at "e"; walk_at "o")
  | ((with_reducible apply v_un); walk_at "e"; walk_at "o")
  | ((with_reducible apply v_args); walk_at "e"; walk_at "o")
  | ((with_reducible apply t_of); walk_at "e"; rfl)
  | ((with_reducible apply t_not); walk_at "e"; rfl)
  | ((with_reducible apply t_or0); walk_at "e"; walk_at "e") | ((with_reducible apply t_or1); walk_at "e")
  | ((with_reducible apply t_and1); walk_at "e"; walk_at "e") | ((with_reducible apply t_and0); walk_at "e")
  | ((with_reducible apply v_and1); walk_at "e"; rfl; walk_at "e") | ((with_reducible apply v_and0); walk_at "e"; rfl)
  | ((with_reducible apply v_or0); walk_at "e"; rfl; walk_at "e") | ((with_reducible apply v_or1); walk_at "e"; rfl)
  | ((with_reducible apply v_not); walk_at "e"; rfl)
  | ((with_reducible apply v_if1); walk_at "e"; walk_at "e") | ((with_reducible apply v_if0); walk_at "e"; walk_at "e"))
local macro_rules | `(tactic| walk_at "s") => `(tactic| first
  | ((with_reducible apply u_ret); walk_at "e")
  | ((with_reducible apply u_set); walk_at "e")
  | with_reducible exact u_nil
  | ((with_reducible apply u_if0); walk_at "e"; walk_at "s")
  | ((with_reducible apply u_if1); walk_at "e"; walk_at "s")
  | ((with_reducible apply u_seq); walk_at "s"; walk_at "s")
  | ((with_reducible apply u_seqR); walk_at "s"))
local macro_rules | `(tactic| walk_at "w") => `(tactic| first
  | ((with_reducible apply k_nx); walk_at "w") | ((with_reducible apply k_rt); walk_at "w")
  | ((with_reducible apply q_seq); walk_at "w") | ((with_reducible apply q_set); walk_at "w") | ((with_reducible apply q_ret); walk_at "w") | ((with_reducible apply q_nil); walk_at "w")
  | ((with_reducible apply q_par); walk_at "w") | ((with_reducible apply k_par); walk_at "w") | ((with_reducible apply q_par3); walk_at "w") | ((with_reducible apply k_par3); walk_at "w") | ((with_reducible apply q_asg); walk_at "w") | ((with_reducible apply k_asg); rfl; walk_at "w") | (with_reducible apply k_grt) | ((with_reducible apply k_frt); walk_at "w") | (with_reducible apply k_fnx)
  | ((with_reducible apply q_sif0); walk_at "e"; walk_at "w") | ((with_reducible apply q_sif1); walk_at "e"; walk_at "w")
  | ((with_reducible apply p_ev); walk_at "e"; walk_at "w")
  | ((with_reducible apply q_sif); walk_at "w") | ((with_reducible apply q_tof); walk_at "w") | ((with_reducible apply k_tof); rfl; walk_at "w") | ((with_reducible apply k_if0); rfl; walk_at "w") | ((with_reducible apply k_if1); rfl; walk_at "w") | ((with_reducible apply q_tnot); walk_at "w") | ((with_reducible apply q_tor); walk_at "w") | ((with_reducible apply q_tand); walk_at "w")
  | ((with_reducible apply q_bin); walk_at "w") | ((with_reducible apply q_un); walk_at "w") | ((with_reducible apply q_args); walk_at "w") | ((with_reducible apply q_cons); walk_at "w") | ((with_reducible apply q_chk); rfl; walk_at "w")
  | ((with_reducible apply p_addD); walk_at "o"; walk_at "w") | ((with_reducible apply p_subD); walk_at "o"; walk_at "w") | ((with_reducible apply p_mulD); walk_at "o"; walk_at "w") | ((with_reducible apply p_fdivD); walk_at "o"; walk_at "w") | ((with_reducible apply p_modD); walk_at "o"; walk_at "w") | ((with_reducible apply p_powD); walk_at "o"; walk_at "w") | ((with_reducible apply p_eqD); walk_at "o"; walk_at "w") | ((with_reducible apply p_neD); walk_at "o"; walk_at "w") | ((with_reducible apply p_ltD); walk_at "o"; walk_at "w") | ((with_reducible apply p_leD); walk_at "o"; walk_at "w") | ((with_reducible apply p_gtD); walk_at "o"; walk_at "w") | ((with_reducible apply p_geD); walk_at "o"; walk_at "w") | ((with_reducible apply p_inD); walk_at "o"; walk_at "w") | ((with_reducible apply p_notInD); walk_at "o"; walk_at "w") | ((with_reducible apply p_isD); walk_at "o"; walk_at "w") | ((with_reducible apply p_isNotD); walk_at "o"; walk_at "w") | ((with_reducible apply p_ixD); walk_at "o"; walk_at "w") | ((with_reducible apply p_lenD); walk_at "o"; walk_at "w") | ((with_reducible apply p_allD); walk_at "o"; walk_at "w") | ((with_reducible apply p_anyD); walk_at "o"; walk_at "w") | ((with_reducible apply p_listD); walk_at "o"; walk_at "w") | ((with_reducible apply p_tupleD); walk_at "o"; walk_at "w") | ((with_reducible apply p_intD); walk_at "o"; walk_at "w") | ((with_reducible apply p_strD); walk_at "o"; walk_at "w") | ((with_reducible apply p_oTup); walk_at "o"; walk_at "w") | ((with_reducible apply p_oLst); walk_at "o"; walk_at "w") | ((with_reducible apply p_isiD); walk_at "o"; walk_at "w") | ((with_reducible apply p_negD); walk_at "o"; walk_at "w")
  | skip)
theorem alike_same : ∀ (n : Nat) {d : D} (w : W), Pl n d → m_law_alike (n + 1) [d, d] w = .ret (.bl true, w) := by
  intro n
  induction n with
  | zero =>
    intro d w h
    refine u_fn ?_
    unfold b_law_alike
    cases h with
    | non => walk_at "s"
    | int i => walk_at "s"
    | bl b => cases b <;> walk_at "s"
    | str x => walk_at "s"
  | succ n ih =>
    intro d w h
    refine u_fn ?_
    unfold b_law_alike
    cases h with
    | non => walk_at "s"
    | int i => walk_at "s"
    | bl b => cases b <;> walk_at "s"
    | str x => walk_at "s"
    | @lst _ l h hl =>
      have k := alike_all (f := m_law_alike (n + 1)) (x := .lst l) (w := w) (.inl rfl) hl fun d hd => ih w (h d hd)
      apply u_seq
      · walk_at "s"
      apply u_seqR
      apply u_if1
      · walk_at "e"
      apply u_seq
      · walk_at "s"
      apply u_ret
      apply v_and1
      · walk_at "e"
      · rfl
      apply v_args
      · apply v_cons
        · exact u_lc (u_itR1 (by walk_at "e") (r1_len (by omega))) k
        · exact v_nil
      exact rep_all
    | @tup _ l h hl =>
      have k := alike_all (f := m_law_alike (n + 1)) (x := .tup l) (w := w) (.inr rfl) hl fun d hd => ih w (h d hd)
      apply u_seq
      · walk_at "s"
      apply u_seqR
      apply u_if1
      · walk_at "e"
      apply u_seq
      · walk_at "s"
      apply u_ret
      apply v_and1
      · walk_at "e"
      · rfl
      apply v_args
      · apply v_cons
        · exact u_lc (u_itR1 (by walk_at "e") (r1_len (by omega))) k
        · exact v_nil
      exact rep_all
theorem pick_wp {Q : D → W → Prop} {E : Er → Prop} {i : Nat} {l : List D} {w : W} (hw : w[i]? = some (some .bag)) (h0 : 0 < l.length) (h1 : l.length ≤ 1000) (h : ∀ x ∈ l, Q x w) : (m_law_pick [.box i, .lst l] w).wp2 Q E := by
  refine q_fn (q_ret (q_bin (p_ev (v_V rfl) (q_args (p_ev (w1 := w) (a := [.box i, .int (l.length : Int)]) ?_ (q_chk rfl (draw_wp hw (by omega) (by omega) fun d d0 d1 => ?_)))))))
  · walk_at "e"
  · obtain ⟨x, hx, e⟩ := atI_mem d0 d1
    refine p_ev (a := x) (w1 := w) ?_ (h x hx)
    unfold ixD
    simp only [peek, e]
theorem is_int_int {i : Int} {w : W} : m_is_integer [.int i] w = .ret (.bl true, w) := rfl
theorem is_row_row {i j : Int} {w : W} : m_is_row [.tup [.int i, .int j]] w = .ret (.bl true, w) := rfl
theorem place_row {i j : Int} {w : W} : m_place_of [.tup [.int i, .int j]] w = .ret (.tup [.int j, .int i], w) := rfl
theorem odds_is {w : W} : m_law_odds [] w = .ret (.lst [.non, .int 3, .str "", .tup [], .tup [.int 1], .tup [.int 1, .int 2, .int 3], .tup [.bl true, .int 2], .tup [.int 1, .str "2"], .lst [.int 1, .int 2], .tup [.str "1", .int 2], .tup [.non, .int 1], .tup [.tup [.int 1, .int 2]]], w) := by
  apply u_fn
  unfold b_law_odds
  walk_at "s"
theorem odd_row {x : D} {w : W} (h : x ∈ ([.non, .int 3, .str "", .tup [], .tup [.int 1], .tup [.int 1, .int 2, .int 3], .tup [.bl true, .int 2], .tup [.int 1, .str "2"], .lst [.int 1, .int 2], .tup [.str "1", .int 2], .tup [.non, .int 1], .tup [.tup [.int 1, .int 2]]] : List D)) : m_is_row [x] w = .ret (.bl false, w) := by
  simp only [List.mem_cons, List.not_mem_nil, or_false] at h
  rcases h with h | h | h | h | h | h | h | h | h | h | h | h <;> subst h <;> rfl
theorem odd_int {x : D} {w : W} (h : x ∈ ([.non, .bl true, .bl false, .str "1", .tup [.int 1], .lst [.int 1], .tup []] : List D)) : m_is_integer [x] w = .ret (.bl false, w) := by
  simp only [List.mem_cons, List.not_mem_nil, or_false] at h
  rcases h with h | h | h | h | h | h | h <;> subst h <;> rfl
theorem row00 {w : W} : m_is_row [.tup [.tup [.int 0, .int 0]]] w = .ret (.bl false, w) := rfl
theorem list_row {i j : Int} {w : W} : m_is_row [.lst [.int i, .int j]] w = .ret (.bl false, w) := rfl
theorem bag_new {w : W} {ns : List Int} : mBag [.scr ns] w = .ret (.box w.length, w ++ [some .bag]) := rfl
theorem alike4 {d : D} {w : W} (h : Pl 3 d) : m_law_alike 4 [d, d] w = .ret (.bl true, w) := alike_same 3 w h
theorem found_pl {i j : Int} : Pl 3 (.lst [.bl true, .bl true, .tup [.int i, .int j]]) := by
  refine .lst (fun d hd => ?_) (Nat.le_of_ble_eq_true rfl)
  simp only [List.mem_cons, List.not_mem_nil, or_false] at hd
  rcases hd with rfl | rfl | rfl
  · exact .bl _
  · exact .bl _
  · refine .tup (fun d hd => ?_) (Nat.le_of_ble_eq_true rfl)
    simp only [List.mem_cons, List.not_mem_nil, or_false] at hd
    rcases hd with rfl | rfl <;> exact .int _
local macro_rules | `(tactic| walk_at "c") => `(tactic| first | with_reducible exact bag_new | with_reducible exact is_int_int | with_reducible exact is_row_row | with_reducible exact place_row | with_reducible exact odds_is | with_reducible exact list_row | with_reducible exact row00 | with_reducible exact alike4 found_pl | assumption)
theorem law_true (ns : List Int) (_ : ns.length ≤ 63) : (m_law [.scr ns] []).wp (fun p => p.1 = .bl true) fun _ => False := by
  refine law_wp (q_fn ?_)
  unfold b_law
  walk_at "w"
  refine q_for (fun ds w => ∃ a b c d, ds = [some (.scr ns), some (.box 0), a, b, c, d] ∧ w = [some .bag]) (u_itR1 v_C (by rfl)) ⟨_, _, _, _, rfl, rfl⟩ ?_ ?_
  · rintro t ht ds w ⟨a, b, c, d, rfl, rfl⟩
    refine ⟨_, rfl, ?_⟩
    walk_at "w"
    with_reducible apply draw_wp
    · rfl
    · decide
    · decide
    intro n n0 n1
    walk_at "w"
    with_reducible apply draw_wp
    · rfl
    · decide
    · decide
    intro z z0 z1
    walk_at "w"
    with_reducible apply pick_wp
    · rfl
    · exact Nat.zero_lt_succ _
    · exact Nat.le_of_ble_eq_true rfl
    intro key hk
    obtain ⟨k, rfl⟩ : ∃ k, key = .int k := by
      simp only [List.mem_cons, List.not_mem_nil, or_false] at hk
      rcases hk with rfl | rfl | rfl | rfl | rfl <;> exact ⟨_, rfl⟩
    walk_at "w"
    with_reducible apply pick_wp
    · rfl
    · exact Nat.zero_lt_succ _
    · exact Nat.le_of_ble_eq_true rfl
    intro odd ho
    have ho := odd_row (w := [some .bag]) ho
    walk_at "w"
    with_reducible apply pick_wp
    · rfl
    · exact Nat.zero_lt_succ _
    · exact Nat.le_of_ble_eq_true rfl
    intro odd2 ho2
    have ho2 := odd_int (w := [some .bag]) ho2
    walk_at "w"
    refine p_ev ho2 ?_
    walk_at "w"
    exact ⟨_, _, _, _, rfl, rfl⟩
  · rintro ds w ⟨a, b, c, d, rfl, rfl⟩
    walk_at "w"
    rfl
end Lw

set_option Elab.async false
set_option linter.all false
set_option maxRecDepth 100000
set_option maxHeartbeats 4000000
namespace Lw
open PySem L2 Gd
theorem all_mk {l : PySem.W.OpenLaw} {w : World} {K : PySem.W.Frag} {h : Heap} {mg : Str → Option Value} {fa f0 f1 f2 f3 f4 f5 f6 f7 f8 : Addr} (X : K.In h) (G : h.Ns mainGlobals mg) (hfa : mg "law" = some (.ref fa))
    {od0 an0 : Option Addr} {sl0 : Array (Option Value)} {oc0 kV0 dc0 pm0 cd0 ct0 : Value}
    {od1 an1 : Option Addr} {sl1 : Array (Option Value)} {oc1 kV1 dc1 pm1 cd1 ct1 : Value}
    {od2 an2 : Option Addr} {sl2 : Array (Option Value)} {oc2 kV2 dc2 pm2 cd2 ct2 : Value}
    {od3 an3 : Option Addr} {sl3 : Array (Option Value)} {oc3 kV3 dc3 pm3 cd3 ct3 : Value}
    {od4 an4 : Option Addr} {sl4 : Array (Option Value)} {oc4 kV4 dc4 pm4 cd4 ct4 : Value}
    {od5 an5 : Option Addr} {sl5 : Array (Option Value)} {oc5 kV5 dc5 pm5 cd5 ct5 : Value}
    {od6 an6 : Option Addr} {sl6 : Array (Option Value)} {oc6 kV6 dc6 pm6 cd6 ct6 : Value}
    {od7 an7 : Option Addr} {sl7 : Array (Option Value)} {oc7 kV7 dc7 pm7 cd7 ct7 : Value}
    {od8 an8 : Option Addr} {sl8 : Array (Option Value)} {oc8 kV8 dc8 pm8 cd8 ct8 : Value}
    (a0 : PySem.W.nsIn K mainGlobals "_law_bag" = some (some (.ref f0))) (l0 : K.lookup f0 = some ⟨oc0, od0, .func (PySem.W.fnOf "_law_bag" "_law_bag" (defArgs s_law_bag) (defBody s_law_bag) (defScope s_law_bag) .none kV0 dc0 pm0 an0 cd0 ct0), sl0⟩) (c0 : PySem.W.codeIn K cd0 "_law_bag" = true) (k0 : PySem.W.keepIn K (.ref f0) = true)
    (a1 : PySem.W.nsIn K mainGlobals "_law_draw" = some (some (.ref f1))) (l1 : K.lookup f1 = some ⟨oc1, od1, .func (PySem.W.fnOf "_law_draw" "_law_draw" (defArgs s_law_draw) (defBody s_law_draw) (defScope s_law_draw) .none kV1 dc1 pm1 an1 cd1 ct1), sl1⟩) (c1 : PySem.W.codeIn K cd1 "_law_draw" = true) (k1 : PySem.W.keepIn K (.ref f1) = true)
    (a2 : PySem.W.nsIn K mainGlobals "_law_pick" = some (some (.ref f2))) (l2 : K.lookup f2 = some ⟨oc2, od2, .func (PySem.W.fnOf "_law_pick" "_law_pick" (defArgs s_law_pick) (defBody s_law_pick) (defScope s_law_pick) .none kV2 dc2 pm2 an2 cd2 ct2), sl2⟩) (c2 : PySem.W.codeIn K cd2 "_law_pick" = true) (k2 : PySem.W.keepIn K (.ref f2) = true)
    (a3 : PySem.W.nsIn K mainGlobals "_law_alike" = some (some (.ref f3))) (l3 : K.lookup f3 = some ⟨oc3, od3, .func (PySem.W.fnOf "_law_alike" "_law_alike" (defArgs s_law_alike) (defBody s_law_alike) (defScope s_law_alike) .none kV3 dc3 pm3 an3 cd3 ct3), sl3⟩) (c3 : PySem.W.codeIn K cd3 "_law_alike" = true) (k3 : PySem.W.keepIn K (.ref f3) = true)
    (a4 : PySem.W.nsIn K mainGlobals "is_integer" = some (some (.ref f4))) (l4 : K.lookup f4 = some ⟨oc4, od4, .func (PySem.W.fnOf "is_integer" "is_integer" (defArgs s_is_integer) (defBody s_is_integer) (defScope s_is_integer) .none kV4 dc4 pm4 an4 cd4 ct4), sl4⟩) (c4 : PySem.W.codeIn K cd4 "is_integer" = true) (k4 : PySem.W.keepIn K (.ref f4) = true)
    (a5 : PySem.W.nsIn K mainGlobals "is_row" = some (some (.ref f5))) (l5 : K.lookup f5 = some ⟨oc5, od5, .func (PySem.W.fnOf "is_row" "is_row" (defArgs s_is_row) (defBody s_is_row) (defScope s_is_row) .none kV5 dc5 pm5 an5 cd5 ct5), sl5⟩) (c5 : PySem.W.codeIn K cd5 "is_row" = true) (k5 : PySem.W.keepIn K (.ref f5) = true)
    (a6 : PySem.W.nsIn K mainGlobals "place_of" = some (some (.ref f6))) (l6 : K.lookup f6 = some ⟨oc6, od6, .func (PySem.W.fnOf "place_of" "place_of" (defArgs s_place_of) (defBody s_place_of) (defScope s_place_of) .none kV6 dc6 pm6 an6 cd6 ct6), sl6⟩) (c6 : PySem.W.codeIn K cd6 "place_of" = true) (k6 : PySem.W.keepIn K (.ref f6) = true)
    (a7 : PySem.W.nsIn K mainGlobals "_law_odds" = some (some (.ref f7))) (l7 : K.lookup f7 = some ⟨oc7, od7, .func (PySem.W.fnOf "_law_odds" "_law_odds" (defArgs s_law_odds) (defBody s_law_odds) (defScope s_law_odds) .none kV7 dc7 pm7 an7 cd7 ct7), sl7⟩) (c7 : PySem.W.codeIn K cd7 "_law_odds" = true) (k7 : PySem.W.keepIn K (.ref f7) = true)
    (a8 : PySem.W.nsIn K mainGlobals "law" = some (some (.ref f8))) (l8 : K.lookup f8 = some ⟨oc8, od8, .func (PySem.W.fnOf "law" "law" (defArgs s_law) (defBody s_law) (defScope s_law) .none kV8 dc8 pm8 an8 cd8 ct8), sl8⟩) (c8 : PySem.W.codeIn K cd8 "law" = true) (k8 : PySem.W.keepIn K (.ref f8) = true)
    (z_all : PySem.W.nsIn K mainGlobals "all" = some none) (z_bool : PySem.W.nsIn K mainGlobals "bool" = some none) (z_int : PySem.W.nsIn K mainGlobals "int" = some none) (z_isinstance : PySem.W.nsIn K mainGlobals "isinstance" = some none) (z_len : PySem.W.nsIn K mainGlobals "len" = some none) (z_list : PySem.W.nsIn K mainGlobals "list" = some none) (z_range : PySem.W.nsIn K mainGlobals "range" = some none) (z_str : PySem.W.nsIn K mainGlobals "str" = some none) (z_tuple : PySem.W.nsIn K mainGlobals "tuple" = some none) :
    ∃ fd : FuncData, (∀ (s : Shared) (v : Value), BindsTo s fd ⟨[v], []⟩ [("_law_script", v)]) ∧ ∀ base : Heap, K.In base → base.Ns mainGlobals mg → FnOk l.prog w K mg base (L2.CX l.prog w) 5 fa fd ["_law_script"] (spLaw K) := by
  have e := hfa.symm.trans (PySem.W.mg_of X G a8)
  cases e
  have F0 := fun_mk (st := s_law_bag) l0 c0 k0
  have b0 := F0.binds (ps := ["_law_script"]) fun _ _ _ _ _ _ us hl => match us, hl with | [_], _ => rfl
  have F1 := fun_mk (st := s_law_draw) l1 c1 k1
  have b1 := F1.binds (ps := ["_law_bag_here", "_law_many"]) fun _ _ _ _ _ _ us hl => match us, hl with | [_, _], _ => rfl
  have F2 := fun_mk (st := s_law_pick) l2 c2 k2
  have b2 := F2.binds (ps := ["_law_bag_here", "_law_some"]) fun _ _ _ _ _ _ us hl => match us, hl with | [_, _], _ => rfl
  have F3 := fun_mk (st := s_law_alike) l3 c3 k3
  have b3 := F3.binds (ps := ["_law_found", "_law_due"]) fun _ _ _ _ _ _ us hl => match us, hl with | [_, _], _ => rfl
  have F4 := fun_mk (st := s_is_integer) l4 c4 k4
  have b4 := F4.binds (ps := ["value"]) fun _ _ _ _ _ _ us hl => match us, hl with | [_], _ => rfl
  have F5 := fun_mk (st := s_is_row) l5 c5 k5
  have b5 := F5.binds (ps := ["value"]) fun _ _ _ _ _ _ us hl => match us, hl with | [_], _ => rfl
  have F6 := fun_mk (st := s_place_of) l6 c6 k6
  have b6 := F6.binds (ps := ["row"]) fun _ _ _ _ _ _ us hl => match us, hl with | [_], _ => rfl
  have F7 := fun_mk (st := s_law_odds) l7 c7 k7
  have b7 := F7.binds (ps := []) fun _ _ _ _ _ _ us hl => match us, hl with | [], _ => rfl
  have F8 := fun_mk (st := s_law) l8 c8 k8
  have b8 := F8.binds (ps := ["_law_script"]) fun _ _ _ _ _ _ us hl => match us, hl with | [_], _ => rfl
  have T : Tx K mg (fun i => match i with | 0 => f0 | 1 => f1 | 2 => f2 | 3 => f3 | 4 => f4 | 5 => f5 | 6 => f6 | 7 => f7 | 8 => fa | _ => f0) (fun i => match i with | 0 => PySem.W.fnOf "_law_bag" "_law_bag" (defArgs s_law_bag) (defBody s_law_bag) (defScope s_law_bag) .none kV0 dc0 pm0 an0 cd0 ct0 | 1 => PySem.W.fnOf "_law_draw" "_law_draw" (defArgs s_law_draw) (defBody s_law_draw) (defScope s_law_draw) .none kV1 dc1 pm1 an1 cd1 ct1 | 2 => PySem.W.fnOf "_law_pick" "_law_pick" (defArgs s_law_pick) (defBody s_law_pick) (defScope s_law_pick) .none kV2 dc2 pm2 an2 cd2 ct2 | 3 => PySem.W.fnOf "_law_alike" "_law_alike" (defArgs s_law_alike) (defBody s_law_alike) (defScope s_law_alike) .none kV3 dc3 pm3 an3 cd3 ct3 | 4 => PySem.W.fnOf "is_integer" "is_integer" (defArgs s_is_integer) (defBody s_is_integer) (defScope s_is_integer) .none kV4 dc4 pm4 an4 cd4 ct4 | 5 => PySem.W.fnOf "is_row" "is_row" (defArgs s_is_row) (defBody s_is_row) (defScope s_is_row) .none kV5 dc5 pm5 an5 cd5 ct5 | 6 => PySem.W.fnOf "place_of" "place_of" (defArgs s_place_of) (defBody s_place_of) (defScope s_place_of) .none kV6 dc6 pm6 an6 cd6 ct6 | 7 => PySem.W.fnOf "_law_odds" "_law_odds" (defArgs s_law_odds) (defBody s_law_odds) (defScope s_law_odds) .none kV7 dc7 pm7 an7 cd7 ct7 | 8 => PySem.W.fnOf "law" "law" (defArgs s_law) (defBody s_law) (defScope s_law) .none kV8 dc8 pm8 an8 cd8 ct8 | _ => PySem.W.fnOf "_law_bag" "_law_bag" (defArgs s_law_bag) (defBody s_law_bag) (defScope s_law_bag) .none kV0 dc0 pm0 an0 cd0 ct0) := ⟨⟨F0, b0, PySem.W.mg_of X G a0⟩, ⟨F1, b1, PySem.W.mg_of X G a1⟩, ⟨F2, b2, PySem.W.mg_of X G a2⟩, ⟨F3, b3, PySem.W.mg_of X G a3⟩, ⟨F4, b4, PySem.W.mg_of X G a4⟩, ⟨F5, b5, PySem.W.mg_of X G a5⟩, ⟨F6, b6, PySem.W.mg_of X G a6⟩, ⟨F7, b7, PySem.W.mg_of X G a7⟩, ⟨F8, b8, PySem.W.mg_of X G a8⟩, PySem.W.mg_none_of X G z_all, PySem.W.mg_none_of X G z_bool, PySem.W.mg_none_of X G z_int, PySem.W.mg_none_of X G z_isinstance, PySem.W.mg_none_of X G z_len, PySem.W.mg_none_of X G z_list, PySem.W.mg_none_of X G z_range, PySem.W.mg_none_of X G z_str, PySem.W.mg_none_of X G z_tuple⟩
  exact ⟨PySem.W.fnOf "law" "law" (defArgs s_law) (defBody s_law) (defScope s_law) .none kV8 dc8 pm8 an8 cd8 ct8, fun s v => .of_eq rfl, fun base _ _ => law_M (cl := fun _ => 0) (ok_law T) law_true⟩
end Lw
open PySem PySem.W PyProof.Rows
set_option maxRecDepth 100000 in
set_option maxHeartbeats 0 in
theorem PySem.Challenge.cw_pagefates_k02_rows_and_integers_holds : PySem.Challenge.rw_pagefates_k02_rows_and_integers.Holds := by
  w_on; o_law; k_head; (case hw => w_witness2)
  k_fill
  refine L2.walk_of (l := PySem.Challenge.rw_pagefates_k02_rows_and_integers) (n := 63) (k := 5) (x := "_law_script") (CX := fun w => L2.CX (PySem.Challenge.rw_pagefates_k02_rows_and_integers).prog w) (sp := fun w => Gd.spLaw _) rfl (by decide) rfl ⟨rfl, by decide, by decide⟩ (fun w h Y => PySem.W.kIn_of Y) ?F (fun _ _ a ns hl _ hS => ⟨a, ns, rfl, hS, hl, fun _ => rfl⟩) (fun _ _ _ _ _ h => by obtain ⟨_, _, _, _, _, _, _, _, _, _, _, _, z⟩ := h; exact z)
  case F =>
    intro w mg fa h KX G hmg
    refine' Lw.all_mk KX G hmg ?a0 ?l0 ?c0 ?k0 ?a1 ?l1 ?c1 ?k1 ?a2 ?l2 ?c2 ?k2 ?a3 ?l3 ?c3 ?k3 ?a4 ?l4 ?c4 ?k4 ?a5 ?l5 ?c5 ?k5 ?a6 ?l6 ?c6 ?k6 ?a7 ?l7 ?c7 ?k7 ?a8 ?l8 ?c8 ?k8 ?z_all ?z_bool ?z_int ?z_isinstance ?z_len ?z_list ?z_range ?z_str ?z_tuple
    (case a0 => k_is)
    (case l0 => k_is)
    (case c0 => k_is)
    (case k0 => k_is)
    (case a1 => k_is)
    (case l1 => k_is)
    (case c1 => k_is)
    (case k1 => k_is)
    (case a2 => k_is)
    (case l2 => k_is)
    (case c2 => k_is)
    (case k2 => k_is)
    (case a3 => k_is)
    (case l3 => k_is)
    (case c3 => k_is)
    (case k3 => k_is)
    (case a4 => k_is)
    (case l4 => k_is)
    (case c4 => k_is)
    (case k4 => k_is)
    (case a5 => k_is)
    (case l5 => k_is)
    (case c5 => k_is)
    (case k5 => k_is)
    (case a6 => k_is)
    (case l6 => k_is)
    (case c6 => k_is)
    (case k6 => k_is)
    (case a7 => k_is)
    (case l7 => k_is)
    (case c7 => k_is)
    (case k7 => k_is)
    (case a8 => k_is)
    (case l8 => k_is)
    (case c8 => k_is)
    (case k8 => k_is)
    (case z_all => k_is)
    (case z_bool => k_is)
    (case z_int => k_is)
    (case z_isinstance => k_is)
    (case z_len => k_is)
    (case z_list => k_is)
    (case z_range => k_is)
    (case z_str => k_is)
    (case z_tuple => k_is)
